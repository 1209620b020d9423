import PyProof.Rows.All
import Wide.All
import OpenK.AllK
import Wide.FinOn
import HandS.ForMost
import HandS.Evl
import HandS.Lambda
import HandS.ExcInit
import HandS.Property
import HandS.Defaults
import HandS.Exc
import HandS.ExcOwn
import HandS.WordsExc
import HandS.Wide
import HandS.OwnEq
import KE.KOpsOwn
import HandS.List
import HandS.Text
import HandS.Codes
import HandS.Dict
import HandS.RaiseMore
import HandS.WordsDict
import HandS.IsInst
import HandS.AnyAll
import HandS.Comp
import HandS.FStr
import HandS.Small
import PyProof.NeKinds
import HandS.ClsMeth
import HandS.HeadNt
import HandS.Style
import HandS.HeadEnd
import HandS.Head0
import HandS.Head1
import HandS.Head2
import KE.KCallOwn
import KE.KFmtOwn
import PyProof.Rows.RuleN_abs
import HandS.EndBits
import PyProof.ReprRoads
import OpenK.KMore
import HandS.ExcField
import HandS.ExcIs
import KE.KExcIs
import KE.KExcInit
import HandS.ExcValue
import HandS.EndTab
import HandS.EndOwn
import PySem.Challenge.RW_movedsums_k02_amounts_in_lowest_terms
section
set_option Elab.async false
set_option linter.all false
set_option maxRecDepth 100000
set_option maxHeartbeats 4000000
namespace Mv
open PySem PySem.Spec L2
open Evl (Ex ex_l ex_t ex_rd)

/-! ## names of fields by numbers -/
structure Tab where
  nm : Nat → Str
  inj : ∀ i j, nm i = nm j → i = j

/-! ## data -/
inductive D where
  | non | bl (b : Bool) | int (i : Int) | str (s : Str) | ty (n : String)
  | ptr (a : Addr)
  | tup (ds : List D) | lst (ds : List D)
  | dK (kvs : List (Key × D)) | dT (kvs : List (List Key × D))
  | ins (c : Nat) (fs : List (Nat × D))
  | exn (c : Nat) (fs : List (Nat × D))
  /-- a list that came in from outside: it is only cut -/
  | frl (ds : List D)
  /-- a lambda -/
  | lam (f c : Addr) (q : Str) (F0 : Hp)

/-- what the layer leans on: the written part, the fields' names, the classes' addresses -/
structure Sy where
  K : PySem.W.Frag
  t : Tab
  ca : Nat → Addr
  cai : ∀ i j, ca i = ca j → i = j
  /-- the classes that the text has -/
  cl : List Nat
  /-- the tables of code objects, each with the name that its lambdas bear -/
  T : List (Addr × Str) := []

/-- an exception object that is held -/
def exK (a C dx : Addr) : HO := .ext fun h => ∃ (oe : Obj) (vs : Array Value), h.get? a = some oe ∧ oe.cls = .ref C ∧ oe.dict = some dx ∧ oe.data = .fields vs
section
variable (S : Sy) (F : Hp)
mutual
inductive Rp : V → D → Prop
  | non : Rp .non .non
  | bl (b : Bool) : Rp (.bl b) (.bl b)
  | int (i : Int) : Rp (.int i) (.int i)
  | str (s : Str) : Rp (.str s) (.str s)
  | ty (n : String) : Rp (.ty n) (.ty n)
  | ptr (a : Addr) : Rp (.ref a) (.ptr a)
  | tup {a : Addr} {vs : List V} {ds : List D} : SqT S.K F a vs → Rps vs ds → Rp (.ref a) (.tup ds)
  | lst {a : Addr} {vs : List V} {ds : List D} : F a = some (.lst vs) → Rps vs ds → Rp (.ref a) (.lst ds)
  | dK {a : Addr} {vs : List (Key × V)} {ds : List (Key × D)} : F a = some (.dK vs) → Rpk vs ds → Rp (.ref a) (.dK ds)
  | dT {a : Addr} {vs : List (List Key × V)} {ds : List (List Key × D)} : F a = some (.dT vs) → Rpt vs ds → Rp (.ref a) (.dT ds)
  | frl {a : Addr} {vs : List V} {ds : List D} : SqL S.K F a vs → Rps vs ds → Rp (.ref a) (.frl ds)
  | ins {a dx : Addr} {c : Nat} {vs : List (Str × V)} {fs : List (Nat × D)} : F a = some (.ins (S.ca c) dx vs) → Rpf vs fs → Rp (.ref a) (.ins c fs)
  | exn {a dx : Addr} {c : Nat} {vs : List (Str × V)} {fs : List (Nat × D)} : F a = some (exK a (S.ca c) dx) → F dx = some (.xd vs) → Rpf vs fs → Rp (.ref a) (.exn c fs)
  | lam {f c : Addr} {q : Str} {F0 : Hp} : F c = some (LamX.CodeO c q) → Ex F0 F → Rp (.ref f) (.lam f c q F0)
inductive Rps : List V → List D → Prop
  | nil : Rps [] []
  | cons {v : V} {d : D} {vs : List V} {ds : List D} : Rp v d → Rps vs ds → Rps (v :: vs) (d :: ds)
inductive Rpk : List (Key × V) → List (Key × D) → Prop
  | nil : Rpk [] []
  | cons {k : Key} {v : V} {d : D} {vs : List (Key × V)} {ds : List (Key × D)} : Rp v d → Rpk vs ds → Rpk ((k, v) :: vs) ((k, d) :: ds)
inductive Rpt : List (List Key × V) → List (List Key × D) → Prop
  | nil : Rpt [] []
  | cons {k : List Key} {v : V} {d : D} {vs : List (List Key × V)} {ds : List (List Key × D)} : Rp v d → Rpt vs ds → Rpt ((k, v) :: vs) ((k, d) :: ds)
inductive Rpf : List (Str × V) → List (Nat × D) → Prop
  | nil : Rpf [] []
  | cons {k : Nat} {v : V} {d : D} {vs : List (Str × V)} {ds : List (Nat × D)} : Rp v d → Rpf vs ds → Rpf ((S.t.nm k, v) :: vs) ((k, d) :: ds)
end
end

section
variable {S : Sy} {F F' : Hp}
mutual
theorem Rp.mono (e : Ex F F') : ∀ {v : V} {d : D}, Rp S F v d → Rp S F' v d
  | _, _, .non => .non
  | _, _, .bl b => .bl b
  | _, _, .int i => .int i
  | _, _, .str s => .str s
  | _, _, .ty n => .ty n
  | _, _, .ptr a => .ptr a
  | _, _, .tup h r => .tup (ex_t e h) (Rps.mono e r)
  | _, _, .lst h r => .lst (e _ _ h) (Rps.mono e r)
  | _, _, .frl h r => .frl (ex_l e h) (Rps.mono e r)
  | _, _, .dK h r => .dK (e _ _ h) (Rpk.mono e r)
  | _, _, .dT h r => .dT (e _ _ h) (Rpt.mono e r)
  | _, _, .ins h r => .ins (e _ _ h) (Rpf.mono e r)
  | _, _, .exn h h2 r => .exn (e _ _ h) (e _ _ h2) (Rpf.mono e r)
  | _, _, .lam h h2 => .lam (e _ _ h) (h2.trans e)
theorem Rps.mono (e : Ex F F') : ∀ {v : List V} {d : List D}, Rps S F v d → Rps S F' v d
  | _, _, .nil => .nil
  | _, _, .cons h r => .cons (Rp.mono e h) (Rps.mono e r)
theorem Rpk.mono (e : Ex F F') : ∀ {v : List (Key × V)} {d : List (Key × D)}, Rpk S F v d → Rpk S F' v d
  | _, _, .nil => .nil
  | _, _, .cons h r => .cons (Rp.mono e h) (Rpk.mono e r)
theorem Rpt.mono (e : Ex F F') : ∀ {v : List (List Key × V)} {d : List (List Key × D)}, Rpt S F v d → Rpt S F' v d
  | _, _, .nil => .nil
  | _, _, .cons h r => .cons (Rp.mono e h) (Rpt.mono e r)
theorem Rpf.mono (e : Ex F F') : ∀ {v : List (Str × V)} {d : List (Nat × D)}, Rpf S F v d → Rpf S F' v d
  | _, _, .nil => .nil
  | _, _, .cons h r => .cons (Rp.mono e h) (Rpf.mono e r)
end
theorem Rps.length : ∀ {vs : List V} {ds : List D}, Rps S F vs ds → vs.length = ds.length
  | _, _, .nil => rfl
  | _, _, .cons _ r => congrArg (· + 1) (Rps.length r)
theorem Rps.get : ∀ {vs : List V} {ds : List D} {i : Nat} {d : D}, Rps S F vs ds → ds[i]? = some d → ∃ v, vs[i]? = some v ∧ Rp S F v d
  | _, _, _, _, .nil, e => by simp at e
  | _, _, 0, _, .cons r _, e => by simp at e; subst e; exact ⟨_, rfl, r⟩
  | _, _, i + 1, _, .cons _ t, e => by
    obtain ⟨v, h1, h2⟩ := Rps.get (i := i) t (by simpa using e)
    exact ⟨v, by simpa using h1, h2⟩
theorem Rps.append : ∀ {vs ws : List V} {ds es : List D}, Rps S F vs ds → Rps S F ws es → Rps S F (vs ++ ws) (ds ++ es)
  | _, _, _, _, .nil, s => s
  | _, _, _, _, .cons r t, s => .cons r (Rps.append t s)
theorem Rpf.look {i : Nat} : ∀ {vs : List (Str × V)} {fs : List (Nat × D)} {d : D}, Rpf S F vs fs → fs.lookup i = some d → ∃ v, vs.lookup (S.t.nm i) = some v ∧ Rp S F v d
  | _, _, _, .nil, e => by cases e
  | _, _, d, .cons (k := k) (vs := vs) (ds := ds) r t, e => by
    by_cases h : i = k
    · subst h
      simp [List.lookup] at e
      subst e
      exact ⟨_, by simp [List.lookup], r⟩
    · have h1 : (i == k) = false := by simpa using h
      have h2 : (S.t.nm i == S.t.nm k) = false := by
        simp only [beq_eq_false_iff_ne]
        exact fun q => h (S.t.inj _ _ q)
      simp only [List.lookup, h1] at e
      obtain ⟨v, e1, e2⟩ := Rpf.look t e
      exact ⟨v, by simp only [List.lookup, h2]; exact e1, e2⟩
theorem Rpf.look0 {i : Nat} : ∀ {vs : List (Str × V)} {fs : List (Nat × D)}, Rpf S F vs fs → fs.lookup i = none → vs.lookup (S.t.nm i) = none
  | _, _, .nil, _ => rfl
  | _, _, .cons (k := k) (vs := vs) (ds := ds) r t, e => by
    by_cases h : i = k
    · subst h
      simp [List.lookup] at e
    · have h1 : (i == k) = false := by simpa using h
      have h2 : (S.t.nm i == S.t.nm k) = false := by
        simp only [beq_eq_false_iff_ne]
        exact fun q => h (S.t.inj _ _ q)
      simp only [List.lookup, h1] at e
      simp only [List.lookup, h2]
      exact Rpf.look0 t e
theorem Rpf.length : ∀ {vs : List (Str × V)} {ds : List (Nat × D)}, Rpf S F vs ds → vs.length = ds.length
  | _, _, .nil => rfl
  | _, _, .cons _ r => congrArg (· + 1) (Rpf.length r)
/-- a field stored -/
def putN (i : Nat) (d : D) : List (Nat × D) → List (Nat × D)
  | [] => [(i, d)]
  | (k, x) :: r => if k = i then (k, d) :: r else (k, x) :: putN i d r
theorem Rpf.put {i : Nat} {v : V} {d : D} (r0 : Rp S F v d) : ∀ {vs : List (Str × V)} {fs : List (Nat × D)}, Rpf S F vs fs → Rpf S F (putF (S.t.nm i) v vs) (putN i d fs)
  | _, _, .nil => .cons r0 .nil
  | _, _, .cons (k := k) (v := w) (vs := vs) (ds := ds) r t => by
    show Rpf S F (if S.t.nm k = S.t.nm i then (S.t.nm k, v) :: vs else (S.t.nm k, w) :: putF (S.t.nm i) v vs) (if k = i then (k, d) :: ds else (k, _) :: putN i d ds)
    by_cases h : k = i
    · rw [if_pos h, if_pos (congrArg _ h)]
      exact .cons r0 t
    · rw [if_neg h, if_neg fun q => h (S.t.inj _ _ q)]
      exact .cons r (Rpf.put r0 t)
end

/-! ## the world of what may change -/
inductive M where
  | lst (ds : List D) | dK (kvs : List (Key × D)) | dT (kvs : List (List Key × D)) | ins (c : Nat) (fs : List (Nat × D))
def M.d : M → D
  | .lst ds => .lst ds
  | .dK k => .dK k
  | .dT k => .dT k
  | .ins c fs => .ins c fs
abbrev Wd := Addr → Option M
def put (W : Wd) (a : Addr) (m : M) : Wd := fun b => if b = a then some m else W b
def cut (W : Wd) (a : Addr) : Wd := fun b => if b = a then none else W b
theorem put_same {W : Wd} {a : Addr} {m : M} : put W a m a = some m := if_pos rfl
theorem put_ne {W : Wd} {a b : Addr} {m : M} (h : b ≠ a) : put W a m b = W b := if_neg h
theorem put_put {W : Wd} {a : Addr} {m n : M} : put (put W a m) a n = put W a n := by
  funext b; unfold put; split <;> rfl
theorem cut_put {W : Wd} {a : Addr} {m : M} (h : W a = none) : cut (put W a m) a = W := by
  funext b; unfold cut put
  by_cases e : b = a
  · rw [if_pos e, e, h]
  · rw [if_neg e, if_neg e]
theorem put_get {W : Wd} {a : Addr} {m : M} (h : W a = some m) : put W a m = W := by
  funext b; unfold put
  by_cases e : b = a
  · rw [if_pos e, e, h]
  · rw [if_neg e]

def MO (S : Sy) (F : Hp) (o : Option HO) : M → Prop
  | .lst ds => ∃ vs, o = some (.lst vs) ∧ Rps S F vs ds
  | .dK ds => ∃ vs, o = some (.dK vs) ∧ Rpk S F vs ds
  | .dT ds => ∃ vs, o = some (.dT vs) ∧ Rpt S F vs ds
  | .ins c fs => ∃ dx vs, o = some (.ins (S.ca c) dx vs) ∧ Rpf S F vs fs
theorem MO.mono {S : Sy} {F F' : Hp} (e : Ex F F') {o : Option HO} {m : M} (h : MO S F o m) : MO S F' o m := by
  cases m with
  | lst ds => obtain ⟨vs, a, b⟩ := h; exact ⟨vs, a, b.mono e⟩
  | dK ds => obtain ⟨vs, a, b⟩ := h; exact ⟨vs, a, b.mono e⟩
  | dT ds => obtain ⟨vs, a, b⟩ := h; exact ⟨vs, a, b.mono e⟩
  | ins c fs => obtain ⟨dx, vs, a, b⟩ := h; exact ⟨dx, vs, a, b.mono e⟩

structure Rel (S : Sy) (F : Hp) (W : Wd) (H : Hp) : Prop where
  sub : Ex F H
  obj : ∀ a m, W a = some m → F a = none ∧ MO S F (H a) m
  tab : LamX.Tabs S.T H
  nt : ∀ b ps, F b ≠ some (.tbl ps)
theorem upd_ext {H : Hp} {p : Addr} {o : HO} (h : H p = none) : ∀ b u, H b = some u → upd H p o b = some u := fun b u e => by
  rw [upd_ne (ne_of_none e h)]
  exact e
theorem tabs_upd {T : List (Addr × Str)} {H : Hp} {p : Addr} {o0 o : HO} (t : LamX.Tabs T H) (h : H p = some o0) (n1 : ∀ ps, o0 ≠ .tbl ps) (n2 : ∀ φ, o0 ≠ .ext φ) : LamX.Tabs T (upd H p o) := fun q hq => by
  obtain ⟨ps, h1, h2, h3⟩ := t q hq
  refine ⟨ps, ?_, h2, fun pos cv hc => ?_⟩
  · rw [upd_ne (fun z => n1 ps (by rw [z, h] at h1; exact Option.some.inj h1))]
    exact h1
  · obtain ⟨c, e1, e2⟩ := h3 pos cv hc
    refine ⟨c, e1, ?_⟩
    rw [upd_ne (fun z => n2 _ (by rw [z, h] at e2; exact Option.some.inj e2))]
    exact e2
theorem MO.at_ {S : Sy} {F : Hp} {o : Option HO} {m : M} (h : MO S F o m) : ∃ o0, o = some o0 ∧ (∀ ps, o0 ≠ .tbl ps) ∧ ∀ φ, o0 ≠ .ext φ := by
  cases m with
  | lst ds => obtain ⟨vs, a, b⟩ := h; exact ⟨_, a, fun _ z => (by cases z), fun _ z => (by cases z)⟩
  | dK ds => obtain ⟨vs, a, b⟩ := h; exact ⟨_, a, fun _ z => (by cases z), fun _ z => (by cases z)⟩
  | dT ds => obtain ⟨vs, a, b⟩ := h; exact ⟨_, a, fun _ z => (by cases z), fun _ z => (by cases z)⟩
  | ins c fs => obtain ⟨dx, vs, a, b⟩ := h; exact ⟨_, a, fun _ z => (by cases z), fun _ z => (by cases z)⟩
theorem nt_upd {F : Hp} {p : Addr} {o : HO} (n : ∀ b ps, F b ≠ some (.tbl ps)) (h : ∀ ps, o ≠ .tbl ps) : ∀ b ps, upd F p o b ≠ some (.tbl ps) := fun b ps e => by
  by_cases q : b = p
  · subst q
    rw [upd_same] at e
    exact h ps (Option.some.inj e)
  · rw [upd_ne q] at e
    exact n b ps e

section
variable {S : Sy} {F F' : Hp} {W : Wd} {H : Hp}
theorem Rel.nw (r : Rel S F W H) {p : Addr} (h : H p = none) : W p = none := by
  cases e : W p with
  | none => rfl
  | some m =>
    obtain ⟨_, q⟩ := r.obj p m e
    rw [h] at q
    cases m with
    | lst ds => obtain ⟨vs, a, b⟩ := q; cases a
    | dK ds => obtain ⟨vs, a, b⟩ := q; cases a
    | dT ds => obtain ⟨vs, a, b⟩ := q; cases a
    | ins c fs => obtain ⟨dx, vs, a, b⟩ := q; cases a
theorem Rel.nf (r : Rel S F W H) {p : Addr} (h : H p = none) : F p = none := Evl.fresh_back r.sub h
/-- a new object, frozen at once -/
theorem Rel.newF (r : Rel S F W H) {p : Addr} {o : HO} (h : H p = none) (hn : ∀ ps, o ≠ .tbl ps := by intro _ z; cases z) : Rel S (upd F p o) W (upd H p o) := by
  have hf := r.nf h
  refine ⟨fun b u e => ?_, fun a m e => ?_, r.tab.ext (upd_ext h), nt_upd r.nt hn⟩
  · by_cases q : b = p
    · subst q; rw [upd_same] at e ⊢; exact e
    · rw [upd_ne q] at e ⊢; exact r.sub b u e
  · obtain ⟨f, mo⟩ := r.obj a m e
    have q : a ≠ p := fun z => by
      rw [z, r.nw h] at e
      cases e
    rw [upd_ne q, upd_ne q]
    exact ⟨f, mo.mono (Ex.new hf)⟩
/-- a new object in the world -/
theorem Rel.newW (r : Rel S F W H) {p : Addr} {o : HO} {m : M} (h : H p = none) (mo : MO S F (some o) m) : Rel S F (put W p m) (upd H p o) := by
  have hf := r.nf h
  refine ⟨fun b u e => ?_, fun a n e => ?_, r.tab.ext (upd_ext h), r.nt⟩
  · rw [upd_ne (ne_of_none e hf)]
    exact r.sub b u e
  · by_cases q : a = p
    · subst q
      rw [put_same] at e
      cases e
      rw [upd_same]
      exact ⟨hf, mo⟩
    · rw [put_ne q] at e
      rw [upd_ne q]
      exact r.obj a n e
/-- an object of the world is written -/
theorem Rel.set (r : Rel S F W H) {p : Addr} {o : HO} {m0 m : M} (h : W p = some m0) (mo : MO S F (some o) m) : Rel S F (put W p m) (upd H p o) := by
  have hf := (r.obj p m0 h).1
  obtain ⟨o0, ho, n1, n2⟩ := (r.obj p m0 h).2.at_
  refine ⟨fun b u e => ?_, fun a n e => ?_, tabs_upd r.tab ho n1 n2, r.nt⟩
  · rw [upd_ne (ne_of_none e hf)]
    exact r.sub b u e
  · by_cases q : a = p
    · subst q
      rw [put_same] at e
      cases e
      rw [upd_same]
      exact ⟨hf, mo⟩
    · rw [put_ne q] at e
      rw [upd_ne q]
      exact r.obj a n e
/-- an object of the world is frozen -/
theorem Rel.frz (r : Rel S F W H) {p : Addr} {m : M} (h : W p = some m) : ∃ F', Ex F F' ∧ Rel S F' (cut W p) H ∧ Rp S F' (.ref p) m.d := by
  obtain ⟨hf, mo⟩ := r.obj p m h
  obtain ⟨o0, ho0, n1, n2⟩ := mo.at_
  have key : ∀ o, H p = some o → Rel S (upd F p o) (cut W p) H := fun o ho => by
    have eo : o = o0 := Option.some.inj (ho.symm.trans ho0)
    refine ⟨fun b u e => ?_, fun a n e => ?_, r.tab, nt_upd r.nt (by rw [eo]; exact n1)⟩
    · by_cases q : b = p
      · subst q; rw [upd_same] at e; rw [← e]; exact ho
      · rw [upd_ne q] at e; exact r.sub b u e
    · have q : a ≠ p := fun z => by
        rw [z] at e
        have e' : (if p = p then none else W p) = some n := e
        rw [if_pos rfl] at e'
        cases e'
      have e' : W a = some n := by
        have e2 : (if a = p then none else W a) = some n := e
        rw [if_neg q] at e2
        exact e2
      obtain ⟨f, mo⟩ := r.obj a n e'
      rw [upd_ne q]
      exact ⟨f, mo.mono (Ex.new hf)⟩
  cases m with
  | lst ds =>
    obtain ⟨vs, a, b⟩ := mo
    exact ⟨_, Ex.new hf, key _ a, .lst upd_same (b.mono (Ex.new hf))⟩
  | dK ds =>
    obtain ⟨vs, a, b⟩ := mo
    exact ⟨_, Ex.new hf, key _ a, .dK upd_same (b.mono (Ex.new hf))⟩
  | dT ds =>
    obtain ⟨vs, a, b⟩ := mo
    exact ⟨_, Ex.new hf, key _ a, .dT upd_same (b.mono (Ex.new hf))⟩
  | ins c fs =>
    obtain ⟨dx, vs, a, b⟩ := mo
    exact ⟨_, Ex.new hf, key _ a, .ins upd_same (b.mono (Ex.new hf))⟩
end

/-! ## slots -/
abbrev SD := List (Option D)
structure SRel (S : Sy) (F : Hp) (σ : St) (sd : SD) : Prop where
  len : σ.length = sd.length
  at_ : ∀ (i : Nat) (d : D), sd[i]? = some (some d) → ∃ v, σ[i]? = some (some v) ∧ Rp S F v d
section
variable {S : Sy} {F F' : Hp} {σ : St} {sd : SD}
theorem SRel.mono (e : Ex F F') (r : SRel S F σ sd) : SRel S F' σ sd := ⟨r.len, fun i d h => let ⟨v, a, b⟩ := r.at_ i d h; ⟨v, a, b.mono e⟩⟩
theorem SRel.set {i : Nat} {v : V} {d : D} (r : SRel S F σ sd) (h : Rp S F v d) : SRel S F (σ.set i (some v)) (sd.set i (some d)) := by
  refine ⟨by simp [r.len], fun j e q => ?_⟩
  by_cases z : j = i
  · subst z
    by_cases l : j < sd.length
    · rw [List.getElem?_set_self l] at q
      cases q
      exact ⟨v, by rw [List.getElem?_set_self (by rw [r.len]; exact l)], h⟩
    · rw [List.getElem?_eq_none (by simp; omega)] at q
      cases q
  · rw [List.getElem?_set_ne (Ne.symm z)] at q ⊢
    exact r.at_ j e q
end

/-! ## readings over data -/
/-- what is wanted of an exception, at slots -/
abbrev XS := Value → Option Addr → St → Hp → Prop
abbrev QD := D → Wd → Prop
/-- what is wanted of an exception: the exception, the slots, the world -/
abbrev QX := D → SD → Wd → Prop
abbrev DE := SD → Wd → QD → QX → Prop
abbrev DT := SD → Wd → (Bool → Wd → Prop) → QX → Prop
abbrev DA := SD → Wd → (List D → Wd → Prop) → QX → Prop
structure DEnds where
  nx : SD → Wd → Prop
  rt : QD
  bk : SD → Wd → Prop := fun _ _ => False
  ct : SD → Wd → Prop := fun _ _ => False
abbrev DS := DEnds → SD → Wd → QX → Prop

/-- an exception as it is told: its class, its dict -/
def XCv (S : Sy) (F : Hp) (E2 : QX) (E : XS) : Prop := ∀ F' (dx : Addr) vs c fs σ' sd' W' H', Ex F F' → Rel S F' W' H' → SRel S F' σ' sd' → F' dx = some (.xd vs) → Rpf S F' vs fs → E2 (.exn c fs) sd' W' → E (.ref (S.ca c)) (some dx) σ' H'
def QCv (S : Sy) (F : Hp) (Q2 : QD) (Q : VK) : Prop := ∀ F' v d W' H', Ex F F' → Rel S F' W' H' → Rp S F' v d → Q2 d W' → Q v H'
def TCv (S : Sy) (F : Hp) (Q2 : Bool → Wd → Prop) (Q : Bool → Hp → Prop) : Prop := ∀ F' b W' H', Ex F F' → Rel S F' W' H' → Q2 b W' → Q b H'
def ACv (S : Sy) (F : Hp) (Q2 : List D → Wd → Prop) (Q : List V → Hp → Prop) : Prop := ∀ F' vs ds W' H', Ex F F' → Rel S F' W' H' → Rps S F' vs ds → Q2 ds W' → Q vs H'
def SCv (S : Sy) (F : Hp) (Q2 : SD → Wd → Prop) (Q : St → Hp → Prop) : Prop := ∀ F' σ' sd' W' H', Ex F F' → Rel S F' W' H' → SRel S F' σ' sd' → Q2 sd' W' → Q σ' H'
structure ECv (S : Sy) (F : Hp) (D2 : DEnds) (D1 : Ends) : Prop where
  nx : SCv S F D2.nx D1.nx
  rt : QCv S F D2.rt D1.rt
  bk : SCv S F D2.bk D1.bk
  ct : SCv S F D2.ct D1.ct

section
variable {S : Sy} {F F' : Hp} (e : Ex F F')
include e
theorem XCv.mono {E2 : QX} {E : XS} (h : XCv S F E2 E) : XCv S F' E2 E := fun F2 dx vs c fs σ' sd' W' H' a => h F2 dx vs c fs σ' sd' W' H' (e.trans a)
theorem QCv.mono {Q2 : QD} {Q : VK} (h : QCv S F Q2 Q) : QCv S F' Q2 Q := fun F2 v d W' H' a => h F2 v d W' H' (e.trans a)
theorem TCv.mono {Q2 : Bool → Wd → Prop} {Q : Bool → Hp → Prop} (h : TCv S F Q2 Q) : TCv S F' Q2 Q := fun F2 b W' H' a => h F2 b W' H' (e.trans a)
theorem ACv.mono {Q2 : List D → Wd → Prop} {Q : List V → Hp → Prop} (h : ACv S F Q2 Q) : ACv S F' Q2 Q := fun F2 v d W' H' a => h F2 v d W' H' (e.trans a)
theorem SCv.mono {Q2 : SD → Wd → Prop} {Q : St → Hp → Prop} (h : SCv S F Q2 Q) : SCv S F' Q2 Q := fun F2 σ' sd' W' H' a => h F2 σ' sd' W' H' (e.trans a)
theorem ECv.mono {D2 : DEnds} {D1 : Ends} (h : ECv S F D2 D1) : ECv S F' D2 D1 := ⟨SCv.mono e h.nx, QCv.mono e h.rt, SCv.mono e h.bk, SCv.mono e h.ct⟩
end

section
variable (S : Sy) (E : XS)
def upE (t : DE) : TE := fun σ H Q => ∃ F sd W Q2 E2, Rel S F W H ∧ SRel S F σ sd ∧ QCv S F Q2 Q ∧ XCv S F E2 E ∧ t sd W Q2 E2
def upT (t : DT) : TT := fun σ H Q => ∃ F sd W Q2 E2, Rel S F W H ∧ SRel S F σ sd ∧ TCv S F Q2 Q ∧ XCv S F E2 E ∧ t sd W Q2 E2
def upA (t : DA) : TA := fun σ H Q => ∃ F sd W Q2 E2, Rel S F W H ∧ SRel S F σ sd ∧ ACv S F Q2 Q ∧ XCv S F E2 E ∧ t sd W Q2 E2
end
end Mv
end
section
set_option Elab.async false
set_option linter.all false
set_option maxRecDepth 100000
set_option maxHeartbeats 4000000
namespace Mv
open PySem PySem.Spec L2
open Evl (Ex ex_l ex_t ex_rd)


/-! ## judgements over data -/
section
variable (X : Cx) (S : Sy) (E : XS)
def DP (pins : List (Addr × Obj)) (σ : L2.St) (F : Hp) (Q2 : QD) (u : Value) (s' : Shared) : Prop :=
  ∃ v H' F' d W', Inv X pins σ H' s' ∧ RelV v u ∧ Ex F F' ∧ Rel S F' W' H' ∧ Rp S F' v d ∧ Q2 d W'
def TPd (pins : List (Addr × Obj)) (σ : L2.St) (F : Hp) (Q2 : Bool → Wd → Prop) (b : Bool) (s' : Shared) : Prop :=
  ∃ H' F' W', Inv X pins σ H' s' ∧ Ex F F' ∧ Rel S F' W' H' ∧ Q2 b W'
def APd (pins : List (Addr × Obj)) (σ : L2.St) (F : Hp) (Q2 : List D → Wd → Prop) (us : List Value) (s' : Shared) : Prop :=
  ∃ vs H' F' ds W', Inv X pins σ H' s' ∧ Vals vs us ∧ Ex F F' ∧ Rel S F' W' H' ∧ Rps S F' vs ds ∧ Q2 ds W'
def NPd (pins : List (Addr × Obj)) (F : Hp) (Q2 : SD → Wd → Prop) (s' : Shared) : Prop :=
  ∃ σ' H' F' sd' W', Inv X pins σ' H' s' ∧ Ex F F' ∧ Rel S F' W' H' ∧ SRel S F' σ' sd' ∧ Q2 sd' W'
def RPd (pins : List (Addr × Obj)) (F : Hp) (Q2 : QD) (u : Value) (s' : Shared) : Prop :=
  ∃ v σ' H' F' d W', Inv X pins σ' H' s' ∧ RelV v u ∧ Ex F F' ∧ Rel S F' W' H' ∧ Rp S F' v d ∧ Q2 d W'
def SPd (pins : List (Addr × Obj)) (F : Hp) (D2 : DEnds) (f : Flow) (s' : Shared) : Prop :=
  match f with
  | .next => NPd X S pins F D2.nx s'
  | .brk => NPd X S pins F D2.bk s'
  | .cont => NPd X S pins F D2.ct s'
  | .ret u => RPd X S pins F D2.rt u s'

structure PD (e : Expr) (t : DE) : Prop where
  run : ∀ (pins : List (Addr × Obj)) (s : Shared) (σ : L2.St) (H F : Hp) (sd : SD) (W : Wd) (Q2 : QD) (E2 : QX), Inv X pins σ H s → Rel S F W H → SRel S F σ sd → XCv S F E2 E → t sd W Q2 E2 →
    wpAny (model X.prog X.w) X.A (eval e X.env) (DP X S pins σ F Q2) X.xe s
structure PTd (e : Expr) (t : DT) : Prop where
  run : ∀ (pins : List (Addr × Obj)) (s : Shared) (σ : L2.St) (H F : Hp) (sd : SD) (W : Wd) (Q2 : Bool → Wd → Prop) (E2 : QX), Inv X pins σ H s → Rel S F W H → SRel S F σ sd → XCv S F E2 E → t sd W Q2 E2 →
    wpAny (model X.prog X.w) X.A (isTrue e X.env (eval e X.env)) (TPd X S pins σ F Q2) X.xe s
structure PWd (e : Expr) (t : DT) : Prop where
  run : ∀ (whole : Sem Value) (pins : List (Addr × Obj)) (s : Shared) (σ : L2.St) (H F : Hp) (sd : SD) (W : Wd) (Q2 : Bool → Wd → Prop) (E2 : QX), Inv X pins σ H s → Rel S F W H → SRel S F σ sd → XCv S F E2 E → t sd W Q2 E2 →
    wpAny (model X.prog X.w) X.A (isTrue e X.env whole) (TPd X S pins σ F Q2) X.xe s
structure PAd (es : List Expr) (t : DA) : Prop where
  run : ∀ (pos : Pos) (pins : List (Addr × Obj)) (s : Shared) (σ : L2.St) (H F : Hp) (sd : SD) (W : Wd) (Q2 : List D → Wd → Prop) (E2 : QX), Inv X pins σ H s → Rel S F W H → SRel S F σ sd → XCv S F E2 E → t sd W Q2 E2 →
    wpAny (model X.prog X.w) X.A (spliced (backTo pos (starEach es X.env))) (APd X S pins σ F Q2) X.xe s
structure PSd (st : Stmt) (t : DS) : Prop where
  run : ∀ (pins : List (Addr × Obj)) (s : Shared) (σ : L2.St) (H F : Hp) (sd : SD) (W : Wd) (D2 : DEnds) (E2 : QX), Inv X pins σ H s → Rel S F W H → SRel S F σ sd → XCv S F E2 E → t D2 sd W E2 →
    wpAny (model X.prog X.w) X.A (exec st X.env) (SPd X S pins F D2) X.xe s
structure PBd (st : List Stmt) (t : DS) : Prop where
  run : ∀ (pins : List (Addr × Obj)) (s : Shared) (σ : L2.St) (H F : Hp) (sd : SD) (W : Wd) (D2 : DEnds) (E2 : QX), Inv X pins σ H s → Rel S F W H → SRel S F σ sd → XCv S F E2 E → t D2 sd W E2 →
    wpAny (model X.prog X.w) X.A (execs st X.env) (SPd X S pins F D2) X.xe s
def upS (t : DS) : TS := fun D1 σ H => ∃ F sd W D2 E2, Rel S F W H ∧ SRel S F σ sd ∧ ECv S F D2 D1 ∧ XCv S F E2 E ∧ t D2 sd W E2
end

section
variable {X : Cx} {S : Sy} {E : XS}
theorem SPd.mono {pins : List (Addr × Obj)} {F F' : Hp} (e : Ex F F') {D2 : DEnds} {f : Flow} {s' : Shared} (h : SPd X S pins F' D2 f s') : SPd X S pins F D2 f s' := by
  cases f with
  | next => obtain ⟨σ', H', F2, sd, W, a, b, c⟩ := h; exact ⟨σ', H', F2, sd, W, a, e.trans b, c⟩
  | brk => obtain ⟨σ', H', F2, sd, W, a, b, c⟩ := h; exact ⟨σ', H', F2, sd, W, a, e.trans b, c⟩
  | cont => obtain ⟨σ', H', F2, sd, W, a, b, c⟩ := h; exact ⟨σ', H', F2, sd, W, a, e.trans b, c⟩
  | ret u => obtain ⟨v, σ', H', F2, d, W, a, r, b, c⟩ := h; exact ⟨v, σ', H', F2, d, W, a, r, e.trans b, c⟩
theorem DP.ep {pins : List (Addr × Obj)} {σ : L2.St} {F : Hp} {Q2 : QD} {Q : VK} {u : Value} {s' : Shared} (h : DP X S pins σ F Q2 u s') (c : QCv S F Q2 Q) : EP X pins σ Q u s' := by
  obtain ⟨v, H', F', d, W', a1, a2, a3, a4, a5, a6⟩ := h
  exact ⟨v, H', a1, a2, c F' v d W' H' a3 a4 a5 a6⟩
/-! ### from and to the hand layer -/
theorem PD.pe {e : Expr} {t : DE} (h : PD X S E e t) : PE X e (upE S E t) := ⟨fun pins s σ H Q I q => by
  obtain ⟨F, sd, W, Q2, E2, r, sr, qc, xc, ht⟩ := q
  exact thn (h.run pins s σ H F sd W Q2 E2 I r sr xc ht) fun u s' z => z.ep qc⟩
theorem PTd.pt {e : Expr} {t : DT} (h : PTd X S E e t) : PT X e (upT S E t) := ⟨fun pins s σ H Q I q => by
  obtain ⟨F, sd, W, Q2, E2, r, sr, qc, xc, ht⟩ := q
  exact thn (h.run pins s σ H F sd W Q2 E2 I r sr xc ht) fun b s' ⟨H', F', W', a1, a2, a3, a4⟩ => ⟨H', a1, qc F' b W' H' a2 a3 a4⟩⟩
theorem PAd.pa {es : List Expr} {t : DA} (h : PAd X S E es t) : PA X es (upA S E t) := ⟨fun pos pins s σ H Q I q => by
  obtain ⟨F, sd, W, Q2, E2, r, sr, qc, xc, ht⟩ := q
  exact thn (h.run pos pins s σ H F sd W Q2 E2 I r sr xc ht) fun us s' ⟨vs, H', F', ds, W', a1, a2, a3, a4, a5, a6⟩ => ⟨vs, H', a1, a2, qc F' vs ds W' H' a3 a4 a5 a6⟩⟩
theorem SPd.sp {pins : List (Addr × Obj)} {F : Hp} {D2 : DEnds} {D1 : Ends} {f : Flow} {s' : Shared} (h : SPd X S pins F D2 f s') (c : ECv S F D2 D1) : SP X pins D1 f s' := by
  cases f with
  | next => obtain ⟨σ', H', F2, sd, W, a1, a2, a3, a4, a5⟩ := h; exact ⟨σ', H', a1, c.nx F2 σ' sd W H' a2 a3 a4 a5⟩
  | brk => obtain ⟨σ', H', F2, sd, W, a1, a2, a3, a4, a5⟩ := h; exact ⟨σ', H', a1, c.bk F2 σ' sd W H' a2 a3 a4 a5⟩
  | cont => obtain ⟨σ', H', F2, sd, W, a1, a2, a3, a4, a5⟩ := h; exact ⟨σ', H', a1, c.ct F2 σ' sd W H' a2 a3 a4 a5⟩
  | ret u => obtain ⟨v, σ', H', F2, d, W, a1, a2, a3, a4, a5, a6⟩ := h; exact ⟨v, σ', H', a1, a2, c.rt F2 v d W H' a3 a4 a5 a6⟩
theorem PSd.ps {st : Stmt} {t : DS} (h : PSd X S E st t) : PS X st (upS S E t) := ⟨fun pins s σ H D1 I q => by
  obtain ⟨F, sd, W, D2, E2, r, sr, ec, xc, ht⟩ := q
  exact thn (h.run pins s σ H F sd W D2 E2 I r sr xc ht) fun f s' z => z.sp ec⟩
theorem PBd.pss {st : List Stmt} {t : DS} (h : PBd X S E st t) : PSs X st (upS S E t) := ⟨fun pins s σ H D1 I q => by
  obtain ⟨F, sd, W, D2, E2, r, sr, ec, xc, ht⟩ := q
  exact thn (h.run pins s σ H F sd W D2 E2 I r sr xc ht) fun f s' z => z.sp ec⟩
/-- the ends as the hand layer has them -/
def tkE (S : Sy) (F : Hp) (D2 : DEnds) : Ends where
  nx := fun σ H => ∃ F' sd W, Ex F F' ∧ Rel S F' W H ∧ SRel S F' σ sd ∧ D2.nx sd W
  rt := fun v H => ∃ F' d W, Ex F F' ∧ Rel S F' W H ∧ Rp S F' v d ∧ D2.rt d W
  bk := fun σ H => ∃ F' sd W, Ex F F' ∧ Rel S F' W H ∧ SRel S F' σ sd ∧ D2.bk sd W
  ct := fun σ H => ∃ F' sd W, Ex F F' ∧ Rel S F' W H ∧ SRel S F' σ sd ∧ D2.ct sd W
theorem SP.tk {pins : List (Addr × Obj)} {F : Hp} {D2 : DEnds} {f : Flow} {s' : Shared} (h : SP X pins (tkE S F D2) f s') : SPd X S pins F D2 f s' := by
  cases f with
  | next => obtain ⟨σ', H', a1, F', sd, W, a2, a3, a4, a5⟩ := h; exact ⟨σ', H', F', sd, W, a1, a2, a3, a4, a5⟩
  | brk => obtain ⟨σ', H', a1, F', sd, W, a2, a3, a4, a5⟩ := h; exact ⟨σ', H', F', sd, W, a1, a2, a3, a4, a5⟩
  | cont => obtain ⟨σ', H', a1, F', sd, W, a2, a3, a4, a5⟩ := h; exact ⟨σ', H', F', sd, W, a1, a2, a3, a4, a5⟩
  | ret u => obtain ⟨v, σ', H', a1, a2, F', d, W, a3, a4, a5, a6⟩ := h; exact ⟨v, σ', H', F', d, W, a1, a2, a3, a4, a5, a6⟩
/-- what a value of the hand layer is at data level -/
def tkQ (S : Sy) (F : Hp) (Q2 : QD) : VK := fun v H => ∃ F' d W, Ex F F' ∧ Rel S F' W H ∧ Rp S F' v d ∧ Q2 d W
theorem EP.tk {pins : List (Addr × Obj)} {σ : L2.St} {F : Hp} {Q2 : QD} {u : Value} {s' : Shared} (h : EP X pins σ (tkQ S F Q2) u s') : DP X S pins σ F Q2 u s' := by
  obtain ⟨v, H', a1, a2, F', d, W, a3, a4, a5, a6⟩ := h
  exact ⟨v, H', F', d, W, a1, a2, a3, a4, a5, a6⟩
theorem tkQ_cv {F : Hp} {Q2 : QD} : QCv S F Q2 (tkQ S F Q2) := fun F' v d W' H' e r p q => ⟨F', d, W', e, r, p, q⟩
theorem tkQ_of {F F' : Hp} {Q2 : QD} {v : V} {d : D} {W : Wd} {H : Hp} (e : Ex F F') (r : Rel S F' W H) (p : Rp S F' v d) (q : Q2 d W) : tkQ S F Q2 v H := ⟨F', d, W, e, r, p, q⟩
/-- an expression's rule from the hand layer's -/
theorem PE.pd {e : Expr} {te : TE} {t : DE} (h : PE X e te)
    (c : ∀ σ H F sd W Q2 E2, Rel S F W H → SRel S F σ sd → XCv S F E2 E → t sd W Q2 E2 → te σ H (tkQ S F Q2)) : PD X S E e t :=
  ⟨fun pins s σ H F sd W Q2 E2 I r sr xc ht => thn (h.run pins s σ H _ I (c σ H F sd W Q2 E2 r sr xc ht)) fun u s' z => EP.tk z⟩
theorem PS.pd {st : Stmt} {ts : TS} {t : DS} (h : PS X st ts)
    (c : ∀ σ H F sd W D2 E2, Rel S F W H → SRel S F σ sd → XCv S F E2 E → t D2 sd W E2 → ts (tkE S F D2) σ H) : PSd X S E st t :=
  ⟨fun pins s σ H F sd W D2 E2 I r sr xc ht => thn (h.run pins s σ H _ I (c σ H F sd W D2 E2 r sr xc ht)) fun u s' z => SP.tk z⟩

/-! ### names and constants -/
def dVar (i : Nat) : DE := fun sd W Q _ => ∃ d, sd[i]? = some (some d) ∧ Q d W
def dC (d : D) : DE := fun _ W Q _ => Q d W
theorem pd_var (i : Nat) {x : Str} {pos : Pos} (hN : X.N[i]? = some x := by rfl) (hv : Vis X.env.scope x := by first | exact Or.inl rfl | exact Or.inr (Or.inl rfl) | exact Or.inr (Or.inr rfl))
    (hd : (x == ("__debug__" : Str)) = false := by decide) (hcd : (x == ("__classdict__" : Str)) = false := by decide) : PD X S E (.Name x pos) (dVar i) :=
  PE.pd (pe_var hN hv hd hcd) fun σ H F sd W Q2 E2 r sr xc ⟨d, h, q⟩ => by
    obtain ⟨v, h1, h2⟩ := sr.at_ i d h
    exact ⟨v, h1, tkQ_of (Ex.refl _) r h2 q⟩
theorem pd_int {i j pos} : PD X S E (.Constant (.int i) j pos) (dC (.int i)) := PE.pd pe_int fun _ _ _ _ _ _ _ r _ _ q => tkQ_of (Ex.refl _) r (.int _) q
theorem pd_bl {b j pos} : PD X S E (.Constant (.bool b) j pos) (dC (.bl b)) := PE.pd pe_bl fun _ _ _ _ _ _ _ r _ _ q => tkQ_of (Ex.refl _) r (.bl _) q
theorem pd_non {j pos} : PD X S E (.Constant .none j pos) (dC .non) := PE.pd pe_non fun _ _ _ _ _ _ _ r _ _ q => tkQ_of (Ex.refl _) r .non q
theorem pd_str {x j pos} : PD X S E (.Constant (.str x) j pos) (dC (.str x)) := PE.pd pe_str fun _ _ _ _ _ _ _ r _ _ q => tkQ_of (Ex.refl _) r (.str _) q
theorem pd_glob {x : Str} {v : V} {u : Value} {d : D} {pos : Pos} (hg : Gl X x) (hm : X.mg x = some u) (r0 : RelV v u) (hd0 : ∀ F, Rp S F v d) (hd : (x == ("__debug__" : Str)) = false := by decide) : PD X S E (.Name x pos) (dC d) :=
  PE.pd (pe_glob hg hm r0 hd) fun _ _ _ _ _ _ _ r _ _ q => tkQ_of (Ex.refl _) r (hd0 _) q

/-! ### two places -/
abbrev D2 := D → D → SD → Wd → QD → QX → Prop
/-- a two-place operation on data -/
def OpD (X : Cx) (S : Sy) (E : XS) (f : Value → Value → Sem Value) (r : D2) : Prop :=
  ∀ (pins : List (Addr × Obj)) (s : Shared) (σ : L2.St) (H F : Hp) (sd : SD) (W : Wd) (x y : V) (c d : D) (v u : Value) (Q2 : QD) (E2 : QX), Inv X pins σ H s → Rel S F W H → SRel S F σ sd → XCv S F E2 E → RelV x v → RelV y u → Rp S F x c → Rp S F y d → r c d sd W Q2 E2 →
    wpAny (model X.prog X.w) X.A (f v u) (DP X S pins σ F Q2) X.xe s
theorem OpD.or {f : Value → Value → Sem Value} {r r' : D2} (h : OpD X S E f r) (h' : OpD X S E f r') : OpD X S E f (fun c d sd W Q E2 => r c d sd W Q E2 ∨ r' c d sd W Q E2) :=
  fun pins s σ H F sd W x y c d v u Q2 E2 a1 a2 a3 a4 a5 a6 a7 a8 q => q.elim (h pins s σ H F sd W x y c d v u Q2 E2 a1 a2 a3 a4 a5 a6 a7 a8) (h' pins s σ H F sd W x y c d v u Q2 E2 a1 a2 a3 a4 a5 a6 a7 a8)
theorem OpD.imp {f : Value → Value → Sem Value} {r r' : D2} (h : OpD X S E f r) (c : ∀ c d sd W Q E2, r' c d sd W Q E2 → r c d sd W Q E2) : OpD X S E f r' :=
  fun pins s σ H F sd W x y cc d v u Q2 E2 a1 a2 a3 a4 a5 a6 a7 a8 q => h pins s σ H F sd W x y cc d v u Q2 E2 a1 a2 a3 a4 a5 a6 a7 a8 (c _ _ _ _ _ _ q)
/-- from the hand layer's operation -/
theorem OpR.od {f : Value → Value → Sem Value} {r : R2} {rd : D2} (h : OpR X f r)
    (c : ∀ σ H F sd W x y c d Q2 E2, Rel S F W H → SRel S F σ sd → XCv S F E2 E → Rp S F x c → Rp S F y d → rd c d sd W Q2 E2 → r x y H (tkQ S F Q2)) : OpD X S E f rd :=
  fun pins s σ H F sd W x y cc d v u Q2 E2 I r sr xc rx ry px py q => thn (h pins s σ H x y v u _ I rx ry (c σ H F sd W x y cc d Q2 E2 r sr xc px py q)) fun u s' z => EP.tk z
def dOp (r : D2) (ta tb : DE) : DE := fun sd W Q E2 => ta sd W (fun c W1 => tb sd W1 (fun d W2 => r c d sd W2 Q E2) E2) E2
/-- two expressions in a row -/
theorem binD {a b : Expr} {ta tb : DE} (ha : PD X S E a ta) (hb : PD X S E b tb) {r : D2} {pins : List (Addr × Obj)} {s : Shared} {σ : L2.St} {H F : Hp} {sd : SD} {W : Wd} {Q2 : QD} {E2 : QX} (I : Inv X pins σ H s) (rl : Rel S F W H) (sr : SRel S F σ sd) (xc : XCv S F E2 E)
    (h : dOp r ta tb sd W Q2 E2) {P : Value → Shared → Prop} {f : Value → Value → Sem Value}
    (hf : ∀ v u s2 x y c d H2 F2 W2, Inv X pins σ H2 s2 → Ex F F2 → Rel S F2 W2 H2 → RelV x v → RelV y u → Rp S F2 x c → Rp S F2 y d → r c d sd W2 Q2 E2 → wpAny (model X.prog X.w) X.A (f v u) P X.xe s2) :
    wpAny (model X.prog X.w) X.A (eval a X.env) (fun v s₁ => wpAny (model X.prog X.w) X.A (eval b X.env) (fun u s₂ => wpAny (model X.prog X.w) X.A (f v u) P X.xe s₂) X.xe s₁) X.xe s := by
  refine thn (ha.run pins s σ H F sd W _ E2 I rl sr xc h) fun v s1 ⟨x, H1, F1, c, W1, I1, r1, e1, rl1, p1, q1⟩ => ?_
  refine thn (hb.run pins s1 σ H1 F1 sd W1 _ E2 I1 rl1 (sr.mono e1) (XCv.mono e1 xc) q1) fun u s2 ⟨y, H2, F2, d, W2, I2, r2, e2, rl2, p2, q2⟩ => ?_
  exact hf v u s2 x y c d H2 F2 W2 I2 (e1.trans e2) rl2 r1 r2 (p1.mono e2) p2 q2
theorem DP.back {pins : List (Addr × Obj)} {σ : L2.St} {F F' : Hp} (e : Ex F F') {Q2 : QD} {u : Value} {s' : Shared} (h : DP X S pins σ F' Q2 u s') : DP X S pins σ F Q2 u s' := by
  obtain ⟨v, H', F2, d, W', a1, a2, a3, a4⟩ := h
  exact ⟨v, H', F2, d, W', a1, a2, e.trans a3, a4⟩
theorem pd_op {a b : Expr} {ta tb : DE} {op : Operator} {r : D2} {pos : Pos} (ho : OpD X S E (binaryOp op) r) (ha : PD X S E a ta) (hb : PD X S E b tb) : PD X S E (.BinOp a op b pos) (dOp r ta tb) :=
  ⟨fun pins s σ H F sd W Q2 E2 I rl sr xc h => wpAny_BinOp (binD ha hb I rl sr xc h fun v u s2 x y c d H2 F2 W2 I2 e rl2 rx ry px py q =>
    thn (ho pins s2 σ H2 F2 sd W2 x y c d v u Q2 E2 I2 rl2 (sr.mono e) (XCv.mono e xc) rx ry px py q) fun u s' z => z.back e)⟩
theorem pd_cmp {a b : Expr} {ta tb : DE} {op : CmpOp} {r : D2} {pos : Pos} (ho : OpD X S E (compareOp op) r) (ha : PD X S E a ta) (hb : PD X S E b tb) (hm : behindInMarks op b = false) : PD X S E (.Compare a [op] [b] pos) (dOp r ta tb) :=
  ⟨fun pins s σ H F sd W Q2 E2 I rl sr xc h => wpAny_Compare1 (binD ha hb I rl sr xc h fun v u s2 x y c d H2 F2 W2 I2 e rl2 rx ry px py q =>
    thn (ho pins s2 σ H2 F2 sd W2 x y c d v u Q2 E2 I2 rl2 (sr.mono e) (XCv.mono e xc) rx ry px py q) fun u s' z => z.back e) hm⟩
end
end Mv
end
section
set_option Elab.async false
set_option linter.all false
set_option maxRecDepth 100000
set_option maxHeartbeats 4000000
namespace Mv
open PySem PySem.Spec L2
open Evl (Ex ex_l ex_t ex_rd)
section
variable {X : Cx} {S : Sy} {E : XS}

/-! ### tests -/
/-- a value that is a truth value -/
def kBl (d : D) (k : Bool → Prop) : Prop := match d with
  | .bl b => k b
  | _ => False
/-- truth -/
def kTru (W : Wd) (d : D) (k : Bool → Prop) : Prop := match d with
  | .non => k false
  | .bl b => k b
  | .int i => k (i != 0)
  | .str s => s.length ≤ sizeLine ∧ k ((s.length : Int) != 0)
  | .tup ds => k (!ds.isEmpty)
  | .lst ds => k (!ds.isEmpty)
  | .dK ds => k (!ds.isEmpty)
  | .ptr a => (match W a with
    | some (.lst ds) => k (!ds.isEmpty)
    | some (.dK ds) => k (!ds.isEmpty)
    | _ => False)
  | _ => False
theorem Rps.isEmpty {F : Hp} {vs : List V} {ds : List D} (r : Rps S F vs ds) : vs.isEmpty = ds.isEmpty := by cases r <;> rfl
theorem Rpk.isEmpty {F : Hp} {vs : List (Key × V)} {ds : List (Key × D)} (r : Rpk S F vs ds) : vs.isEmpty = ds.isEmpty := by cases r <;> rfl
theorem tru_d {pins : List (Addr × Obj)} {s : Shared} {σ : L2.St} {H F : Hp} {W : Wd} {v : V} {u : Value} {d : D} {Q2 : Bool → Wd → Prop} (hK : X.K = S.K) (I : Inv X pins σ H s) (rl : Rel S F W H) (ru : RelV v u) (rp : Rp S F v d) (h : kTru W d fun b => Q2 b W) :
    wpAny (model X.prog X.w) X.A (truthy u) (TPd X S pins σ F Q2) X.xe s := by
  have fin : ∀ k, TruV X.K v H k → Q2 k W → wpAny (model X.prog X.w) X.A (truthy u) (TPd X S pins σ F Q2) X.xe s := fun k t q =>
    thn (tru_ok pins s σ H v u (fun b H' => b = k ∧ H' = H) I ru ⟨k, t, rfl, rfl⟩) fun b s' ⟨H', I', eb, eh⟩ => by
      subst eb eh
      exact ⟨_, F, W, I', Ex.refl _, rl, q⟩
  cases rp with
  | non => exact fin _ rfl h
  | bl b => exact fin _ rfl h
  | int i => exact fin _ rfl h
  | str x => exact fin _ ⟨h.1, rfl⟩ h.2
  | ty n => exact h.elim
  | ptr a =>
    have h2 : (match W a with | some (.lst ds) => Q2 (!ds.isEmpty) W | some (.dK ds) => Q2 (!ds.isEmpty) W | _ => False) := h
    cases e : W a with
    | none => rw [e] at h2; exact h2.elim
    | some m =>
      rw [e] at h2
      obtain ⟨_, mo⟩ := rl.obj a m e
      cases m with
      | lst ds =>
        obtain ⟨vs, e1, r1⟩ := mo
        exact fin _ (.inl ⟨vs, SqL.of e1, rfl⟩) (by rw [Rps.isEmpty r1]; exact h2)
      | dK ds =>
        obtain ⟨vs, e1, r1⟩ := mo
        exact fin _ (.inr (.inr ⟨vs, e1, rfl⟩)) (by rw [Rpk.isEmpty r1]; exact h2)
      | dT ds => exact h2.elim
      | ins c fs => exact h2.elim
  | tup hq r1 => exact fin _ (.inr (.inl ⟨_, by rw [hK]; exact ex_t rl.sub hq, rfl⟩)) (by rw [Rps.isEmpty r1]; exact h)
  | lst hq r1 => exact fin _ (.inl ⟨_, SqL.of (rl.sub _ _ hq), rfl⟩) (by rw [Rps.isEmpty r1]; exact h)
  | dK hq r1 => exact fin _ (.inr (.inr ⟨_, rl.sub _ _ hq, rfl⟩)) (by rw [Rpk.isEmpty r1]; exact h)
  | dT hq r1 => exact h.elim
  | ins hq r1 => exact h.elim
  | frl hq r1 => exact h.elim
  | exn _ _ _ => exact h.elim
  | lam _ _ => exact h.elim
theorem TPd.back {pins : List (Addr × Obj)} {σ : L2.St} {F F' : Hp} (e : Ex F F') {Q2 : Bool → Wd → Prop} {b : Bool} {s' : Shared} (h : TPd X S pins σ F' Q2 b s') : TPd X S pins σ F Q2 b s' := by
  obtain ⟨H', F2, W', a1, a2, a3⟩ := h
  exact ⟨H', F2, W', a1, e.trans a2, a3⟩
/-- an expression's value as a test -/
def dTst (t : DE) : DT := fun sd W Q E2 => t sd W (fun d W1 => kTru W1 d fun b => Q b W1) E2
theorem pt_plain {e : Expr} {t : DE} (hK : X.K = S.K) (h : PD X S E e t) (he : ∀ whole, isTrue e X.env whole = (do let v ← whole; standAt e.pos; holding [v] (truthy v)) := by intro _; rfl) : PTd X S E e (dTst t) :=
  ⟨fun pins s σ H F sd W Q2 E2 I rl sr xc q => PyProof.Rows.isTrue_plain (thn (h.run pins s σ H F sd W _ E2 I rl sr xc q) fun v s1 ⟨x, H1, F1, d, W1, I1, r1, e1, rl1, p1, q1⟩ =>
    thn (tru_d hK I1 rl1 r1 p1 q1) fun b s' z => z.back e1) (he _)⟩
/-- a comparison as a test -/
def dTbl (t : DE) : DT := fun sd W Q E2 => t sd W (fun d W1 => kBl d fun b => Q b W1) E2
theorem pt_cmpD {a b : Expr} {ta tb : DE} {op : CmpOp} {r : D2} {pos : Pos} (ho : OpD X S E (compareOp op) r) (ha : PD X S E a ta) (hb : PD X S E b tb) (hm : behindInMarks op b = false) : PTd X S E (.Compare a [op] [b] pos) (dTbl (dOp r ta tb)) :=
  ⟨fun pins s σ H F sd W Q2 E2 I rl sr xc h => wpAny_isTrue_Compare1 (binD ha hb I rl sr xc h fun v u s2 x y c d H2 F2 W2 I2 e rl2 rx ry px py q =>
    thn (ho pins s2 σ H2 F2 sd W2 x y c d v u _ E2 I2 rl2 (sr.mono e) (XCv.mono e xc) rx ry px py q) fun u s' ⟨z, H3, F3, d3, W3, I3, r3, e3, rl3, p3, q3⟩ => by
      cases p3 with
      | bl k =>
        cases r3
        exact wpAny_truthy_bool ⟨H3, F3, W3, I3, e.trans e3, rl3, q3⟩
      | _ => exact q3.elim) hm⟩
theorem PWd.pt {e : Expr} {t : DT} (h : PWd X S E e t) : PTd X S E e t := ⟨h.run _⟩
def dAnd (t u : DT) : DT := fun sd W Q E2 => t sd W (fun b W1 => if b = true then u sd W1 Q E2 else Q false W1) E2
def dOr (t u : DT) : DT := fun sd W Q E2 => t sd W (fun b W1 => if b = true then Q true W1 else u sd W1 Q E2) E2
def dNot (t : DT) : DT := fun sd W Q E2 => t sd W (fun b W1 => Q (!b) W1) E2
theorem pw_and1 {a : Expr} {t : DT} {pos : Pos} (ha : PTd X S E a t) : PWd X S E (.BoolOp .And [a] pos) t :=
  ⟨fun wh pins s σ H F sd W Q2 E2 I rl sr xc h => PyProof.Rows.isTrue_and (thn (ha.run pins s σ H F sd W Q2 E2 I rl sr xc h) fun c s1 e => by
    cases c with
    | true => exact PyProof.Rows.isTrue_and_nil e
    | false => exact e)⟩
theorem pw_or1 {a : Expr} {t : DT} {pos : Pos} (ha : PTd X S E a t) : PWd X S E (.BoolOp .Or [a] pos) t :=
  ⟨fun wh pins s σ H F sd W Q2 E2 I rl sr xc h => PyProof.Rows.isTrue_or (thn (ha.run pins s σ H F sd W Q2 E2 I rl sr xc h) fun c s1 e => by
    cases c with
    | false => exact PyProof.Rows.isTrue_or_nil e
    | true => exact e)⟩
theorem pw_and {a b : Expr} {rest : List Expr} {t u : DT} {pos : Pos} (ha : PTd X S E a t) (hb : PWd X S E (.BoolOp .And (b :: rest) pos) u) : PWd X S E (.BoolOp .And (a :: b :: rest) pos) (dAnd t u) :=
  ⟨fun wh pins s σ H F sd W Q2 E2 I rl sr xc h => PyProof.Rows.isTrue_and (thn (ha.run pins s σ H F sd W _ E2 I rl sr xc h) fun c s1 ⟨H1, F1, W1, I1, e1, rl1, q1⟩ => by
    cases c with
    | true => exact thn (hb.run wh pins s1 σ H1 F1 sd W1 Q2 E2 I1 rl1 (sr.mono e1) (XCv.mono e1 xc) q1) fun b s' z => z.back e1
    | false => exact ⟨H1, F1, W1, I1, e1, rl1, q1⟩)⟩
theorem pw_or {a b : Expr} {rest : List Expr} {t u : DT} {pos : Pos} (ha : PTd X S E a t) (hb : PWd X S E (.BoolOp .Or (b :: rest) pos) u) : PWd X S E (.BoolOp .Or (a :: b :: rest) pos) (dOr t u) :=
  ⟨fun wh pins s σ H F sd W Q2 E2 I rl sr xc h => PyProof.Rows.isTrue_or (thn (ha.run pins s σ H F sd W _ E2 I rl sr xc h) fun c s1 ⟨H1, F1, W1, I1, e1, rl1, q1⟩ => by
    cases c with
    | false => exact thn (hb.run wh pins s1 σ H1 F1 sd W1 Q2 E2 I1 rl1 (sr.mono e1) (XCv.mono e1 xc) q1) fun b s' z => z.back e1
    | true => exact ⟨H1, F1, W1, I1, e1, rl1, q1⟩)⟩
theorem pt_notD {a : Expr} {t : DT} {pos : Pos} (ha : PTd X S E a t) : PTd X S E (.UnaryOp .Not a pos) (dNot t) :=
  ⟨fun pins s σ H F sd W Q2 E2 I rl sr xc h => PyProof.Rows.isTrue_not (ha.run pins s σ H F sd W (fun b W => Q2 (!b) W) E2 I rl sr xc h)⟩
/-- .. as values: all but the last True or False -/
def dAndV (ta tb : DE) : DE := fun sd W Q E2 => ta sd W (fun d W1 => kBl d fun b => if b = true then tb sd W1 Q E2 else Q (.bl false) W1) E2
def dOrV (ta tb : DE) : DE := fun sd W Q E2 => ta sd W (fun d W1 => kBl d fun b => if b = true then Q (.bl true) W1 else tb sd W1 Q E2) E2
def dNotV (ta : DE) : DE := fun sd W Q E2 => ta sd W (fun d W1 => kTru W1 d fun b => Q (.bl (!b)) W1) E2
theorem pd_one {a : Expr} {op} {t : DE} {pos : Pos} (h : PD X S E a t) : PD X S E (.BoolOp op [a] pos) t := ⟨fun pins s σ H F sd W Q2 E2 I rl sr xc q => PyProof.Rows.BoolOp_one (h.run pins s σ H F sd W Q2 E2 I rl sr xc q)⟩
theorem pd_and {a b : Expr} {rest : List Expr} {ta tb : DE} {pos : Pos} (ha : PD X S E a ta) (hb : PD X S E (.BoolOp .And (b :: rest) pos) tb) : PD X S E (.BoolOp .And (a :: b :: rest) pos) (dAndV ta tb) :=
  ⟨fun pins s σ H F sd W Q2 E2 I rl sr xc h => PyProof.Rows.BoolOp_and (thn (ha.run pins s σ H F sd W _ E2 I rl sr xc h) fun v s1 ⟨x, H1, F1, d, W1, I1, r1, e1, rl1, p1, q1⟩ => by
    cases p1 with
    | bl c =>
      cases r1
      refine wpAny_truthy_bool ?_
      cases c with
      | true => exact thn (hb.run pins s1 σ H1 F1 sd W1 Q2 E2 I1 rl1 (sr.mono e1) (XCv.mono e1 xc) q1) fun b s' z => z.back e1
      | false => exact ⟨.bl false, H1, F1, .bl false, W1, I1, rfl, e1, rl1, .bl _, q1⟩
    | _ => exact q1.elim)⟩
theorem pd_or {a b : Expr} {rest : List Expr} {ta tb : DE} {pos : Pos} (ha : PD X S E a ta) (hb : PD X S E (.BoolOp .Or (b :: rest) pos) tb) : PD X S E (.BoolOp .Or (a :: b :: rest) pos) (dOrV ta tb) :=
  ⟨fun pins s σ H F sd W Q2 E2 I rl sr xc h => PyProof.Rows.BoolOp_or (thn (ha.run pins s σ H F sd W _ E2 I rl sr xc h) fun v s1 ⟨x, H1, F1, d, W1, I1, r1, e1, rl1, p1, q1⟩ => by
    cases p1 with
    | bl c =>
      cases r1
      refine wpAny_truthy_bool ?_
      cases c with
      | false => exact thn (hb.run pins s1 σ H1 F1 sd W1 Q2 E2 I1 rl1 (sr.mono e1) (XCv.mono e1 xc) q1) fun b s' z => z.back e1
      | true => exact ⟨.bl true, H1, F1, .bl true, W1, I1, rfl, e1, rl1, .bl _, q1⟩
    | _ => exact q1.elim)⟩
theorem pd_not {a : Expr} {ta : DE} {pos : Pos} (hK : X.K = S.K) (ha : PD X S E a ta) : PD X S E (.UnaryOp .Not a pos) (dNotV ta) :=
  ⟨fun pins s σ H F sd W Q2 E2 I rl sr xc h => PyProof.Rows.UnaryOp_ (thn (ha.run pins s σ H F sd W _ E2 I rl sr xc h) fun v s1 ⟨x, H1, F1, d, W1, I1, r1, e1, rl1, p1, q1⟩ =>
    PyProof.Rows.not_of (thn (tru_d (Q2 := fun b W => Q2 (.bl (!b)) W) hK I1 rl1 r1 p1 q1) fun b s' ⟨H2, F2, W2, I2, e2, rl2, q2⟩ => ⟨.bl (!b), H2, F2, .bl (!b), W2, I2, rfl, e1.trans e2, rl2, .bl _, q2⟩))⟩
def dIf (t : DT) (ta tb : DE) : DE := fun sd W Q E2 => t sd W (fun b W1 => if b = true then ta sd W1 Q E2 else tb sd W1 Q E2) E2
theorem pd_ifExp {c a b : Expr} {t : DT} {ta tb : DE} {pos : Pos} (hc : PTd X S E c t) (ha : PD X S E a ta) (hb : PD X S E b tb) : PD X S E (.IfExp c a b pos) (dIf t ta tb) :=
  ⟨fun pins s σ H F sd W Q2 E2 I rl sr xc h => wpAny_IfExp (thn (hc.run pins s σ H F sd W _ E2 I rl sr xc h) fun d s1 ⟨H1, F1, W1, I1, e1, rl1, q1⟩ => by
    cases d with
    | true => exact thn (ha.run pins s1 σ H1 F1 sd W1 Q2 E2 I1 rl1 (sr.mono e1) (XCv.mono e1 xc) q1) fun b s' z => z.back e1
    | false => exact thn (hb.run pins s1 σ H1 F1 sd W1 Q2 E2 I1 rl1 (sr.mono e1) (XCv.mono e1 xc) q1) fun b s' z => z.back e1)⟩

/-! ### blocks, small statements -/
def dNext : DS := fun D sd W _ => D.nx sd W
def dSeq (t u : DS) : DS := fun D sd W E2 => t { D with nx := fun sd' W' => u D sd' W' E2 } sd W E2
theorem pb_nil : PBd X S E [] dNext := ⟨fun _ s σ H F sd W D2 E2 I rl sr xc h => wpAny_execs_nil ⟨σ, H, F, sd, W, I, Ex.refl _, rl, sr, h⟩⟩
theorem pb_cons {st : Stmt} {rest : List Stmt} {t u : DS} (h1 : PSd X S E st t) (h2 : PBd X S E rest u) : PBd X S E (st :: rest) (dSeq t u) :=
  ⟨fun pins s σ H F sd W D2 E2 I rl sr xc h => wpAny_execs_cons (thn (h1.run pins s σ H F sd W _ E2 I rl sr xc h) fun f s1 q => by
    cases f with
    | next =>
      obtain ⟨σ', H', F', sd', W', I', e, rl', sr', q⟩ := q
      exact thn (h2.run pins s1 σ' H' F' sd' W' D2 E2 I' rl' sr' (XCv.mono e xc) q) fun f s' z => z.mono e
    | ret v => exact q
    | brk => exact q
    | cont => exact q)⟩
theorem pb_one {st : Stmt} {t : DS} (h1 : PSd X S E st t) : PBd X S E [st] t :=
  ⟨fun pins s σ H F sd W D2 E2 I rl sr xc h => wpAny_execs_cons (thn (h1.run pins s σ H F sd W D2 E2 I rl sr xc h) fun f s1 q => by
    cases f with
    | next => exact wpAny_execs_nil q
    | ret v => exact q
    | brk => exact q
    | cont => exact q)⟩
theorem psd_pass {pos : Pos} : PSd X S E (.Pass pos) dNext := ⟨fun _ _ σ H F sd W _ _ I rl sr _ h => wpAny_Pass ⟨σ, H, F, sd, W, I, Ex.refl _, rl, sr, h⟩⟩
def dBreak : DS := fun D sd W _ => D.bk sd W
def dCont : DS := fun D sd W _ => D.ct sd W
theorem psd_break {pos : Pos} : PSd X S E (.Break pos) dBreak := ⟨fun _ _ σ H F sd W _ _ I rl sr _ h => wpAny_Break ⟨σ, H, F, sd, W, I, Ex.refl _, rl, sr, h⟩⟩
theorem psd_continue {pos : Pos} : PSd X S E (.Continue pos) dCont := ⟨fun _ _ σ H F sd W _ _ I rl sr _ h => wpAny_Continue ⟨σ, H, F, sd, W, I, Ex.refl _, rl, sr, h⟩⟩
def dDrop (t : DE) : DS := fun D sd W E2 => t sd W (fun _ W1 => D.nx sd W1) E2
theorem psd_expr {e : Expr} {t : DE} {pos : Pos} (he : PD X S E e t) (hs : swapsWith e none pos.line X.env = pure false := by rfl) : PSd X S E (.Expr e pos) (dDrop t) :=
  ⟨fun pins s σ H F sd W D2 E2 I rl sr xc h => wpAny_Expr_any (thn (he.run pins s σ H F sd W _ E2 I rl sr xc h) fun v s1 ⟨x, H1, F1, d, W1, I1, r1, e1, rl1, p1, q1⟩ => ⟨σ, H1, F1, sd, W1, I1, e1, rl1, sr.mono e1, q1⟩) I.quiet hs⟩
def dRet (t : DE) : DS := fun D sd W E2 => t sd W D.rt E2
theorem psd_ret {e : Expr} {t : DE} {pos : Pos} (he : PD X S E e t) : PSd X S E (.Return (some e) pos) (dRet t) :=
  ⟨fun pins s σ H F sd W D2 E2 I rl sr xc h => wpAny_Return_some (thn (he.run pins s σ H F sd W _ E2 I rl sr xc h) fun v s1 ⟨x, H1, F1, d, W1, I1, r1, e1, rl1, p1, q1⟩ => ⟨x, σ, H1, F1, d, W1, I1, r1, e1, rl1, p1, q1⟩)⟩
def dRetN : DS := fun D _ W _ => D.rt .non W
theorem psd_retN {pos : Pos} : PSd X S E (.Return none pos) dRetN := ⟨fun _ _ σ H F sd W _ _ I rl sr _ h => wpAny_Return_none ⟨.non, σ, H, F, .non, W, I, rfl, Ex.refl _, rl, .non, h⟩⟩
def dIfS (c : DT) (t u : DS) : DS := fun D sd W E2 => c sd W (fun b W1 => if b = true then t D sd W1 E2 else u D sd W1 E2) E2
theorem psd_if {c : Expr} {a b : List Stmt} {tc : DT} {t u : DS} {pos : Pos} (hc : PTd X S E c tc) (ha : PBd X S E a t) (hb : PBd X S E b u) : PSd X S E (.If c a b pos) (dIfS tc t u) :=
  ⟨fun pins s σ H F sd W D2 E2 I rl sr xc h => wpAny_If (thn (hc.run pins s σ H F sd W _ E2 I rl sr xc h) fun d s1 ⟨H1, F1, W1, I1, e1, rl1, q1⟩ => by
    cases d with
    | true => exact thn (ha.run pins s1 σ H1 F1 sd W1 D2 E2 I1 rl1 (sr.mono e1) (XCv.mono e1 xc) q1) fun f s' z => z.mono e1
    | false => exact thn (hb.run pins s1 σ H1 F1 sd W1 D2 E2 I1 rl1 (sr.mono e1) (XCv.mono e1 xc) q1) fun f s' z => z.mono e1)⟩
def dNever : DS := fun _ _ _ _ => False
theorem psd_never {st : Stmt} : PSd X S E st dNever := ⟨fun _ _ _ _ _ _ _ _ _ _ _ _ _ h => h.elim⟩
theorem pb_never {st : List Stmt} : PBd X S E st dNever := ⟨fun _ _ _ _ _ _ _ _ _ _ _ _ _ h => h.elim⟩

/-! ### arguments, displays -/
def dNil : DA := fun _ W Q _ => Q [] W
def dCons (t : DE) (u : DA) : DA := fun sd W Q E2 => t sd W (fun d W1 => u sd W1 (fun ds W2 => Q (d :: ds) W2) E2) E2
/-- what the arguments' reading is for one more -/
theorem pad_nil : PAd X S E [] dNil := ⟨fun pos pins s σ H F sd W Q2 E2 I rl sr xc h => by
  exact thn ((pa_nil (X := X)).run pos pins s σ H (fun vs H' => vs = [] ∧ H' = H) I ⟨rfl, rfl⟩) fun us s' ⟨vs, H', I', r, ev, eh⟩ => by
    subst ev eh
    exact ⟨[], _, F, [], W, I', r, Ex.refl _, rl, .nil, h⟩⟩
theorem pad_cons {e : Expr} {es : List Expr} {t : DE} {u : DA} (he : PD X S E e t) (hes : PAd X S E es u) (hs : starEach (e :: es) X.env = (false, eval e X.env) :: starEach es X.env := by rfl) : PAd X S E (e :: es) (dCons t u) := ⟨fun pos pins s σ H F sd W Q2 E2 I rl sr xc h => by
  have z := (pa_cons (X := X) (e := e) (es := es) he.pe hes.pa hs).run pos pins s σ H (fun vs H' => ∃ F' ds W', Ex F F' ∧ Rel S F' W' H' ∧ Rps S F' vs ds ∧ Q2 ds W') I ?_
  · exact thn z fun us s' ⟨vs, H', I', r, F', ds, W', a1, a2, a3, a4⟩ => ⟨vs, H', F', ds, W', I', r, a1, a2, a3, a4⟩
  · refine ⟨F, sd, W, _, E2, rl, sr, fun F1 v d W1 H1 e1 r1 p1 q1 => ?_, xc, h⟩
    exact ⟨F1, sd, W1, _, E2, r1, sr.mono e1, fun F2 vs ds W2 H2 e2 r2 p2 q2 => ⟨F2, d :: ds, W2, e1.trans e2, r2, .cons (p1.mono e2) p2, q2⟩, XCv.mono e1 xc, q1⟩⟩
def dTup (t : DA) : DE := fun sd W Q E2 => t sd W (fun ds W1 => ds.length ≤ 1000 ∧ Q (.tup ds) W1) E2
def dLst (t : DA) : DE := fun sd W Q E2 => t sd W (fun ds W1 => ds.length ≤ 1000 ∧ Q (.lst ds) W1) E2
/-- a list that is to change -/
def dLstM (t : DA) : DE := fun sd W Q E2 => t sd W (fun ds W1 => ds.length ≤ 1000 ∧ ∀ p, W1 p = none → Q (.ptr p) (put W1 p (.lst ds))) E2
theorem small_ds {F : Hp} {vs : List V} {ds : List D} (r : Rps S F vs ds) (h : ds.length ≤ 1000) : vs.length ≤ sizeLine := by
  rw [r.length, sizeLine_eq]
  omega
theorem pd_tup {es : List Expr} {t : DA} {x1 pos} (h : PAd X S E es t) : PD X S E (.Tuple es x1 pos) (dTup t) :=
  PE.pd (pe_tup h.pa) fun σ H F sd W Q2 E2 rl sr xc q => ⟨F, sd, W, _, E2, rl, sr, fun F1 vs ds W1 H1 e1 r1 p1 ⟨hl, q1⟩ => ⟨small_ds p1 hl, fun p hp =>
    tkQ_of (e1.trans (Ex.new (r1.nf hp))) (r1.newF hp) (.tup (SqT.of upd_same) (p1.mono (Ex.new (r1.nf hp)))) q1⟩, xc, q⟩
theorem pd_lst {es : List Expr} {t : DA} {pos} (h : PAd X S E es t) : PD X S E (.List es pos) (dLst t) :=
  PE.pd (pe_lst h.pa) fun σ H F sd W Q2 E2 rl sr xc q => ⟨F, sd, W, _, E2, rl, sr, fun F1 vs ds W1 H1 e1 r1 p1 ⟨hl, q1⟩ => ⟨small_ds p1 hl, fun p hp =>
    tkQ_of (e1.trans (Ex.new (r1.nf hp))) (r1.newF hp) (.lst upd_same (p1.mono (Ex.new (r1.nf hp)))) q1⟩, xc, q⟩
theorem pd_lstM {es : List Expr} {t : DA} {pos} (h : PAd X S E es t) : PD X S E (.List es pos) (dLstM t) :=
  PE.pd (pe_lst h.pa) fun σ H F sd W Q2 E2 rl sr xc q => ⟨F, sd, W, _, E2, rl, sr, fun F1 vs ds W1 H1 e1 r1 p1 ⟨hl, q1⟩ => ⟨small_ds p1 hl, fun p hp =>
    tkQ_of e1 (r1.newW (m := .lst ds) hp ⟨vs, rfl, p1⟩) (.ptr p) (q1 p (r1.nw hp))⟩, xc, q⟩
/-- a thing of the world is frozen from here on -/
def dFrz (t : DE) : DE := fun sd W Q E2 => t sd W (fun d W1 => match d with
  | .ptr a => (match W1 a with
    | some m => Q m.d (cut W1 a)
    | none => False)
  | _ => False) E2
theorem pd_frz {e : Expr} {t : DE} (h : PD X S E e t) : PD X S E e (dFrz t) :=
  ⟨fun pins s σ H F sd W Q2 E2 I rl sr xc q => thn (h.run pins s σ H F sd W _ E2 I rl sr xc q) fun u s' ⟨v, H1, F1, d, W1, I1, r1, e1, rl1, p1, q1⟩ => by
    cases p1 with
    | ptr a =>
      have q2 : (match W1 a with | some m => Q2 m.d (cut W1 a) | none => False) := q1
      cases e : W1 a with
      | none => rw [e] at q2; exact q2.elim
      | some m =>
        rw [e] at q2
        obtain ⟨F2, e2, rl2, p2⟩ := rl1.frz e
        exact ⟨_, H1, F2, m.d, _, I1, r1, e1.trans e2, rl2, p2, q2⟩
    | _ => exact q1.elim⟩

/-! ### stores to names -/
abbrev DG := D → SD → Wd → (SD → Wd → Prop) → Prop
abbrev DGs := List D → SD → Wd → (SD → Wd → Prop) → Prop
def NP (X : Cx) (S : Sy) (pins : List (Addr × Obj)) (F : Hp) (Q : SD → Wd → Prop) (s' : Shared) : Prop := NPd X S pins F Q s'
structure PGd (X : Cx) (S : Sy) (target : Expr) (t : DG) : Prop where
  run : ∀ (pins : List (Addr × Obj)) (s : Shared) (σ : L2.St) (H F : Hp) (sd : SD) (W : Wd) (v : V) (d : D) (u : Value) (Q : SD → Wd → Prop), Inv X pins σ H s → Rel S F W H → SRel S F σ sd → RelV v u → Rp S F v d → t d sd W Q →
    wpAny (model X.prog X.w) X.A (assign target X.env u) (fun _ s' => NPd X S pins F Q s') X.xe s
structure PGsd (X : Cx) (S : Sy) (ts : List Expr) (t : DGs) : Prop where
  run : ∀ (pins : List (Addr × Obj)) (s : Shared) (σ : L2.St) (H F : Hp) (sd : SD) (W : Wd) (vs : List V) (ds : List D) (us : List Value) (Q : SD → Wd → Prop), Inv X pins σ H s → Rel S F W H → SRel S F σ sd → Vals vs us → Rps S F vs ds → t ds sd W Q →
    wpAny (model X.prog X.w) X.A (assignInOrder ((assignEach ts X.env).map (·.2)) us) (fun _ s' => NPd X S pins F Q s') X.xe s
theorem NPd.back {pins : List (Addr × Obj)} {F F' : Hp} (e : Ex F F') {Q : SD → Wd → Prop} {s' : Shared} (h : NPd X S pins F' Q s') : NPd X S pins F Q s' := by
  obtain ⟨σ', H', F2, sd, W, a, b, c⟩ := h
  exact ⟨σ', H', F2, sd, W, a, e.trans b, c⟩
def gN (i : Nat) : DG := fun d sd W Q => Q (sd.set i (some d)) W
theorem pgd_name {i : Nat} {x : Str} {pos : Pos} (hN : X.N.Nodup) (hi : X.N[i]? = some x := by rfl) (hx : Loc X.env.scope x := by first | exact Or.inl rfl | exact Or.inr rfl) (hf : X.fn x = true ∨ X.env.scope.names.lookup x = some .local := by first | exact .inl rfl | exact .inr rfl) : PGd X S (.Name x pos) (gN i) :=
  ⟨fun pins s σ H F sd W v d u Q I rl sr rv rp h => thn ((pg_name (pos := pos) hN hi hx hf).run pins s σ H v u (fun σ' H' => σ' = σ.set i (some v) ∧ H' = H) I rv ⟨rfl, rfl⟩) fun _ s' ⟨σ', H', I', e1, e2⟩ => by
    subst e1 e2
    exact ⟨_, _, F, _, W, I', Ex.refl _, rl, sr.set rp, h⟩⟩
def gN0 : DGs := fun ds sd W Q => (match ds with
  | [] => Q sd W
  | _ => False)
def gNs (t : DG) (u : DGs) : DGs := fun ds sd W Q => (match ds with
  | d :: r => t d sd W fun sd' W' => u r sd' W' Q
  | [] => False)
theorem pgsd_nil : PGsd X S [] gN0 := ⟨fun pins s σ H F sd W vs ds us Q I rl sr rv rp h => by
  cases rp with
  | nil =>
    cases rv
    exact PyProof.Rows.assignInOrder_nil ⟨σ, H, F, sd, W, I, Ex.refl _, rl, sr, h⟩
  | cons _ _ => exact h.elim⟩
theorem pgsd_cons {e : Expr} {es : List Expr} {t : DG} {u : DGs} (h1 : PGd X S e t) (h2 : PGsd X S es u)
    (hs : (assignEach (e :: es) X.env).map (·.2) = assign e X.env :: (assignEach es X.env).map (·.2) := by rfl) : PGsd X S (e :: es) (gNs t u) := ⟨fun pins s σ H F sd W vs ds us Q I rl sr rv rp h => by
  cases rp with
  | nil => exact h.elim
  | cons p1 pr =>
    cases rv with
    | cons r1 rr =>
      rw [hs]
      refine PyProof.Rows.assignInOrder_cons (thn (h1.run pins s σ H F sd W _ _ _ _ I rl sr r1 p1 h) fun _ s1 ⟨σ1, H1, F1, sd1, W1, I1, e1, rl1, sr1, q1⟩ => ?_)
      exact thn (h2.run pins s1 σ1 H1 F1 sd1 W1 _ _ _ Q I1 rl1 sr1 rr (pr.mono e1) q1) fun _ s' z => z.back e1⟩
def gTp (n : Nat) (t : DGs) : DG := fun d sd W Q => (match d with
  | .tup ds => ds.length = n ∧ t ds sd W Q
  | _ => False)
theorem pgd_tup {es : List Expr} {k : Nat} {t : DGs} {n : Nat} {pos : Pos} (hc : X.calm = true) (hK : X.K = S.K) (h : PGsd X S es t)
    (hn : (assignEach es X.env).length = n := by rfl) (hst : (assignEach es X.env).findIdx? (·.1) = none := by rfl) : PGd X S (.Tuple es k pos) (gTp n t) := ⟨fun pins s σ H F sd W v d u Q I rl sr r rp hw => by
  cases rp with
  | tup hq pr =>
    rename_i a vs ds
    obtain ⟨hl, hw⟩ := hw
    cases r
    obtain ⟨its, rv, ht, hz⟩ := I.tuple (by rw [hK]; exact ex_t rl.sub hq)
    refine PyProof.Rows.assign_Tuple_tuple (I.ok.hd hc) ht (by simp [hn, ← hl, ← pr.length, rv.length]) hst fun h' hx => ?_
    have I1 : Inv X pins σ H { s with heap := h' } := I.kept (t' := s.toks) fun b o e => hx b o (Nat.ne_of_lt (Heap.lt_size e)) e
    exact h.run pins _ σ H F sd W vs ds _ Q I1 rl sr (by simpa using rv) pr hw
  | _ => exact hw.elim⟩
def dAsg (t : DE) (g : DG) : DS := fun D sd W E2 => t sd W (fun d W1 => g d sd W1 D.nx) E2
theorem psd_asg {tg e : Expr} {t : DE} {g : DG} {pos : Pos} (he : PD X S E e t) (hg : PGd X S tg g) (hs : swapsWithSole [tg] e pos.line X.env = pure false := by rfl) (hw : swappedStores [tg] e X.env = pure none := by rfl)
    (h1 : (assignEach [tg] X.env).map (·.2) = [assign tg X.env] := by rfl) : PSd X S E (.Assign [tg] e pos) (dAsg t g) :=
  ⟨fun pins s σ H F sd W D2 E2 I rl sr xc h => wpAny_Assign_stores (thn (he.run pins s σ H F sd W _ E2 I rl sr xc h) fun v s1 ⟨x, H1, F1, d, W1, I1, r1, e1, rl1, p1, q1⟩ => by
    rw [h1]
    exact thn (hg.run pins s1 σ H1 F1 sd W1 x d v _ I1 rl1 (sr.mono e1) r1 p1 q1) fun _ s2 q => q.back e1) hs hw⟩
theorem psd_set {i : Nat} {x : Str} {e : Expr} {t : DE} {pos pos' : Pos} (hN : X.N.Nodup) (he : PD X S E e t) (hi : X.N[i]? = some x := by rfl) (hx : Loc X.env.scope x := by first | exact Or.inl rfl | exact Or.inr rfl) (hs : swapsWith e (some (.Name x pos')) pos.line X.env = pure false := by rfl) (hf : X.fn x = true ∨ X.env.scope.names.lookup x = some .local := by first | exact .inl rfl | exact .inr rfl) :
    PSd X S E (.Assign [.Name x pos'] e pos) (dAsg t (gN i)) :=
  PS.pd (ps_set hN hi hx he.pe hs hf) fun σ H F sd W D2 E2 rl sr xc h => ⟨F, sd, W, _, E2, rl, sr, fun F1 v d W1 H1 e1 r1 p1 q1 => ⟨F1, _, W1, e1, r1, (sr.mono e1).set p1, q1⟩, xc, h⟩
/-- a, b = x, y -/
def dPar (i j : Nat) (t : DA) : DS := fun D sd W E2 => t sd W (fun ds W1 => match ds with
  | [c, d] => D.nx ((sd.set i (some c)).set j (some d)) W1
  | _ => False) E2
theorem psd_par {i j : Nat} {x y : Str} {a b : Expr} {t : DA} {pos px py pt : Pos} {kt k2 pt2} (hc : X.calm = true) (hN : X.N.Nodup) (ha : PAd X S E [a, b] t) (hi : X.N[i]? = some x := by rfl) (hj : X.N[j]? = some y := by rfl) (hij : i ≠ j := by decide)
    (hx : X.env.scope.names.lookup x = some .local := by rfl) (hy : X.env.scope.names.lookup y = some .local := by rfl)
    (hw : swappedStores [.Tuple [.Name x px, .Name y py] kt pt] (.Tuple [a, b] k2 pt2) X.env = pure (some [x, y]) := by rfl)
    (hs : swapsWithSole [.Tuple [.Name x px, .Name y py] kt pt] (.Tuple [a, b] k2 pt2) pos.line X.env = pure false := by rfl) :
    PSd X S E (.Assign [.Tuple [.Name x px, .Name y py] kt pt] (.Tuple [a, b] k2 pt2) pos) (dPar i j t) :=
  PS.pd (ps_par hc hN hi hj hij hx hy ha.pa hw hs) fun σ H F sd W D2 E2 rl sr xc h => ⟨F, sd, W, _, E2, rl, sr, fun F1 vs ds W1 H1 e1 r1 p1 q1 => by
    cases p1 with
    | nil => exact q1.elim
    | cons p1 pr =>
      cases pr with
      | nil => exact q1.elim
      | cons p2 pr =>
        cases pr with
        | nil => exact ⟨_, _, rfl, F1, _, W1, e1, r1, ((sr.mono e1).set p1).set p2, q1⟩
        | cons _ _ => exact q1.elim, xc, h⟩
end
end Mv
end
section
set_option Elab.async false
set_option linter.all false
set_option maxRecDepth 100000
set_option maxHeartbeats 4000000
namespace Mv
open PySem PySem.Spec L2
open Evl (Ex ex_l ex_t ex_rd)
open PyProof.Rows (envOfC)

/-! ## what a def promises, over data -/
abbrev DSp := List D → Wd → QD → QD → Prop
def XC0 (S : Sy) (F : Hp) (E2 : QD) (E : XK) : Prop := ∀ F' (dx : Addr) vs c fs W' H', Ex F F' → Rel S F' W' H' → F' dx = some (.xd vs) → Rpf S F' vs fs → E2 (.exn c fs) W' → E (.ref (S.ca c)) (some dx) H'
def upSp (S : Sy) (sp2 : DSp) : Sp := fun vs H Q E => ∃ F W ds Q2 E2, Rel S F W H ∧ Rps S F vs ds ∧ QCv S F Q2 Q ∧ XC0 S F E2 E ∧ sp2 ds W Q2 E2

/-- a def at f: its promise, its parameters, its defaults -/
structure FnD (P : Program) (w : World) (S : Sy) (mg : Str → Option Value) (base : Heap) (k : Nat) (f : Addr) (n : Nat) (dds : List D) (sp2 : DSp) : Prop where
  ex : ∃ (fd : FuncData) (ps : List Str) (dvs : List V), FnOk P w S.K mg base (L2.CX P w) k f fd ps (upSp S sp2) ∧ ps.length = n ∧ (∀ F, Rps S F dvs dds) ∧ ∀ j, j ≤ dds.length → ∃ dv, Vals (dvs.drop j) dv ∧ Binds S.K fd ps dv
  kp : PySem.W.keepIn S.K (.ref f) = true
theorem FnD.mono {P : Program} {w : World} {S : Sy} {mg : Str → Option Value} {base : Heap} {j k : Nat} {f : Addr} {n : Nat} {dds : List D} {sp2 : DSp} (G : FnD P w S mg base j f n dds sp2) (h : j ≤ k) : FnD P w S mg base k f n dds sp2 := by
  obtain ⟨⟨fd, ps, dvs, a, b, c, d⟩, e⟩ := G
  exact ⟨⟨fd, ps, dvs, a.mono h, b, c, d⟩, e⟩
theorem Rps.drop {S : Sy} {F : Hp} : ∀ (n : Nat) {vs : List V} {ds : List D}, Rps S F vs ds → Rps S F (vs.drop n) (ds.drop n)
  | 0, _, _, r => r
  | _ + 1, _, _, .nil => .nil
  | n + 1, _, _, .cons _ t => Rps.drop n t

section
variable {X : Cx} {S : Sy} {E : XS} {k : Nat} {f : Addr} {n : Nat} {dds : List D} {sp2 : DSp}
/-- the callee runs, at A -/
theorem run_at {A : Around} {pins : List (Addr × Obj)} {s : Shared} {σ : L2.St} {H F : Hp} {sd : SD} {W : Wd} {us : List Value} {vs : List V} {ds : List D} {Q2 : QD} {E2 : QX} (hK : X.K = S.K) (G : FnD X.prog X.w S X.mg X.base k f n dds sp2) (hr : Room k A) (e0 : Env0 X.prog X.w X.K X.mg X.base A X.stack s H) (tk : Takes X E)
    (I : Inv X pins σ H s) (rl : Rel S F W H) (sr : SRel S F σ sd) (xc : XCv S F E2 E) (r : Vals vs us) (rp : Rps S F vs ds) (h : ds.length ≤ n ∧ n ≤ ds.length + dds.length ∧ sp2 (ds ++ dds.drop (dds.length - (n - ds.length))) W Q2 (fun d W' => E2 d sd W')) :
    wpAny (model X.prog X.w) A (call (.ref f) us) (DP X S pins σ F Q2) X.xe s := by
  obtain ⟨⟨fd, ps, dvs, Fn, hn, hdd, hbd⟩, kp⟩ := G
  obtain ⟨h1, h2, h⟩ := h
  obtain ⟨dv, rv, hb⟩ := hbd (dds.length - (n - ds.length)) (by omega)
  have r2 : Vals (vs ++ dvs.drop (dds.length - (n - ds.length))) (us ++ dv) := r.append rv
  have ldv : dvs.length = dds.length := (hdd F).length
  have lvs : vs.length = ds.length := rp.length
  have hl : (us ++ dv).length = ps.length := by
    rw [← r2.length, List.length_append, List.length_drop, hn, lvs, ldv]
    omega
  have hsp : upSp S sp2 (vs ++ dvs.drop (dds.length - (n - ds.length))) H (tkQ S F Q2) (WE E σ) :=
    ⟨F, W, _, Q2, _, rl, rp.append ((hdd F).drop _), tkQ_cv, fun F' dx vs c fs W' H' e rl' hx rf q => xc F' dx vs c fs σ sd W' H' e rl' (sr.mono e) hx rf q, h⟩
  rw [← hK] at Fn hb
  refine wpAny_call (codeAny_mono (Fn.run A X.stack s H ⟨us, []⟩ (us ++ dv) _ _ (WE E σ) hr e0 (hb s us I.kIn hl) r2 hsp) fun r s' hq => ?_)
  cases r with
  | error e => exact passAt tk σ pins H s e s' I hq
  | ok fl =>
    cases fl with
    | ret u => exact EP.tk (I.after hq)
    | next => exact False.elim hq
    | brk => exact False.elim hq
    | cont => exact False.elim hq
/-- f(e, ..) -/
def dCall (n : Nat) (dds : List D) (sp2 : DSp) (t : DA) : DE := fun sd W Q E2 => t sd W (fun ds W1 => ds.length ≤ n ∧ n ≤ ds.length + dds.length ∧ sp2 (ds ++ dds.drop (dds.length - (n - ds.length))) W1 Q (fun d W' => E2 d sd W')) E2
theorem pd_call {x : Str} {p pos : Pos} {e : Expr} {es : List Expr} {t : DA} (hK : X.K = S.K) (tk : Takes X E) (hr : Room k X.A) (G : FnD X.prog X.w S X.mg X.base k f n dds sp2) (hm : X.mg x = some (.ref f)) (ha : PAd X S E (e :: es) t) (hg : Gl X x := by rfl)
    (hdb : (x == ("__debug__" : Str)) = false := by decide) (he : starEach (e :: es) X.env = (false, eval e X.env) :: starEach es X.env := by rfl) (hpl : (backTo pos (starEach es X.env)).any (·.1) = false := by rfl) :
    PD X S E (.Call (.Name x p) (e :: es) [] pos) (dCall n dds sp2 t) := by
  refine ⟨fun pins s σ H F sd W Q2 E2 I rl sr xc h => ?_⟩
  refine wpAny_Call_Name_kw (ld_glob I hg hm ?_ hdb)
  refine PySem.W.callWith_K (h₀ := X.base) I.ok.mod.kin (by rw [hK]; exact G.kp) (thn (ha.run pos pins s σ H F sd W _ E2 I rl sr xc h) fun us s1 ⟨vs, H1, F1, ds, W1, I1, r, e1, rl1, rp, q⟩ => ⟨I1.kIn, ?_⟩) he hpl
  exact thn (run_at hK G hr I1.env0 tk I1 rl1 (sr.mono e1) (XCv.mono e1 xc) r rp q) fun u s' z => z.back e1
theorem pd_call0 {x : Str} {p pos : Pos} (hK : X.K = S.K) (tk : Takes X E) (hr : Room k X.A) (G : FnD X.prog X.w S X.mg X.base k f n dds sp2) (hm : X.mg x = some (.ref f)) (hg : Gl X x := by rfl) (hdb : (x == ("__debug__" : Str)) = false := by decide) :
    PD X S E (.Call (.Name x p) [] [] pos) (dCall n dds sp2 dNil) := by
  refine ⟨fun pins s σ H F sd W Q2 E2 I rl sr xc h => ?_⟩
  refine wpAny_Call_Name_kw (ld_glob I hg hm ?_ hdb)
  exact PySem.W.callWith_K0 I.kIn (by rw [hK]; exact G.kp) (run_at (us := []) hK G hr I.env0 tk I rl sr xc .nil .nil h)

/-! ### instances -/
def kIns (W : Wd) (d : D) (k : Nat → List (Nat × D) → Prop) : Prop := match d with
  | .ins c fs => k c fs
  | .ptr a => (match W a with
    | some (.ins c fs) => k c fs
    | _ => False)
  | _ => False
theorem kIns.at {H F : Hp} {W : Wd} {v : V} {d : D} {q : Nat → List (Nat × D) → Prop} (rl : Rel S F W H) (rp : Rp S F v d) (h : kIns W d q) : ∃ a dx vs c fs, v = .ref a ∧ H a = some (.ins (S.ca c) dx vs) ∧ Rpf S F vs fs ∧ q c fs := by
  cases rp with
  | ptr a =>
    have h2 : (match W a with | some (.ins c fs) => q c fs | _ => False) := h
    cases e : W a with
    | none => rw [e] at h2; exact h2.elim
    | some m =>
      rw [e] at h2
      cases m with
      | ins c fs =>
        obtain ⟨_, dx, vs, e1, r1⟩ := rl.obj a _ e
        exact ⟨a, dx, vs, c, fs, rfl, e1, r1, h2⟩
      | lst _ => exact h2.elim
      | dK _ => exact h2.elim
      | dT _ => exact h2.elim
  | ins hq r1 => exact ⟨_, _, _, _, _, rfl, rl.sub _ _ hq, r1, h⟩
  | _ => exact h.elim


/-- the arguments filled up by the defaults -/
def dfl (n : Nat) (dd : List D) (ds : List D) (k : List D → Prop) : Prop := ds.length ≤ n ∧ n ≤ ds.length + dd.length ∧ k (ds ++ dd.drop (dd.length - (n - ds.length)))
/-- a class's method -/
structure MtD (P : Program) (w : World) (S : Sy) (mg : Str → Option Value) (base : Heap) (k : Nat) (c : Nat) (m : Str) (n : Nat) (dds : List D) (sp2 : DSp) : Prop where
  cl : Cls S.K (S.ca c)
  ex : ∃ f, Meth S.K (S.ca c) m f ∧ FnD P w S mg base k f n dds sp2
theorem MtD.mono {P : Program} {w : World} {S : Sy} {mg : Str → Option Value} {base : Heap} {j k c : Nat} {m : Str} {n : Nat} {dds : List D} {sp2 : DSp} (G : MtD P w S mg base j c m n dds sp2) (h : j ≤ k) : MtD P w S mg base k c m n dds sp2 := by
  obtain ⟨a, f, b, c⟩ := G
  exact ⟨a, f, b, c.mono h⟩
/-- methods of one name, by class -/
structure Mts where
  l : List Nat
  n : Nat → Nat
  dd : Nat → List D
  sp : Nat → DSp
def Mts.ok (M : Mts) (X : Cx) (S : Sy) (k : Nat) (m : Str) : Prop := ∀ c, c ∈ M.l → MtD X.prog X.w S X.mg X.base k c m (M.n c) (M.dd c) (M.sp c)
/-- o.m(..): the promise by the class -/
def dMeth (M : Mts) (ta : DE) (t : DA) : DE := fun sd W Q E2 => ta sd W (fun d W1 => kIns W1 d fun c _ => c ∈ M.l ∧ t sd W1 (fun ds W2 => dfl (M.n c) (M.dd c) (d :: ds) fun ds' => M.sp c ds' W2 Q (fun x W' => E2 x sd W')) E2) E2
theorem look_none {F : Hp} {m : Str} (nf : ∀ i, S.t.nm i ≠ m) : ∀ {vs : List (Str × V)} {fs : List (Nat × D)}, Rpf S F vs fs → vs.lookup m = none
  | _, _, .nil => rfl
  | _, _, .cons (k := k) (vs := vs) r t => by
    have h2 : (m == S.t.nm k) = false := by
      simp only [beq_eq_false_iff_ne]
      exact fun q => nf k q.symm
    simp only [List.lookup, h2]
    exact look_none nf t
theorem pd_meth {M : Mts} {o e : Expr} {es : List Expr} {m : Str} {apos pos : Pos} {ta : DE} {t : DA} {pl : Sem Bool} (hK : X.K = S.K) (tk : Takes X E) (hr : Room k X.A) (hM : M.ok X S k m) (nf : ∀ i, S.t.nm i ≠ m)
    (ho : PD X S E o ta) (ha : PAd X S E (e :: es) t)
    (hst : starEach (e :: es) X.env = (false, eval e X.env) :: starEach es X.env := by rfl) (hpl : (backTo pos (starEach es X.env)).any (·.1) = false := by rfl)
    (ht : eval (.Call (.Attribute o m apos) (e :: es) [] pos) X.env = (do
      let ov ← eval o X.env
      standAt apos.atName
      let (f, first) ← holding [ov] (getMethod ov m pl)
      callWith pos f first (backTo pos (starEach (e :: es) X.env)) (backToKw pos (keywordEach [] X.env))) := by rfl) :
    PD X S E (.Call (.Attribute o m apos) (e :: es) [] pos) (dMeth M ta t) := by
  refine ⟨fun pins s σ H F sd W Q2 E2 I rl sr xc h => ?_⟩
  refine PySem.W.methodCall_KW (pl := pl) (thn (ho.run pins s σ H F sd W _ E2 I rl sr xc h) fun u s1 ⟨x, H1, F1, d, W1, I1, rx, e1, rl1, rp, q⟩ => ?_) ht
  obtain ⟨a, dx, vs, c, fs, ex, ea, rf, hc, q⟩ := kIns.at rl1 rp q
  subst ex
  obtain rfl : u = Value.ref a := rx
  obtain ⟨cl, f, mt, G⟩ := hM c hc
  rw [← hK] at cl mt
  refine getmeth_ok I1 ea cl mt (look_none nf rf) ?_
  refine PySem.W.callWith_K (first := [.ref a]) (h₀ := X.base) I.ok.mod.kin mt.kp (thn (ha.run pos pins s1 σ H1 F1 sd W1 _ E2 I1 rl1 (sr.mono e1) (XCv.mono e1 xc) q) fun us s2 ⟨vs2, H2, F2, ds, W2, I2, r2, e2, rl2, rp2, q2⟩ => ⟨I2.kIn, ?_⟩) hst hpl
  exact thn (run_at (us := .ref a :: us) (vs := .ref a :: vs2) (ds := d :: ds) hK G hr I2.env0 tk I2 rl2 (sr.mono (e1.trans e2)) (XCv.mono (e1.trans e2) xc) (.cons rfl r2) (.cons (rp.mono e2) rp2) q2) fun u s' z => z.back (e1.trans e2)
theorem pd_meth0 {M : Mts} {o : Expr} {m : Str} {apos pos : Pos} {ta : DE} {pl : Sem Bool} (hK : X.K = S.K) (tk : Takes X E) (hr : Room k X.A) (hM : M.ok X S k m) (nf : ∀ i, S.t.nm i ≠ m)
    (ho : PD X S E o ta)
    (ht : eval (.Call (.Attribute o m apos) [] [] pos) X.env = (do
      let ov ← eval o X.env
      standAt apos.atName
      let (f, first) ← holding [ov] (getMethod ov m pl)
      callWith pos f first (backTo pos (starEach [] X.env)) (backToKw pos (keywordEach [] X.env))) := by rfl) :
    PD X S E (.Call (.Attribute o m apos) [] [] pos) (dMeth M ta dNil) := by
  refine ⟨fun pins s σ H F sd W Q2 E2 I rl sr xc h => ?_⟩
  refine PySem.W.methodCall_KW (pl := pl) (thn (ho.run pins s σ H F sd W _ E2 I rl sr xc h) fun u s1 ⟨x, H1, F1, d, W1, I1, rx, e1, rl1, rp, q⟩ => ?_) ht
  obtain ⟨a, dx, vs, c, fs, ex, ea, rf, hc, q⟩ := kIns.at rl1 rp q
  subst ex
  obtain rfl : u = Value.ref a := rx
  obtain ⟨cl, f, mt, G⟩ := hM c hc
  rw [← hK] at cl mt
  refine getmeth_ok I1 ea cl mt (look_none nf rf) ?_
  exact PySem.W.callWith_K0 (first := [.ref a]) I1.kIn mt.kp (thn (run_at (us := [.ref a]) (vs := [.ref a]) (ds := [d]) hK G hr I1.env0 tk I1 rl1 (sr.mono e1) (XCv.mono e1 xc) (.cons rfl .nil) (.cons rp .nil) q) fun u s' z => z.back e1)

/-! ### attributes -/
/-- properties of one name, by class -/
structure PrD (P : Program) (w : World) (S : Sy) (mg : Str → Option Value) (base : Heap) (k : Nat) (c : Nat) (f : Str) (sp2 : DSp) : Prop where
  cl : Cls S.K (S.ca c)
  ex : ∃ p g, PropOf S.K (S.ca c) f p g ∧ FnD P w S mg base k g 1 [] sp2
/-- what the attribute f is by class: the classes that hold it as a field; its properties -/
structure Ats where
  fl : List Nat
  pr : List Nat
  sp : Nat → DSp
structure Ats.ok (M : Ats) (X : Cx) (S : Sy) (k : Nat) (i : Nat) : Prop where
  fld : ∀ c, c ∈ M.fl → Cls S.K (S.ca c) ∧ NoAttr S.K (S.ca c) (S.t.nm i)
  prp : ∀ c, c ∈ M.pr → PrD X.prog X.w S X.mg X.base k c (S.t.nm i) (M.sp c)
def dAttr (M : Ats) (i : Nat) (ta : DE) : DE := fun sd W Q E2 => ta sd W (fun d W1 => kIns W1 d fun c fs => (c ∈ M.fl ∧ match fs.lookup i with
  | some x => Q x W1
  | none => False) ∨ (c ∈ M.pr ∧ M.sp c [d] W1 Q (fun _ _ => False))) E2
theorem pd_attr {M : Ats} {o : Expr} {i : Nat} {x : Str} {pos : Pos} {ta : DE} (hK : X.K = S.K) (hr : Room (k + 1) X.A) (hM : M.ok X S k i) (hx : S.t.nm i = x) (ho : PD X S E o ta)
    (hab : attributeBase o x X.env (eval o X.env) = eval o X.env := by rfl) : PD X S E (.Attribute o x pos) (dAttr M i ta) := by
  subst hx
  refine ⟨fun pins s σ H F sd W Q2 E2 I rl sr xc h => ?_⟩
  refine attr_of hab (thn (ho.run pins s σ H F sd W _ E2 I rl sr xc h) fun u s1 ⟨x, H1, F1, d, W1, I1, rx, e1, rl1, rp, q⟩ => ?_)
  obtain ⟨a, dx, vs, c, fs, ex, ea, rf, q⟩ := kIns.at rl1 rp q
  subst ex
  obtain rfl : u = Value.ref a := rx
  rcases q with ⟨hc, q⟩ | ⟨hc, q⟩
  · obtain ⟨cl, na⟩ := hM.fld c hc
    rw [← hK] at cl na
    cases e : fs.lookup i with
    | none => rw [e] at q; exact q.elim
    | some y =>
      rw [e] at q
      obtain ⟨v, l, rv⟩ := rf.look e
      exact getattr_ok I1 ea cl na l fun u' s2 I2 ru => ⟨v, H1, F1, y, W1, I2, ru, e1, rl1, rv, q⟩
  · obtain ⟨cl, p, g, pr, G⟩ := hM.prp c hc
    obtain ⟨⟨fd, ps, dvs, Fn, hn, hdd, hbd⟩, kp⟩ := G
    obtain ⟨dv, rv, hb⟩ := hbd 0 (Nat.zero_le _)
    have hdvs : dvs = [] := List.eq_nil_of_length_eq_zero ((hdd F).length)
    subst hdvs
    rw [← hK] at cl pr Fn hb
    have hsp : upSp S (M.sp c) ([.ref a] ++ []) H1 (tkQ S F1 Q2) (fun _ _ _ => False) :=
      ⟨F1, W1, [d], Q2, _, rl1, .cons rp .nil, tkQ_cv, fun _ _ _ _ _ _ _ _ _ _ _ z => z, q⟩
    have hx : Passes (L2.CX X.prog X.w) X.nox (fun _ _ _ => False) := fun _ _ _ _ _ _ _ z => by
      obtain ⟨_, _, _, _, _, _, _, _, _, _, _, _, y⟩ := z
      exact y.elim
    exact thn (getprop_ok I1 ea cl pr Fn hr hb rv hx hsp) fun u s' z => (EP.tk z).back e1
/-- o.f = e -/
def dFld (l : List Nat) (i : Nat) (ta t : DE) : DS := fun D sd W E2 => t sd W (fun y W1 => ta sd W1 (fun d W2 => match d with
  | .ptr a => (match W2 a with
    | some (.ins c fs) => c ∈ l ∧ fs.length ≤ 100 ∧ D.nx sd (put W2 a (.ins c (putN i y fs)))
    | _ => False)
  | _ => False) E2) E2
theorem psd_fld {l : List Nat} {o value : Expr} {i : Nat} {x : Str} {pos pos' : Pos} {ta t : DE} (hK : X.K = S.K) (hl : ∀ c, c ∈ l → Cls S.K (S.ca c) ∧ NoAttr S.K (S.ca c) (S.t.nm i)) (hx : S.t.nm i = x) (ho : PD X S E o ta) (hv : PD X S E value t)
    (hs : swapsWith value (some (.Attribute o x pos')) pos.line X.env = pure false := by rfl) : PSd X S E (.Assign [.Attribute o x pos'] value pos) (dFld l i ta t) := by
  subst hx
  refine PS.pd (ps_fld ho.pe hv.pe hs) fun σ H F sd W D2 E2 rl sr xc h => ⟨F, sd, W, _, E2, rl, sr, fun F1 v y W1 H1 e1 r1 p1 q1 => ?_, xc, h⟩
  refine ⟨F1, sd, W1, _, E2, r1, sr.mono e1, fun F2 v2 d W2 H2 e2 r2 p2 q2 => ?_, XCv.mono e1 xc, q1⟩
  cases p2 with
  | ptr a =>
    have q3 : (match W2 a with | some (.ins c fs) => c ∈ l ∧ fs.length ≤ 100 ∧ D2.nx sd (put W2 a (.ins c (putN i y fs))) | _ => False) := q2
    cases e : W2 a with
    | none => rw [e] at q3; exact q3.elim
    | some m =>
      rw [e] at q3
      cases m with
      | ins c fs =>
        obtain ⟨hc, hz, q3⟩ := q3
        obtain ⟨_, dx, vs, ea, rf⟩ := r2.obj a _ e
        obtain ⟨cl, na⟩ := hl c hc
        rw [← hK] at cl na
        exact ⟨a, S.ca c, dx, vs, rfl, ea, cl, na, by rw [rf.length]; omega, F2, sd, _, e1.trans e2, r2.set (m := .ins c (putN i y fs)) e ⟨dx, _, rfl, rf.put (p1.mono e2)⟩, (sr.mono e1).mono e2, q3⟩
      | _ => exact q3.elim
  | _ => exact q2.elim

/-! ### a new instance -/
structure MkD (P : Program) (w : World) (S : Sy) (mg : Str → Option Value) (base : Heap) (k : Nat) (c : Nat) (n : Nat) (dds : List D) (sp2 : DSp) : Prop where
  ex : ∃ f, Mk S.K (S.ca c) f ∧ FnD P w S mg base k f n dds sp2
theorem MkD.mono {P : Program} {w : World} {S : Sy} {mg : Str → Option Value} {base : Heap} {j k c : Nat} {n : Nat} {dds : List D} {sp2 : DSp} (G : MkD P w S mg base j c n dds sp2) (h : j ≤ k) : MkD P w S mg base k c n dds sp2 := by
  obtain ⟨f, b, c⟩ := G
  exact ⟨f, b, c.mono h⟩
theorem Rel.made {F H : Hp} {W : Wd} (r : Rel S F W H) {x dx : Addr} {c : Nat} (hx : H x = none) (hd : H dx = none) (ne : dx ≠ x) :
    Rel S F (put W x (.ins c [])) (upd (upd H dx (.own x)) x (.ins (S.ca c) dx [])) := by
  have r1 : Rel S F W (upd H dx (.own x)) := by
    refine ⟨fun b u e => ?_, fun a m e => ?_, r.tab.ext (upd_ext hd), r.nt⟩
    · rw [upd_ne (ne_of_none (r.sub b u e) hd)]
      exact r.sub b u e
    · obtain ⟨f, mo⟩ := r.obj a m e
      have q : a ≠ dx := fun z => by
        rw [z, r.nw hd] at e
        cases e
      rw [upd_ne q]
      exact ⟨f, mo⟩
  exact r1.newW (m := .ins c []) (by rw [upd_ne (Ne.symm ne)]; exact hx) ⟨dx, [], rfl, .nil⟩
def kNon (d : D) (k : Prop) : Prop := match d with
  | .non => k
  | _ => False
theorem Rel.cut {F H : Hp} {W : Wd} {a : Addr} (r : Rel S F W H) : Rel S F (cut W a) H := ⟨r.sub, fun b m e => by
  unfold Mv.cut at e
  split at e
  · cases e
  · exact r.obj b m e, r.tab, r.nt⟩
def dMake (c n : Nat) (dds : List D) (sp2 : DSp) (t : DA) : DE := fun sd W Q E2 => t sd W (fun ds W1 => ∀ p, W1 p = none → dfl n dds (.ptr p :: ds) fun ds' => sp2 ds' (put W1 p (.ins c [])) (fun d W2 => kNon d (Q (.ptr p) W2)) (fun x W' => E2 x sd (cut W' p))) E2
theorem run_mk {c n : Nat} {dds : List D} {sp2 : DSp} {pins : List (Addr × Obj)} {σ : L2.St} {s : Shared} {H F : Hp} {sd : SD} {W : Wd} {us : List Value} {vs : List V} {ds : List D} {Q2 : QD} {E2 : QX} (hK : X.K = S.K) (G : MkD X.prog X.w S X.mg X.base k c n dds sp2) (hr : Room (k + 1) X.A) (tk : Takes X E)
    (I : Inv X pins σ H s) (rl : Rel S F W H) (sr : SRel S F σ sd) (xc : XCv S F E2 E) (r : Vals vs us) (rp : Rps S F vs ds)
    (h : ∀ p, W p = none → dfl n dds (.ptr p :: ds) fun ds' => sp2 ds' (put W p (.ins c [])) (fun d W2 => kNon d (Q2 (.ptr p) W2)) (fun x W' => E2 x sd (cut W' p))) :
    wpAny (model X.prog X.w) X.A (call (.ref (S.ca c)) us) (DP X S pins σ F Q2) X.xe s := by
  obtain ⟨f, M, ⟨⟨fd, ps, dvs, Fn, hn, hdd, hbd⟩, kp⟩⟩ := G
  have fr1 : H (s.heap.objs.size + 1) = none := I.hok.fresh (Nat.le_succ _)
  have fr0 : H s.heap.objs.size = none := I.hok.fresh (Nat.le_refl _)
  have ne : s.heap.objs.size ≠ s.heap.objs.size + 1 := Nat.ne_of_lt (Nat.lt_succ_self _)
  obtain ⟨h1, h2, h3⟩ := h (s.heap.objs.size + 1) (rl.nw fr1)
  have h1' : ds.length + 1 ≤ n := h1
  have h2' : n ≤ ds.length + 1 + dds.length := h2
  have I2 := Inv.made (C := S.ca c) I
  have rl2 := rl.made (c := c) fr1 fr0 ne
  obtain ⟨dv, rv, hb⟩ := hbd (dds.length - (n - (D.ptr (s.heap.objs.size + 1) :: ds).length)) (by omega)
  have ldv : dvs.length = dds.length := (hdd F).length
  have lvs : vs.length = ds.length := rp.length
  have r2 : Vals (V.ref (s.heap.objs.size + 1) :: vs ++ dvs.drop (dds.length - (n - (D.ptr (s.heap.objs.size + 1) :: ds).length))) (Value.ref (s.heap.objs.size + 1) :: us ++ dv) := Vals.append (.cons rfl r) rv
  have hl : (Value.ref (s.heap.objs.size + 1) :: us ++ dv).length = ps.length := by
    rw [← r2.length, List.length_append, List.length_drop, hn, List.length_cons, List.length_cons, lvs, ldv]
    omega
  have hsp : upSp S sp2 (V.ref (s.heap.objs.size + 1) :: vs ++ dvs.drop (dds.length - (n - (D.ptr (s.heap.objs.size + 1) :: ds).length))) (upd (upd H s.heap.objs.size (.own (s.heap.objs.size + 1))) (s.heap.objs.size + 1) (.ins (S.ca c) s.heap.objs.size []))
      (fun v H' => v = .non ∧ tkQ S F Q2 (.ref (s.heap.objs.size + 1)) H') (WE E σ) :=
    ⟨F, _, _, _, _, rl2, (Rps.cons (.ptr _) rp).append ((hdd F).drop _), fun F' v d W' H' e rl' p q => by
      cases p with
      | non => exact ⟨rfl, F', _, W', e, rl', .ptr _, q⟩
      | _ => exact q.elim, fun F' dx vs c fs W' H' e rl' hx rf q => xc F' dx vs c fs σ sd _ H' e rl'.cut (sr.mono e) hx rf q, h3⟩
  rw [← hK] at Fn hb M
  refine wpAny_call (make_map (f := f) I.kIn M.makes M.init (beq_iff_eq.mp M.fn) (codeAny_mono (Fn.run _ X.stack _ _ ⟨Value.ref (s.heap.objs.size + 1) :: us, []⟩ (Value.ref (s.heap.objs.size + 1) :: us ++ dv) _ _ (WE E σ) (hr.make (S.ca c) us [])
    (I2.env0.make (S.ca c) us []) (hb _ (Value.ref (s.heap.objs.size + 1) :: us) I2.kIn hl) r2 hsp) fun r s' hq' => ?_))
  cases r with
  | error e => exact passAt tk σ pins _ _ e s' I2 hq'
  | ok fl =>
    cases fl with
    | ret u =>
      obtain ⟨v, H', I3, rv, ev, q3⟩ := I2.after hq'
      subst ev
      obtain ⟨F', d, W', e, rl', p, q⟩ := q3
      exact ⟨rv, ⟨V.ref (s.heap.objs.size + 1), H', F', d, W', I3, rfl, e, rl', p, q⟩⟩
    | next => exact False.elim hq'
    | brk => exact False.elim hq'
    | cont => exact False.elim hq'
theorem pd_make {c n : Nat} {dds : List D} {sp2 : DSp} {x : Str} {p pos : Pos} {e : Expr} {es : List Expr} {t : DA} (hK : X.K = S.K) (tk : Takes X E) (hr : Room (k + 1) X.A) (G : MkD X.prog X.w S X.mg X.base k c n dds sp2) (hm : X.mg x = some (.ref (S.ca c))) (ha : PAd X S E (e :: es) t) (hg : Gl X x := by rfl)
    (hdb : (x == ("__debug__" : Str)) = false := by decide) (he : starEach (e :: es) X.env = (false, eval e X.env) :: starEach es X.env := by rfl) (hpl : (backTo pos (starEach es X.env)).any (·.1) = false := by rfl) :
    PD X S E (.Call (.Name x p) (e :: es) [] pos) (dMake c n dds sp2 t) := by
  refine ⟨fun pins s σ H F sd W Q2 E2 I rl sr xc h => ?_⟩
  refine wpAny_Call_Name_kw (ld_glob I hg hm ?_ hdb)
  have kp : PySem.W.keepIn X.K (.ref (S.ca c)) = true := by
    obtain ⟨f, M, _⟩ := G
    rw [hK]
    exact M.kp
  refine PySem.W.callWith_K (h₀ := X.base) I.ok.mod.kin kp (thn (ha.run pos pins s σ H F sd W _ E2 I rl sr xc h) fun us s1 ⟨vs, H1, F1, ds, W1, I1, r, e1, rl1, rp, q⟩ => ⟨I1.kIn, ?_⟩) he hpl
  exact thn (run_mk hK G hr tk I1 rl1 (sr.mono e1) (XCv.mono e1 xc) r rp q) fun u s' z => z.back e1
theorem pd_make0 {c n : Nat} {dds : List D} {sp2 : DSp} {x : Str} {p pos : Pos} (hK : X.K = S.K) (tk : Takes X E) (hr : Room (k + 1) X.A) (G : MkD X.prog X.w S X.mg X.base k c n dds sp2) (hm : X.mg x = some (.ref (S.ca c))) (hg : Gl X x := by rfl)
    (hdb : (x == ("__debug__" : Str)) = false := by decide) :
    PD X S E (.Call (.Name x p) [] [] pos) (dMake c n dds sp2 dNil) := by
  refine ⟨fun pins s σ H F sd W Q2 E2 I rl sr xc h => ?_⟩
  refine wpAny_Call_Name_kw (ld_glob I hg hm ?_ hdb)
  have kp : PySem.W.keepIn X.K (.ref (S.ca c)) = true := by
    obtain ⟨f, M, _⟩ := G
    rw [hK]
    exact M.kp
  exact PySem.W.callWith_K0 I.kIn kp (run_mk (us := []) hK G hr tk I rl sr xc .nil .nil h)

/-! ### a def's body -/
/-- the slots at the entry -/
def startD (N : List Str) (ds : List D) : SD := ds.map some ++ List.replicate (N.length - ds.length) none

end
theorem start_rel {S : Sy} {F : Hp} {N : List Str} {vs : List V} {ds : List D} (rp : Rps S F vs ds) : SRel S F (L2.start N vs) (startD N ds) := by
  unfold L2.start startD
  refine ⟨by simp [rp.length], fun i d h => ?_⟩
  by_cases hi : i < ds.length
  · rw [List.getElem?_append_left (by simpa using hi)] at h
    rw [List.getElem?_append_left (by simpa [rp.length] using hi)]
    rw [List.getElem?_map] at h ⊢
    cases e : ds[i]? with
    | none => rw [e] at h; cases h
    | some d' =>
      rw [e] at h
      cases h
      obtain ⟨v, h1, h2⟩ := rp.get e
      exact ⟨v, by rw [h1]; rfl, h2⟩
  · rw [List.getElem?_append_right (by simpa using hi)] at h
    have h2 := List.mem_of_getElem? h
    rw [List.mem_replicate] at h2
    cases h2.2
/-- THE RULE for a def -/
theorem fnD_of {P : Program} {w : World} {S : Sy} {mg : Str → Option Value} {base : Heap} {x qual : Str} {params : Arguments} {body : List Stmt} {scope : Scope} {dvs : List V} {kws : List (Str × V)} {f : Addr} {fd : FuncData} {N ps : List Str} {k : Nat} {sp2 : DSp} {t : DS}
    (Fd : FunD S.K x qual params body scope dvs kws f fd) (Sc : FnScope N ps scope) (len : ∀ ds W Q E, sp2 ds W Q E → ds.length = ps.length)
    (hbody : ∀ (cdv : Value) (A : Around) (outer : List Env) (s : Shared) (H : Hp) (E : XK), Room k (A.deeper (envOfC qual scope s.heap.objs.size f cdv)) →
      Takes (cxOf (L2.CX P w) P w S.K mg base N qual scope f cdv A outer s H E) (fun cls d _ H => E cls d H) → PBd (cxOf (L2.CX P w) P w S.K mg base N qual scope f cdv A outer s H E) S (fun cls d _ H => E cls d H) body t)
    (hD : ∀ ds W Q2 E2, sp2 ds W Q2 E2 → t { nx := fun _ W => Q2 .non W, rt := Q2 } (startD N ds) W (fun x _ W => E2 x W)) : FnOk P w S.K mg base (L2.CX P w) (k + 1) f fd ps (upSp S sp2) := by
  refine Fd.ok Sc (fun vs H Q E h => ?_) (fun cdv A outer s H vs Q E hr h => ?_)
  · obtain ⟨F, W, ds, Q2, E2, _, rp, _, _, q⟩ := h
    rw [rp.length]
    exact len _ _ _ _ q
  · have tk : Takes (cxOf (L2.CX P w) P w S.K mg base N qual scope f cdv A outer s H E) (fun cls d _ H => E cls d H) := takes_of rfl rfl rfl rfl
    obtain ⟨F, W, ds, Q2, E2, rl, rp, qc, xc, q⟩ := h
    refine ⟨_, (hbody cdv A outer s H E hr tk).pss, F, startD N ds, W, _, _, rl, start_rel rp, ⟨fun F' σ' sd' W' H' e r sr q => qc F' .non .non W' H' e r .non q, fun F' v d W' H' e r p q => qc F' v d W' H' e r p q, fun _ _ _ _ _ _ _ _ z => (z : False).elim, fun _ _ _ _ _ _ _ _ z => (z : False).elim⟩,
      fun F' dx vs c fs σ' sd' W' H' e r sr hx rf q => xc F' dx vs c fs W' H' e r hx rf q, hD ds W Q2 E2 q⟩
end Mv
end
section
set_option Elab.async false
set_option linter.all false
set_option maxRecDepth 100000
set_option maxHeartbeats 4000000
namespace Mv
open PySem PySem.Spec PySem.W
section
variable {prog : Program} {w : World} {A : Around} {E : Value → Shared → Prop} {s : Shared} {K : Frag} {x C f L : Addr} {h₀ : Heap} {m : Str → Option Value} {ox : Obj} {od : Option Obj} {i : Int} {t : Tok}
open AutoSeq1 (wpAny_loadPart')
/-- an int's slot does not know an own instance -/
def Declines (B : Builtin) : Prop := ∀ (M : Model) (A : Around) (E : Value → Shared → Prop) (s : Shared) (x C : Addr) (ox : Obj) (od : Option Obj) (i : Int) (t : Tok) (Q : Fin → Shared → Prop),
  InstAt s.heap x ox C od → ox.data = .plain → Q (.done (.ret .notImplemented)) s → wpAny M A (B ⟨[.int i t, .ref x], []⟩) Q E s
theorem dec_lt : Declines Builtin.«int.__lt__» := fun M A E s x C ox od i t Q I hp h => by
  obtain ⟨hh, g, d, tk, os⟩ := s
  have hx : hh.get? x = some ox := I.at_
  wp_walk using wpAny_loadPart' hx
  rw [hp]
  wp_walk
  exact h
theorem dec_le : Declines Builtin.«int.__le__» := fun M A E s x C ox od i t Q I hp h => by
  obtain ⟨hh, g, d, tk, os⟩ := s
  have hx : hh.get? x = some ox := I.at_
  wp_walk using wpAny_loadPart' hx
  rw [hp]
  wp_walk
  exact h
theorem dec_gt : Declines Builtin.«int.__gt__» := fun M A E s x C ox od i t Q I hp h => by
  obtain ⟨hh, g, d, tk, os⟩ := s
  have hx : hh.get? x = some ox := I.at_
  wp_walk using wpAny_loadPart' hx
  rw [hp]
  wp_walk
  exact h
theorem dec_ge : Declines Builtin.«int.__ge__» := fun M A E s x C ox od i t Q I hp h => by
  obtain ⟨hh, g, d, tk, os⟩ := s
  have hx : hh.get? x = some ox := I.at_
  wp_walk using wpAny_loadPart' hx
  rw [hp]
  wp_walk
  exact h
theorem dec_eq : Declines Builtin.«int.__eq__» := fun M A E s x C ox od i t Q I hp h => by
  obtain ⟨hh, g, d, tk, os⟩ := s
  have hx : hh.get? x = some ox := I.at_
  wp_walk using wpAny_loadPart' hx
  rw [hp]
  wp_walk
  exact h
theorem dec_ne : Declines Builtin.«int.__ne__» := fun M A E s x C ox od i t Q I hp h => by
  obtain ⟨hh, g, d, tk, os⟩ := s
  have hx : hh.get? x = some ox := I.at_
  wp_walk using wpAny_loadPart' hx
  rw [hp]
  wp_walk
  exact h
theorem dec_add : Declines Builtin.«int.__add__» := fun M A E s x C ox od i t Q I hp h => by
  obtain ⟨hh, g, d, tk, os⟩ := s
  have hx : hh.get? x = some ox := I.at_
  wp_walk using wpAny_loadPart' hx
  rw [hp]
  wp_walk
  exact h
theorem dec_sub : Declines Builtin.«int.__sub__» := fun M A E s x C ox od i t Q I hp h => by
  obtain ⟨hh, g, d, tk, os⟩ := s
  have hx : hh.get? x = some ox := I.at_
  wp_walk using wpAny_loadPart' hx
  rw [hp]
  wp_walk
  exact h
theorem dec_mul : Declines Builtin.«int.__mul__» := fun M A E s x C ox od i t Q I hp h => by
  obtain ⟨hh, g, d, tk, os⟩ := s
  have hx : hh.get? x = some ox := I.at_
  wp_walk using wpAny_loadPart' hx
  rw [hp]
  wp_walk
  exact h
/-- the call of such a slot -/
theorem dec_call {name : Str} {id : String} {B : Builtin} {Q : Value → Shared → Prop} (slot : Slot "int" name id) (entry : entryFor table id = some B) (args : ∀ a b, argsOk id ⟨[a, b], []⟩) (hd : Declines B) (I : InstAt s.heap x ox C od) (hp : ox.data = .plain) (h : Q .notImplemented s) :
    wpAny (model prog w) A (call (.builtin id) [.int i t, .ref x]) Q E s :=
  GQ.call_here slot (typeIs_int s i t) entry (args _ _) (hd _ _ _ _ _ _ _ _ _ _ _ I hp h)
/-- the reflected comparison -/
theorem cmp_intL {op : CmpOp} {id : String} {B : Builtin} {Q : Value → Shared → Prop} (hu : A.units < cLine) (X : K.In s.heap) (I : InstAt s.heap x ox C od) (hp : ox.data = .plain)
    (slot : Slot "int" (cmpInfo op).2.1 id) (entry : entryFor table id = some B) (args : ∀ a b, argsOk id ⟨[a, b], []⟩) (hd : Declines B) (hsub : subIn K (.ref C) (.type "int") = some false)
    (hs : findIn K (.ref C) (cmpInfo op).2.2 = some (some (.ref f))) (hf : isFn K (.ref f) = true)
    (h : wpAny (model prog w) A (call (.ref f) [.ref x, .int i t]) (CmpBack Q) E s) : wpAny (model prog w) A (richCompare op (.int i t) (.ref x)) Q E s := by
  have two : wpAny (model prog w) A (tryCompare (.ref x) (cmpInfo op).2.2 (.int i t)) (fun r s' => ∃ v, r = some v ∧ Q v s') E s := by
    unfold tryCompare
    refine wpAny_bind (ifBound_K X I hs hf (wpAny_mono h (fun v s' hv => ?_) fun _ _ e => e))
    cases v <;> first | exact hv.elim | exact wpAny_pure ⟨_, rfl, hv⟩
  have one : wpAny (model prog w) A (tryCompare (.int i t) (cmpInfo op).2.1 (.ref x)) (fun r s' => r = none ∧ s' = s) E s :=
    wpAny_tryCompare_declines (typeIs_int s i t) slot (dec_call slot entry args hd I hp ⟨rfl, rfl, rfl⟩)
  unfold richCompare
  refine wpAny_holding ?_
  have z : oneThing? op (.int i t) (.ref x) = none := by
    cases op <;> rfl
  rw [z]
  refine wpAny_bind (wpAny_cRoomFor hu ?_)
  refine wpAny_bind (wpAny_typeOf (typeIs_int s i t) (wpAny_bind (I.type.here ?_)))
  rw [if_pos (show (Value.type "int" != Value.ref C) = true from by simp)]
  refine wpAny_bind ((looks_subIn X hsub).here ?_)
  simp only [Bool.false_eq_true, if_false, Bool.not_false, if_true]
  refine wpAny_bind (wpAny_mono one (fun r s' hr => ?_) fun _ _ e => e)
  obtain ⟨rfl, rfl⟩ := hr
  dsimp only
  refine wpAny_bind (wpAny_mono two (fun r s' hr => ?_) fun _ _ e => e)
  obtain ⟨v, rfl, q⟩ := hr
  exact wpAny_pure q
/-- the reflected operator -/
theorem bin_intL {op : Operator} {id : String} {B : Builtin} {fo ro : Option Value} {Q : Value → Shared → Prop} (X : K.In s.heap) (I : InstAt s.heap x ox C od) (hp : ox.data = .plain) (hc : selfFirst K C = true)
    (slot : Slot "int" (PySem.dunder op.info.2) id) (entry : entryFor table id = some B) (args : ∀ a b, argsOk id ⟨[a, b], []⟩) (hd : Declines B) (hsub : subIn K (.ref C) (.type "int") = some false)
    (h1 : findIn K (.type "int") (PySem.dunder op.info.2) = some fo) (h2 : findIn K (.type "int") (dunderR op.info.2) = some ro) (h3 : ((fo.isSome && !isSeqSlot fo) || (ro.isSome && !isSeqSlot ro)) = true)
    {g0 : Addr} (hs0 : findIn K (.ref C) (PySem.dunder op.info.2) = some (some (.ref g0)))
    (hs : findIn K (.ref C) (dunderR op.info.2) = some (some (.ref f))) (hf : isFn K (.ref f) = true)
    (h : wpAny (model prog w) A (call (.ref f) [.ref x, .int i t]) (CmpBack Q) E s) : wpAny (model prog w) A (binaryOp op (.int i t) (.ref x)) Q E s := by
  obtain ⟨cd, rest, hcd, hm⟩ := ksp_first hc
  rcases hi : op.info with ⟨sym, nm'⟩
  rw [hi] at hs hs0 slot h1 h2
  dsimp only at hs hs0 slot h1 h2
  have two := ksp_try (M := model prog w) X I hs hf h
  have one : wpAny (model prog w) A (tryMethod (.int i t) (PySem.dunder nm') (.ref x)) (fun r s' => r = none ∧ s' = s) E s :=
    wpAny_tryMethod_declines (typeIs_int s i t) slot (dec_call slot entry args hd I hp ⟨rfl, rfl, rfl⟩)
  have L1 : Looks (model prog w) s.heap (typeOf (.int i t)) (.type "int") := Looks.of_pure rfl
  have L2 : Looks (model prog w) s.heap (typeOf (.ref x)) (.ref C) := I.type
  have L3 : Looks (model prog w) s.heap (fillsNumberSlot (.type "int") nm') true := by
    rw [← h3]
    exact ksp_fillsT X h1 h2
  have L4 : Looks (model prog w) s.heap (fillsNumberSlot (.ref C) nm') true := fills_K X hcd hm hs0
  have L5 : Looks (model prog w) s.heap (isSubtype (.ref C) (.type "int")) false := looks_subIn X hsub
  have L6 : Looks (model prog w) s.heap (numberSlotInPython (.type "int") nm') false := Looks.of_pure rfl
  have hne : (Value.type "int" == Value.ref C) = false := Bool.eq_false_iff.mpr fun q => by cases beq_iff_eq.mp q
  obtain ⟨hh, g, d, tt, os⟩ := s
  simp only [binaryOp, hi]
  refine wpAny_holding (wpAny_bind ?_)
  unfold binaryOp1
  refine wpAny_bind (L1.at (wpAny_bind (L2.at (wpAny_bind (L3.at ?_)))))
  simp only [hne, Bool.false_eq_true, if_false]
  ksp_lk
  refine wpAny_mono one (fun r s' hr' => ?_) fun _ _ e => e
  obtain ⟨rfl, rfl⟩ := hr'
  ksp_lk
  refine wpAny_mono two (fun r s' hr' => ?_) fun _ _ e => e
  obtain ⟨v, rfl, hq⟩ := hr'
  ksp_lk
  exact hq
end
end Mv
end
section
set_option Elab.async false
set_option linter.all false
set_option maxRecDepth 100000
set_option maxHeartbeats 4000000
namespace Mv
open PySem PySem.Spec PySem.W
section
variable {prog : Program} {w : World} {A : Around} {E : Value → Shared → Prop} {s : Shared} {K : Frag} {x C f L : Addr} {ox : Obj} {od : Option Obj} {i : Int} {t : Tok}
/-- !=, by an own __eq__ -/
theorem ne_try {b : Value} {Q : Value → Shared → Prop} (hu : A.units + 1 < cLine) (X : K.In s.heap) (I : InstAt s.heap x ox C od) (hm : mroIn K C (.type "object") = some true)
    (hn : findIn K (.ref C) "__ne__" = some (some (.builtin "object.__ne__"))) (hs : findIn K (.ref C) "__eq__" = some (some (.ref f))) (hf : isFn K (.ref f) = true)
    (h : wpAny (model prog w) A.in1 (call (.ref f) [.ref x, b]) (fun v s' => ∃ k, v = .bool k ∧ Q (.bool (!k)) s') E s) : wpAny (model prog w) A (tryCompare (.ref x) "__ne__" b) (fun r s' => ∃ k, r = some (.bool k) ∧ Q (.bool k) s') E s := by
  unfold tryCompare
  have fin : wpAny (model prog w) A (call (.builtin "object.__ne__") [.ref x, b]) (fun r s' => ∃ k, r = .bool k ∧ Q (.bool k) s') E s := by
    have sub : Looks (model prog w) s.heap (isInstance (.ref x) (.type "object")) true := I.type.andThen (looks_mroIn X hm)
    refine wpAny_call (codeAny_call_builtin F.slot_object_ne.plain F.cmpEntry_ne (@check_slot (model prog w) _ _ s "object.__ne__" "object" "__ne__" (.ref x) [b] [] _ F.cmpKind_ne F.cmpSplit_ne sub (F.cmpArgs_ne _ _) ?_))
    unfold Builtin.«object.__ne__»
    refine wpAny_bind (m := slotArgs "__ne__" 1 _) (wpAny_pure ?_)
    dsimp only
    refine wpAny_bind (wpAny_cRoomFor (by exact hu) ?_)
    refine wpAny_bind (m := callSpecialIfBound? (.ref x) (Str.ofString "__eq__") [b]) (ifBound_K X I hs hf (wpAny_mono h (fun r s' hr => ?_) fun _ _ e => e))
    obtain ⟨k, rfl, q⟩ := hr
    dsimp only
    refine wpAny_bind (wpAny_truthy_bool ?_)
    exact wpAny_pure ⟨_, rfl, q⟩
  simp only [callSpecialIfBound?, bindSpecialIfBound?]
  have fin2 : wpAny (model prog w) A (call (.builtin "object.__ne__") ([.ref x] ++ [b]) >>= fun v => pure (some v)) (fun r s' => wpAny (model prog w) A (match r with | some .notImplemented | none => pure none | some v => pure (some v)) (fun r s' => ∃ k, r = some (.bool k) ∧ Q (.bool k) s') E s') E s :=
    wpAny_bind (wpAny_mono fin (fun r s' hr => by
      obtain ⟨k, rfl, q⟩ := hr
      exact wpAny_pure (wpAny_pure ⟨k, rfl, q⟩)) fun _ _ e => e)
  have Lb : Looks (model prog w) s.heap (bindSpecial (.builtin "object.__ne__") (.ref x)) (.builtin "object.__ne__", [.ref x]) := Looks.of_pure (by kernel_rfl)
  refine wpAny_bind (wpAny_holding (wpAny_bind (wpAny_bind (wpAny_bind (I.type.here ((looks_findIn X hn).here ?_))))))
  refine wpAny_bind (wpAny_askSetting (wpAny_ite ?_))
  split
  · exact wpAny_bind (Lb.here (wpAny_pure (by exact fin2)))
  · exact wpAny_tryCatch (wpAny_bind (Lb.here (wpAny_pure (by exact fin2))))
end
end Mv
end
section
set_option Elab.async false
set_option linter.all false
set_option maxRecDepth 100000
set_option maxHeartbeats 4000000
namespace Mv
open PySem PySem.Spec L2
open Evl (Ex ex_l ex_t ex_rd)

/-! ## a datum's type -/
def tyD (S : Sy) (W : Wd) : D → Option Value
  | .non => some (.type "NoneType")
  | .bl _ => some (.type "bool")
  | .int _ => some (.type "int")
  | .str _ => some (.type "str")
  | .tup _ => some (.type "tuple")
  | .lst _ => some (.type "list")
  | .dK _ => some (.type "dict")
  | .dT _ => some (.type "dict")
  | .ins c _ => some (.ref (S.ca c))
  | .ptr a => (match W a with
    | some (.lst _) => some (.type "list")
    | some (.dK _) => some (.type "dict")
    | some (.dT _) => some (.type "dict")
    | some (.ins c _) => some (.ref (S.ca c))
    | none => none)
  | _ => none
section
variable {X : Cx} {S : Sy} {E : XS} {k : Nat}
theorem look_obj {M : Model} {h : Heap} {a : Addr} {o : Obj} {t : Value} (ho : h.get? a = some o) (hc : o.cls = t) : PySem.W.Looks M h (typeOf (.ref a)) t := by
  subst hc
  exact (PySem.W.Looks.ld (part := none) ho).andThen .now
theorem look_ty {M : Model} {pins : List (Addr × Obj)} {s : Shared} {σ : L2.St} {H F : Hp} {W : Wd} {v : V} {u : Value} {d : D} {t : Value} (hK : X.K = S.K) (I : Inv X pins σ H s) (rl : Rel S F W H) (ru : RelV v u) (rp : Rp S F v d) (h : tyD S W d = some t) :
    PySem.W.Looks M s.heap (typeOf u) t := by
  have ok : ∀ {a o}, H a = some o → ObjOk X.prog X.w H s.heap a o := fun {a o} e => I.hok a o e
  have lk : ∀ {a vs}, SqL X.K H a vs → PySem.W.Looks M s.heap (typeOf (.ref a)) (.type "list") := fun {a vs} h => by
    obtain ⟨_, _, ⟨o, n, e, c, _⟩, _⟩ := I.list h
    exact look_obj e c
  have dk : ∀ {a kvs}, H a = some (.dK kvs) → PySem.W.Looks M s.heap (typeOf (.ref a)) (.type "dict") := fun {a kvs} q => by
    obtain ⟨_, _, vs, _, o', es, ep, e', hx, _⟩ := (show ObjOk X.prog X.w H s.heap a (.dK kvs) from I.hok a _ q)
    exact look_obj e' hx.1
  have dt : ∀ {a kvs}, H a = some (.dT kvs) → PySem.W.Looks M s.heap (typeOf (.ref a)) (.type "dict") := fun {a kvs} q => by
    obtain ⟨_, _, xs, _, o', es, ep, e', hx, _⟩ := (show ObjOk X.prog X.w H s.heap a (.dT kvs) from I.hok a _ q)
    exact look_obj e' hx.1
  have ik : ∀ {a C dx fs}, H a = some (.ins C dx fs) → PySem.W.Looks M s.heap (typeOf (.ref a)) (.ref C) := fun {a C dx fs} q => by
    obtain ⟨mA, O, _⟩ := ins_get I.hok q
    exact look_obj O.obj rfl
  cases rp with
  | non => cases ru; cases h; exact .of_pure rfl
  | bl b => cases ru; cases h; exact .of_pure rfl
  | int i => obtain ⟨_, rfl⟩ := ru; cases h; exact .of_pure rfl
  | str x => obtain ⟨_, rfl⟩ := ru; cases h; exact .of_pure rfl
  | ty n => cases h
  | frl hq r1 => cases h
  | exn _ _ _ => cases h
  | lam _ _ => cases h
  | ptr a =>
    obtain rfl : u = Value.ref a := ru
    cases e : W a with
    | none => simp only [tyD, e] at h; cases h
    | some m =>
      simp only [tyD, e] at h
      obtain ⟨_, mo⟩ := rl.obj a m e
      cases m with
      | lst ds => obtain ⟨vs, e1, r1⟩ := mo; cases h; exact lk (SqL.of e1)
      | dK ds => obtain ⟨vs, e1, r1⟩ := mo; cases h; exact dk e1
      | dT ds => obtain ⟨vs, e1, r1⟩ := mo; cases h; exact dt e1
      | ins c fs => obtain ⟨dx, vs, e1, r1⟩ := mo; cases h; exact ik e1
  | tup hq r1 =>
    rename_i a vs ds
    obtain rfl : u = Value.ref a := ru
    cases h
    obtain ⟨_, _, ⟨o, e, c, _⟩, _⟩ := I.tuple (by rw [hK]; exact ex_t rl.sub hq)
    exact look_obj e c
  | lst hq r1 =>
    rename_i a vs ds
    obtain rfl : u = Value.ref a := ru
    cases h
    exact lk (SqL.of (rl.sub _ _ hq))
  | dK hq r1 =>
    rename_i a vs ds
    obtain rfl : u = Value.ref a := ru
    cases h
    exact dk (rl.sub _ _ hq)
  | dT hq r1 =>
    rename_i a vs ds
    obtain rfl : u = Value.ref a := ru
    cases h
    exact dt (rl.sub _ _ hq)
  | ins hq r1 =>
    rename_i a dx c vs fs
    obtain rfl : u = Value.ref a := ru
    cases h
    exact ik (rl.sub _ _ hq)

/-! ## an own operator -/
theorem DP.back_cmp {pins : List (Addr × Obj)} {σ : L2.St} {F : Hp} {Q2 : QD} {u : Value} {s' : Shared} (h : DP X S pins σ F Q2 u s') : PySem.W.CmpBack (DP X S pins σ F Q2) u s' := by
  have h0 := h
  obtain ⟨v, H', F', d, W', a1, a2, a3, a4, a5, a6⟩ := h
  cases u with
  | notImplemented =>
    cases a5
    all_goals first
      | (rcases a2 with ⟨_, e⟩; cases e; done)
      | (cases a2; done)
  | _ => exact h0
/-- self's method m with the other operand -/
def rOwn (M : Mts) (rhs : Nat → D → Wd → Prop) : D2 := fun c d sd W Q E2 => kIns W c fun j _ => j ∈ M.l ∧ rhs j d W ∧ dfl (M.n j) (M.dd j) [c, d] fun ds => M.sp j ds W Q (fun x W' => E2 x sd W')
/-- .. reflected -/
def rOwnR (M : Mts) (lhs : Nat → D → Wd → Prop) : D2 := fun c d sd W Q E2 => rOwn M lhs d c sd W Q E2
/-- what an own operator's class has to be -/
structure OwnF (S : Sy) (c : Nat) (nm : String) : Prop where
  sf : PySem.W.selfFirst S.K (S.ca c) = true
  rc : ∃ rc, PySem.W.findIn S.K (.ref (S.ca c)) (dunderR nm) = some rc ∧ (rc = none ∨ ∃ g : Addr, rc = some (.ref g))
  it : ∃ fo ro, PySem.W.findIn S.K (.type "int") (PySem.dunder nm) = some fo ∧ PySem.W.findIn S.K (.type "int") (dunderR nm) = some ro
  sb : PySem.W.subIn S.K (.type "int") (.ref (S.ca c)) = some false
/-- the right operand: an int, or of the same class -/
def rhsIS (c : Nat) (d : D) (W : Wd) : Prop := match d with
  | .int _ => True
  | .ins c' _ => c' = c
  | .ptr a => (match W a with
    | some (.ins c' _) => c' = c
    | _ => False)
  | _ => False
theorem op_own {op : Operator} {M : Mts} {m : Str} (hK : X.K = S.K) (tk : Takes X E) (hr : Room (k + 1) X.A) (hM : M.ok X S k m) (hm : PySem.dunder op.info.2 = m) (hF : ∀ c, c ∈ M.l → OwnF S c op.info.2) : OpD X S E (binaryOp op) (rOwn M rhsIS) := by
  intro pins s σ H F sd W x y c d v u Q2 E2 I rl sr xc rx ry px py h
  obtain ⟨a, dx, vs, j, fs, ex, ea, rf, hj, hrhs, hsp⟩ := kIns.at rl px h
  subst ex
  obtain rfl : v = Value.ref a := rx
  obtain ⟨cl, f, mt, G⟩ := hM j hj
  have hf := hF j hj
  rw [← hK] at cl mt
  have hf' := hf
  obtain ⟨sf, ⟨rc, hrc, hrp⟩, ⟨fo, ro, h1, h2⟩, sb⟩ := hf
  obtain ⟨mA, O, _⟩ := ins_get I.hok ea
  obtain ⟨od, J, _⟩ := O.look
  have call_ : wpAny (model X.prog X.w) X.A (call (.ref f) [.ref a, u]) (PySem.W.CmpBack (DP X S pins σ F Q2)) X.xe s :=
    thn (run_at (us := [.ref a, u]) (vs := [.ref a, y]) (ds := [c, d]) hK G (hr.mono (Nat.le_succ _)) I.env0 tk I rl sr xc (.cons rfl (.cons ry .nil)) (.cons px (.cons py .nil)) hsp) fun u s' z => z.back_cmp
  obtain ⟨m0, hFr⟩ := I.fr
  have hm' : PySem.W.findIn X.K (.ref (S.ca j)) (PySem.dunder op.info.2) = some (some (.ref f)) := by rw [hm]; exact mt.at_
  have same : tyD S W d = some (.ref (S.ca j)) → wpAny (model X.prog X.w) X.A (binaryOp op (.ref a) u) (DP X S pins σ F Q2) X.xe s := fun ty =>
    PySem.W.binop_K hFr I.ok.mod.kin J (look_ty hK I rl ry py ty) (by rw [hK]; exact sf) hm' mt.fn call_
  cases py with
  | int i =>
    obtain ⟨t, rfl⟩ := ry
    exact PySem.W.ksp_binT (T := "int") hFr I.ok.mod.kin J rfl (by rw [hK]; exact sf) hm' mt.fn (by rw [hK]; exact hrc) hrp (by rw [hK]; exact h1) (by rw [hK]; exact h2) (by rw [hK]; exact sb) call_
  | ins hq r1 =>
    obtain rfl : _ = j := hrhs
    exact same rfl
  | ptr b =>
    have h3 : (match W b with | some (.ins c' _) => c' = j | _ => False) := hrhs
    cases e : W b with
    | none => rw [e] at h3; exact h3.elim
    | some m =>
      rw [e] at h3
      cases m with
      | ins c' _ =>
        obtain rfl : c' = j := h3
        exact same (by simp only [tyD, e])
      | _ => exact h3.elim
  | _ => exact hrhs.elim
/-- what an own reflected operator asks -/
structure OwnRF (S : Sy) (c : Nat) (nm : String) : Prop where
  sf : PySem.W.selfFirst S.K (S.ca c) = true
  sb : PySem.W.subIn S.K (.ref (S.ca c)) (.type "int") = some false
  it : ∃ fo ro, PySem.W.findIn S.K (.type "int") (PySem.dunder nm) = some fo ∧ PySem.W.findIn S.K (.type "int") (dunderR nm) = some ro ∧ ((fo.isSome && !isSeqSlot fo) || (ro.isSome && !isSeqSlot ro)) = true
  g0 : ∃ g0 : Addr, PySem.W.findIn S.K (.ref (S.ca c)) (PySem.dunder nm) = some (some (.ref g0))
def isInt (_ : Nat) (d : D) (_ : Wd) : Prop := match d with
  | .int _ => True
  | _ => False
theorem op_ownR {op : Operator} {M : Mts} {m : Str} {id : String} {B : Builtin} (slot : Slot "int" (PySem.dunder op.info.2) id) (entry : entryFor table id = some B) (args : ∀ a b, argsOk id ⟨[a, b], []⟩) (hd : Declines B)
    (hK : X.K = S.K) (tk : Takes X E) (hr : Room (k + 1) X.A) (hM : M.ok X S k m) (hm : dunderR op.info.2 = m) (hF : ∀ c, c ∈ M.l → OwnRF S c op.info.2) : OpD X S E (binaryOp op) (rOwnR M isInt) := by
  intro pins s σ H F sd W x y c d v u Q2 E2 I rl sr xc rx ry px py h
  obtain ⟨a, dx, vs, j, fs, ex, ea, rf, hj, hrhs, hsp⟩ := kIns.at rl py h
  subst ex
  obtain rfl : u = Value.ref a := ry
  obtain ⟨cl, f, mt, G⟩ := hM j hj
  rw [← hK] at cl mt
  obtain ⟨sf, sb, ⟨fo, ro, h1, h2, h3⟩, ⟨g0, hg0⟩⟩ := hF j hj
  obtain ⟨mA, O, _⟩ := ins_get I.hok ea
  obtain ⟨od, J, _⟩ := O.look
  have call_ : wpAny (model X.prog X.w) X.A (call (.ref f) [.ref a, v]) (PySem.W.CmpBack (DP X S pins σ F Q2)) X.xe s :=
    thn (run_at (us := [.ref a, v]) (vs := [.ref a, x]) (ds := [d, c]) hK G (hr.mono (Nat.le_succ _)) I.env0 tk I rl sr xc (.cons rfl (.cons rx .nil)) (.cons py (.cons px .nil)) hsp) fun u s' z => z.back_cmp
  cases px with
  | int i =>
    obtain ⟨t, rfl⟩ := rx
    exact bin_intL I.kIn J rfl (by rw [hK]; exact sf) slot entry args hd (by rw [hK]; exact sb) (by rw [hK]; exact h1) (by rw [hK]; exact h2) h3 (by rw [hK]; exact hg0) (by rw [hm]; exact mt.at_) mt.fn call_
  | _ => exact hrhs.elim
/-- an own comparison -/
theorem op_ownC {op : CmpOp} {M : Mts} {m : Str} {rhs : Nat → D → Wd → Prop} (hop : ∀ v u, compareOp op v u = richCompare op v u) (hK : X.K = S.K) (tk : Takes X E) (hr : Room (k + 1) X.A) (hM : M.ok X S k m) (hm : (cmpInfo op).2.1 = m)
    (hF : ∀ c, c ∈ M.l → ∀ d W, rhs c d W → ∃ t, tyD S W d = some t ∧ PySem.W.notFirst S.K (S.ca c) t = true) : OpD X S E (compareOp op) (rOwn M rhs) := by
  intro pins s σ H F sd W x y c d v u Q2 E2 I rl sr xc rx ry px py h
  obtain ⟨a, dx, vs, j, fs, ex, ea, rf, hj, hrhs, hsp⟩ := kIns.at rl px h
  subst ex
  obtain rfl : v = Value.ref a := rx
  obtain ⟨cl, f, mt, G⟩ := hM j hj
  rw [← hK] at cl mt
  obtain ⟨t, ty, hn⟩ := hF j hj d W hrhs
  obtain ⟨mA, O, _⟩ := ins_get I.hok ea
  obtain ⟨od, J, _⟩ := O.look
  obtain ⟨m0, hFr⟩ := I.fr
  have call_ : wpAny (model X.prog X.w) X.A (call (.ref f) [.ref a, u]) (PySem.W.CmpBack (DP X S pins σ F Q2)) X.xe s :=
    thn (run_at (us := [.ref a, u]) (vs := [.ref a, y]) (ds := [c, d]) hK G (hr.mono (Nat.le_succ _)) I.env0 tk I rl sr xc (.cons rfl (.cons ry .nil)) (.cons px (.cons py .nil)) hsp) fun u s' z => z.back_cmp
  rw [hop]
  exact PySem.W.cmp_K hr.units0 hFr I.ok.mod.kin J (look_ty hK I rl ry py ty) (by rw [hK]; exact hn) (by rw [hm]; exact mt.at_) mt.fn call_
/-- .. int on the left -/
theorem op_ownCR {op : CmpOp} {M : Mts} {m : Str} {id : String} {B : Builtin} (hop : ∀ v u, compareOp op v u = richCompare op v u) (slot : Slot "int" (cmpInfo op).2.1 id) (entry : entryFor table id = some B) (args : ∀ a b, argsOk id ⟨[a, b], []⟩) (hd : Declines B)
    (hK : X.K = S.K) (tk : Takes X E) (hr : Room (k + 1) X.A) (hM : M.ok X S k m) (hm : (cmpInfo op).2.2 = m) (hF : ∀ c, c ∈ M.l → PySem.W.subIn S.K (.ref (S.ca c)) (.type "int") = some false) : OpD X S E (compareOp op) (rOwnR M isInt) := by
  intro pins s σ H F sd W x y c d v u Q2 E2 I rl sr xc rx ry px py h
  obtain ⟨a, dx, vs, j, fs, ex, ea, rf, hj, hrhs, hsp⟩ := kIns.at rl py h
  subst ex
  obtain rfl : u = Value.ref a := ry
  obtain ⟨cl, f, mt, G⟩ := hM j hj
  rw [← hK] at cl mt
  have sb := hF j hj
  obtain ⟨mA, O, _⟩ := ins_get I.hok ea
  obtain ⟨od, J, _⟩ := O.look
  have call_ : wpAny (model X.prog X.w) X.A (call (.ref f) [.ref a, v]) (PySem.W.CmpBack (DP X S pins σ F Q2)) X.xe s :=
    thn (run_at (us := [.ref a, v]) (vs := [.ref a, x]) (ds := [d, c]) hK G (hr.mono (Nat.le_succ _)) I.env0 tk I rl sr xc (.cons rfl (.cons rx .nil)) (.cons py (.cons px .nil)) hsp) fun u s' z => z.back_cmp
  rw [hop]
  cases px with
  | int i =>
    obtain ⟨t, rfl⟩ := rx
    exact cmp_intL hr.units0 I.kIn J rfl slot entry args hd (by rw [hK]; exact sb) (by rw [hm]; exact mt.at_) mt.fn call_
  | _ => exact hrhs.elim
/-- - and abs of an own instance -/
def rOwn1 (M : Mts) (t : DE) : DE := dMeth M t dNil
theorem pd_negO {M : Mts} {a : Expr} {ta : DE} {pos : Pos} (hK : X.K = S.K) (tk : Takes X E) (hr : Room (k + 1) X.A) (hM : M.ok X S k "__neg__") (ha : PD X S E a ta) : PD X S E (.UnaryOp .USub a pos) (rOwn1 M ta) :=
  ⟨fun pins s σ H F sd W Q2 E2 I rl sr xc h => PyProof.Rows.UnaryOp_ (thn (ha.run pins s σ H F sd W _ E2 I rl sr xc h) fun v s1 ⟨x, H1, F1, d, W1, I1, r1, e1, rl1, p1, q1⟩ => by
    obtain ⟨a, dx, vs, j, fs, ex, ea, rf, hj, hsp⟩ := kIns.at rl1 p1 q1
    subst ex
    obtain rfl : v = Value.ref a := r1
    obtain ⟨cl, f, mt, G⟩ := hM j hj
    rw [← hK] at cl mt
    obtain ⟨mA, O, _⟩ := ins_get I1.hok ea
    obtain ⟨od, J, _⟩ := O.look
    obtain ⟨m0, hFr⟩ := I1.fr
    refine PySem.W.ksp_neg hFr I1.ok.mod.kin J mt.at_ mt.fn ?_
    exact thn (run_at (us := [.ref a]) (vs := [.ref a]) (ds := [d]) hK G (hr.mono (Nat.le_succ _)) I1.env0 tk I1 rl1 (sr.mono e1) (XCv.mono e1 xc) (.cons rfl .nil) (.cons p1 .nil) hsp) fun u s' z => z.back e1)⟩
end
end Mv
end
section
set_option Elab.async false
set_option linter.all false
set_option maxRecDepth 100000
set_option maxHeartbeats 4000000
namespace Mv
open PySem PySem.Spec L2
open Evl (Ex ex_l ex_t ex_rd)
open PyProof.Rows
section
variable {X : Cx} {S : Sy} {E : XS} {k : Nat}

/-! ## ints, strs -/
def kI2 (c d : D) (q : Int → Int → Prop) : Prop := match c, d with
  | .int i, .int j => q i j
  | _, _ => False
def rInt2 (C : Int → Int → Prop) (g : Int → Int → D) : D2 := fun c d _ W Q _ => kI2 c d fun i j => C i j ∧ Q (g i j) W
theorem kI2.inv {c d : D} {q : Int → Int → Prop} (h : kI2 c d q) : ∃ i j, c = .int i ∧ d = .int j ∧ q i j := by
  cases c <;> first | exact h.elim | skip
  cases d <;> first | exact h.elim | exact ⟨_, _, rfl, rfl, h⟩
theorem od_int {f : Value → Value → Sem Value} {C : Int → Int → Prop} {g : Int → Int → Int} (h : OpR X f (rI C fun i j => .int (g i j))) : OpD X S E f (rInt2 C fun i j => .int (g i j)) :=
  OpR.od h fun σ H F sd W x y c d Q2 E2 rl sr xc px py q => by
    obtain ⟨i, j, rfl, rfl, hc, q⟩ := kI2.inv q
    cases px
    cases py
    exact ⟨i, j, rfl, rfl, hc, tkQ_of (Ex.refl _) rl (.int _) q⟩
theorem od_int0 {f : Value → Value → Sem Value} {g : Int → Int → Int} (h : OpR X f (rI0 fun i j => .int (g i j))) : OpD X S E f (rInt2 (fun _ _ => True) fun i j => .int (g i j)) :=
  OpR.od h fun σ H F sd W x y c d Q2 E2 rl sr xc px py q => by
    obtain ⟨i, j, rfl, rfl, hc, q⟩ := kI2.inv q
    cases px
    cases py
    exact ⟨i, j, rfl, rfl, tkQ_of (Ex.refl _) rl (.int _) q⟩
theorem od_cmp0 {f : Value → Value → Sem Value} {g : Int → Int → Bool} (h : OpR X f (rI0 fun i j => .bl (g i j))) : OpD X S E f (rInt2 (fun _ _ => True) fun i j => .bl (g i j)) :=
  OpR.od h fun σ H F sd W x y c d Q2 E2 rl sr xc px py q => by
    obtain ⟨i, j, rfl, rfl, hc, q⟩ := kI2.inv q
    cases px
    cases py
    exact ⟨i, j, rfl, rfl, tkQ_of (Ex.refl _) rl (.bl _) q⟩
def rCatSD : D2 := fun c d _ W Q _ => match c, d with
  | .str i, .str j => i.length + j.length ≤ sizeLine ∧ Q (.str (i ++ j)) W
  | _, _ => False
theorem od_catS : OpD X S E (binaryOp .Add) rCatSD := OpR.od op_add_str fun σ H F sd W x y c d Q2 E2 rl sr xc px py q => by
  cases px <;> first | exact q.elim | skip
  cases py <;> first | exact q.elim | skip
  exact ⟨_, _, rfl, rfl, q.1, tkQ_of (Ex.refl _) rl (.str _) q.2⟩

/-! ## lists, tuples: the items -/
def kSeq (W : Wd) (d : D) (q : List D → Prop) : Prop := match d with
  | .tup ds => q ds
  | .lst ds => q ds
  | .ptr a => (match W a with
    | some (.lst ds) => q ds
    | _ => False)
  | _ => False
theorem kSeq.at {H F : Hp} {W : Wd} {v : V} {d : D} {q : List D → Prop} (hK : X.K = S.K) (rl : Rel S F W H) (rp : Rp S F v d) (h : kSeq W d q) : ∃ a vs ds, v = .ref a ∧ (SqL X.K H a vs ∨ SqT X.K H a vs) ∧ Rps S F vs ds ∧ q ds := by
  cases rp with
  | ptr a =>
    have h2 : (match W a with | some (.lst ds) => q ds | _ => False) := h
    cases e : W a with
    | none => rw [e] at h2; exact h2.elim
    | some m =>
      rw [e] at h2
      cases m with
      | lst ds =>
        obtain ⟨_, vs, e1, r1⟩ := rl.obj a _ e
        exact ⟨a, vs, ds, rfl, .inl (SqL.of e1), r1, h2⟩
      | _ => exact h2.elim
  | tup hq r1 => exact ⟨_, _, _, rfl, .inr (by rw [hK]; exact ex_t rl.sub hq), r1, h⟩
  | lst hq r1 => exact ⟨_, _, _, rfl, .inl (SqL.of (rl.sub _ _ hq)), r1, h⟩
  | _ => exact h.elim
theorem Rps.atI {F : Hp} {vs : List V} {ds : List D} {i : Int} {d : D} (r : Rps S F vs ds) (h : atI ds i = some d) : ∃ v, atI vs i = some v ∧ Rp S F v d := by
  unfold L2.atI at h ⊢
  rw [r.length]
  cases e : ixN ds.length i with
  | none => rw [e] at h; cases h
  | some j =>
    rw [e] at h
    exact r.get h
def kSome {α : Type} (o : Option α) (q : α → Prop) : Prop := match o with
  | some x => q x
  | none => False
theorem kSome.inv {α : Type} {o : Option α} {q : α → Prop} (h : kSome o q) : ∃ x, o = some x ∧ q x := by
  cases o with
  | none => exact h.elim
  | some x => exact ⟨x, rfl, h⟩
/-! ### a[i] -/
def IxD (X : Cx) (S : Sy) (E : XS) (r : D2) : Prop :=
  ∀ (value slice : Expr) (pins : List (Addr × Obj)) (s : Shared) (σ : L2.St) (H F : Hp) (sd : SD) (W : Wd) (x y : V) (c d : D) (v u : Value) (Q2 : QD) (E2 : QX), Inv X pins σ H s → Rel S F W H → SRel S F σ sd → XCv S F E2 E → RelV x v → RelV y u → Rp S F x c → Rp S F y d → r c d sd W Q2 E2 →
    subscripted slice false v u = operate [v, u] (getItem v u) → wpAny (model X.prog X.w) X.A (subscriptTail value slice v u) (DP X S pins σ F Q2) X.xe s
theorem IxD.or {r r' : D2} (h : IxD X S E r) (h' : IxD X S E r') : IxD X S E (fun c d sd W Q E2 => r c d sd W Q E2 ∨ r' c d sd W Q E2) :=
  fun va sl pins s σ H F sd W x y c d v u Q2 E2 a1 a2 a3 a4 a5 a6 a7 a8 q hs => q.elim (fun q => h va sl pins s σ H F sd W x y c d v u Q2 E2 a1 a2 a3 a4 a5 a6 a7 a8 q hs) (fun q => h' va sl pins s σ H F sd W x y c d v u Q2 E2 a1 a2 a3 a4 a5 a6 a7 a8 q hs)
theorem IxD.imp {r r' : D2} (h : IxD X S E r) (c : ∀ c d sd W Q E2, r' c d sd W Q E2 → r c d sd W Q E2) : IxD X S E r' :=
  fun va sl pins s σ H F sd W x y cc d v u Q2 E2 a1 a2 a3 a4 a5 a6 a7 a8 q hs => h va sl pins s σ H F sd W x y cc d v u Q2 E2 a1 a2 a3 a4 a5 a6 a7 a8 (c _ _ _ _ _ _ q) hs
theorem IxR.od {r : R2} {rd : D2} (h : IxR X r) (c : ∀ σ H F sd W x y c d Q2 E2, Rel S F W H → SRel S F σ sd → XCv S F E2 E → Rp S F x c → Rp S F y d → rd c d sd W Q2 E2 → r x y H (tkQ S F Q2)) : IxD X S E rd :=
  fun va sl pins s σ H F sd W x y cc d v u Q2 E2 I rl sr xc rx ry px py q hs => thn (h va sl pins s σ H x y v u _ I rx ry (c σ H F sd W x y cc d Q2 E2 rl sr xc px py q) hs) fun u s' z => EP.tk z
theorem pd_ix {a b : Expr} {ta tb : DE} {r : D2} {pos : Pos} (hr : IxD X S E r) (ha : PD X S E a ta) (hb : PD X S E b tb) (hs : PlainIx b := by exact fun _ _ => rfl) : PD X S E (.Subscript a b pos) (dOp r ta tb) :=
  ⟨fun pins s σ H F sd W Q2 E2 I rl sr xc h => PyProof.Rows.Subscript_ (binD ha hb I rl sr xc h fun v u s2 x y c d H2 F2 W2 I2 e rl2 rx ry px py q =>
    thn (hr a b pins s2 σ H2 F2 sd W2 x y c d v u Q2 E2 I2 rl2 (sr.mono e) (XCv.mono e xc) rx ry px py q (hs _ _)) fun u s' z => z.back e)⟩
def rIxSq : D2 := fun c d _ W Q _ => match d with
  | .int i => kSeq W c fun ds => kSome (atI ds i) fun x => Q x W
  | _ => False
theorem ix_sq (hK : X.K = S.K) : IxD X S E rIxSq := by
  refine IxR.od (r := fun x y H Q => rIxL X.K x y H Q ∨ rIxT X.K x y H Q) (ix_list.or ix_tup) fun σ H F sd W x y c d Q2 E2 rl sr xc px py q => ?_
  cases py <;> first | exact q.elim | skip
  obtain ⟨a, vs, ds, rfl, hq, r, q⟩ := kSeq.at hK rl px q
  obtain ⟨z, hz, q⟩ := q.inv
  obtain ⟨v, hv, rv⟩ := r.atI hz
  rcases hq with hq | hq
  · exact .inl ⟨a, vs, _, v, rfl, rfl, hq, hv, tkQ_of (Ex.refl _) rl rv q⟩
  · exact .inr ⟨a, vs, _, v, rfl, rfl, hq, hv, tkQ_of (Ex.refl _) rl rv q⟩
def rIxStr : D2 := fun c d _ W Q _ => match c, d with
  | .str z, .int i => z.length ≤ sizeLine ∧ kSome (atI z.cps.toList i) fun ch => Q (.str ⟨#[ch]⟩) W
  | _, _ => False
theorem ix_st : IxD X S E rIxStr := IxR.od ix_str fun σ H F sd W x y c d Q2 E2 rl sr xc px py q => by
  cases px <;> first | exact q.elim | skip
  cases py <;> first | exact q.elim | skip
  obtain ⟨h1, q⟩ := q
  obtain ⟨z, hz, q⟩ := q.inv
  exact ⟨_, _, z, rfl, rfl, h1, hz, tkQ_of (Ex.refl _) rl (.str _) q⟩
/-- a list's, a tuple's, a str's item -/
def tIx : D2 := fun c d sd W Q E2 => match c with
  | .str _ => rIxStr c d sd W Q E2
  | _ => rIxSq c d sd W Q E2
theorem ix_d (hK : X.K = S.K) : IxD X S E tIx := ((ix_st (X := X) (S := S) (E := E)).or (ix_sq hK)).imp fun c d sd W Q E2 q => by
  cases c <;> first | exact .inl q | exact .inr q
/-! ### slices -/
def cutD (xs : List D) (lo hi : Option Int) : List D := (xs.drop (HT.sIx xs.length 0 lo)).take (HT.sIx xs.length xs.length hi - HT.sIx xs.length 0 lo)
theorem Rps.take {F : Hp} : ∀ (n : Nat) {vs : List V} {ds : List D}, Rps S F vs ds → Rps S F (vs.take n) (ds.take n)
  | 0, _, _, _ => by simp only [List.take_zero]; exact .nil
  | _ + 1, _, _, .nil => .nil
  | n + 1, _, _, .cons h t => .cons h (Rps.take n t)
theorem Rps.cut {F : Hp} {vs : List V} {ds : List D} (lo hi : Option Int) (r : Rps S F vs ds) : Rps S F (cutV vs lo hi) (cutD ds lo hi) := by
  unfold cutV cutD
  rw [r.length]
  exact (Rps.drop _ r).take _
abbrev DO := SD → Wd → (Option Int → Wd → Prop) → QX → Prop
structure POd (X : Cx) (S : Sy) (E : XS) (e : Option Expr) (t : DO) : Prop where
  run : ∀ (pins : List (Addr × Obj)) (s : Shared) (σ : L2.St) (H F : Hp) (sd : SD) (W : Wd) (Q2 : Option Int → Wd → Prop) (E2 : QX), Inv X pins σ H s → Rel S F W H → SRel S F σ sd → XCv S F E2 E → t sd W Q2 E2 →
    wpAny (model X.prog X.w) X.A (evalPart e X.env) (fun u s' => ∃ o H' F' W', Inv X pins σ H' s' ∧ IsPart u o ∧ Ex F F' ∧ Rel S F' W' H' ∧ Q2 o W') X.xe s
def dNoPart : DO := fun _ W Q _ => Q none W
def dPart (t : DE) : DO := fun sd W Q E2 => t sd W (fun d W1 => match d with
  | .int i => Q (some i) W1
  | _ => False) E2
theorem pod_none : POd X S E none dNoPart := ⟨fun pins s σ H F sd W Q2 E2 I rl sr xc h => by
  rw [evalPart_none]
  exact wpAny_pure ⟨none, H, F, W, I, .none, Ex.refl _, rl, h⟩⟩
theorem pod_some {e : Expr} {t : DE} (he : PD X S E e t) : POd X S E (some e) (dPart t) := ⟨fun pins s σ H F sd W Q2 E2 I rl sr xc h => by
  rw [evalPart_some]
  refine thn (he.run pins s σ H F sd W _ E2 I rl sr xc h) fun u s1 ⟨x, H1, F1, d, W1, I1, r1, e1, rl1, p1, q1⟩ => ?_
  cases p1 <;> first | exact q1.elim | skip
  obtain ⟨t, rfl⟩ := r1
  exact ⟨some _, H1, F1, W1, I1, .int _ t, e1, rl1, q1⟩⟩
def dSl (te : DE) (tl th : DO) : DE := fun sd W Q E2 => te sd W (fun c W1 => tl sd W1 (fun lo W2 => th sd W2 (fun hi W3 => match c with
  | .str z => z.length ≤ sizeLine ∧ Q (.str (cutS z lo hi)) W3
  | .lst ds => Q (.lst (cutD ds lo hi)) W3
  | .frl ds => Q (.lst (cutD ds lo hi)) W3
  | .tup ds => ¬ (HT.sIx ds.length 0 lo = 0 ∧ HT.sIx ds.length ds.length hi = ds.length) ∧ Q (.tup (cutD ds lo hi)) W3
  | .ptr a => (match W3 a with
    | some (.lst ds) => Q (.lst (cutD ds lo hi)) W3
    | _ => False)
  | _ => False) E2) E2) E2
theorem pd_slice {e : Expr} {lo hi : Option Expr} {te : DE} {tl th : DO} {pos p2 : Pos} (hK : X.K = S.K) (he : PD X S E e te) (hl : POd X S E lo tl) (hu : POd X S E hi th) : PD X S E (.Subscript e (.Slice lo hi none p2) pos) (dSl te tl th) := by
  refine ⟨fun pins s σ H F sd W Q2 E2 I rl sr xc h => ?_⟩
  refine PyProof.Rows.Subscript_ (thn (he.run pins s σ H F sd W _ E2 I rl sr xc h) fun v s1 ⟨x, H1, F1, c, W1, I1, r1, e1, rl1, p1, q1⟩ => ?_)
  refine wpAny_Slice (thn (hl.run pins s1 σ H1 F1 sd W1 _ E2 I1 rl1 (sr.mono e1) (XCv.mono e1 xc) q1) fun vl s2 ⟨l, H2, F2, W2, I2, pl, e2, rl2, q2⟩ => thn (hu.run pins s2 σ H2 F2 sd W2 _ E2 I2 rl2 (sr.mono (e1.trans e2)) (XCv.mono (e1.trans e2) xc) q2) fun vu s3 ⟨u, H3, F3, W3, I3, pu, e3, rl3, q3⟩ => ?_)
  rw [evalPart_none]
  refine wpAny_pure ?_
  have I4 : Inv X pins σ H3 { s3 with heap := s3.heap.push { cls := .type "slice", data := .fields #[vl, vu, .none] } } := I3.kept (t' := s3.toks) fun b ob q => Heap.get?_push_of_some _ q
  have p3 : Rp S F3 x c := p1.mono (e2.trans e3)
  have fin : ∀ {r : V → Option Int → Option Int → Hp → VK → Prop}, SlR X r → r x l u H3 (tkQ S F3 Q2) → ∃ T id, typeLookup (.type T) "__getitem__" = pure (some (.builtin id)) ∧ ({ s3 with heap := s3.heap.push { cls := .type "slice", data := .fields #[vl, vu, .none] } } : Shared).TypeIs v T ∧ wpAny (model X.prog X.w) X.A (getItem v (.ref s3.heap.objs.size)) (EP X pins σ (tkQ S F3 Q2)) X.xe { s3 with heap := s3.heap.push { cls := .type "slice", data := .fields #[vl, vu, .none] } } := fun {r} hr q =>
    hr pins _ σ H3 x v vl vu l u s3.heap.objs.size _ I4 r1 (Heap.IsSliceOf.new ..) pl pu q
  have go : ∃ T id, typeLookup (.type T) "__getitem__" = pure (some (.builtin id)) ∧ ({ s3 with heap := s3.heap.push { cls := .type "slice", data := .fields #[vl, vu, .none] } } : Shared).TypeIs v T ∧ wpAny (model X.prog X.w) X.A (getItem v (.ref s3.heap.objs.size)) (EP X pins σ (tkQ S F3 Q2)) X.xe { s3 with heap := s3.heap.push { cls := .type "slice", data := .fields #[vl, vu, .none] } } := by
    cases p3 with
    | str z => exact fin sl_str ⟨z, rfl, q3.1, tkQ_of (Ex.refl _) rl3 (.str _) q3.2⟩
    | lst hq r => exact fin sl_list ⟨_, _, rfl, SqL.of (rl3.sub _ _ hq), fun p hp => tkQ_of (Ex.new (rl3.nf hp)) (rl3.newF hp) (.lst upd_same ((r.cut l u).mono (Ex.new (rl3.nf hp)))) q3⟩
    | frl hq r => exact fin sl_list ⟨_, _, rfl, by rw [hK]; exact ex_l rl3.sub hq, fun p hp => tkQ_of (Ex.new (rl3.nf hp)) (rl3.newF hp) (.lst upd_same ((r.cut l u).mono (Ex.new (rl3.nf hp)))) q3⟩
    | tup hq r => exact fin sl_tup ⟨_, _, rfl, by rw [hK]; exact ex_t rl3.sub hq, by rw [r.length]; exact q3.1, fun p hp => tkQ_of (Ex.new (rl3.nf hp)) (rl3.newF hp) (.tup (SqT.of upd_same) ((r.cut l u).mono (Ex.new (rl3.nf hp)))) q3.2⟩
    | ptr a =>
      have h2 : (match W3 a with | some (.lst ds) => Q2 (.lst (cutD ds l u)) W3 | _ => False) := q3
      cases e : W3 a with
      | none => rw [e] at h2; exact h2.elim
      | some m =>
        rw [e] at h2
        cases m with
        | lst ds =>
          obtain ⟨_, vs, ea, r⟩ := rl3.obj a _ e
          exact fin sl_list ⟨_, _, rfl, SqL.of ea, fun p hp => tkQ_of (Ex.new (rl3.nf hp)) (rl3.newF hp) (.lst upd_same ((r.cut l u).mono (Ex.new (rl3.nf hp)))) h2⟩
        | _ => exact h2.elim
    | _ => exact q3.elim
  obtain ⟨T, id, hT, ht, hg⟩ := go
  show wpAny (model X.prog X.w) X.A (subscriptTail e (.Slice lo hi none p2) v (.ref s3.heap.objs.size)) (DP X S pins σ F Q2) X.xe { s3 with heap := s3.heap.push { cls := .type "slice", data := .fields #[vl, vu, .none] } }
  exact thn (tail_any (ops := [.ref s3.heap.objs.size, v]) ht hT hg (by with_unfolding_all rfl)) fun u s' z => (EP.tk z).back (e1.trans (e2.trans e3))
end
end Mv
end
section
set_option Elab.async false
set_option linter.all false
set_option maxRecDepth 100000
set_option maxHeartbeats 4000000
namespace Mv
open PySem PySem.Spec L2
open Evl (Ex ex_l ex_t ex_rd)
open PyProof.Rows
section
variable {X : Cx} {S : Sy} {E : XS} {k : Nat}

/-! ## kinds of data -/
inductive TK where
  | non | bl | int | str | tup | lst | dct | own (c : Nat)
  deriving DecidableEq
def tkD (W : Wd) : D → Option TK
  | .non => some .non
  | .bl _ => some .bl
  | .int _ => some .int
  | .str _ => some .str
  | .tup _ => some .tup
  | .lst _ => some .lst
  | .dK _ => some .dct
  | .dT _ => some .dct
  | .ins c _ => some (.own c)
  | .ptr a => (match W a with
    | some (.lst _) => some .lst
    | some (.dK _) => some .dct
    | some (.dT _) => some .dct
    | some (.ins c _) => some (.own c)
    | none => none)
  | _ => none
def tkV (S : Sy) : TK → Value
  | .non => .type "NoneType"
  | .bl => .type "bool"
  | .int => .type "int"
  | .str => .type "str"
  | .tup => .type "tuple"
  | .lst => .type "list"
  | .dct => .type "dict"
  | .own c => .ref (S.ca c)
/-- what isinstance asks of an own class -/
structure KitF (K : PySem.W.Frag) (C : Addr) : Prop where
  cl : Cls K C
  ha : PySem.W.findIn K (.ref C) "__class__" = some (some (.builtin "object.__class__"))
  hm : PySem.W.mroIn K C (.type "object") = some true
structure KitG (K : PySem.W.Frag) : Prop where
  hn : PySem.W.specialIn K (.builtin "object.__class__") "__get__" = some (some (.builtin "getset_descriptor.__get__"))
  ht : PySem.W.takesIn K (.builtin "object.__class__") = some true
theorem tyx_of {pins : List (Addr × Obj)} {s : Shared} {σ : L2.St} {H F : Hp} {W : Wd} {v : V} {d : D} {t : TK} (hK : X.K = S.K) (kg : KitG S.K) (rl : Rel S F W H) (rp : Rp S F v d) (h : tkD W d = some t) (ho : ∀ c, t = .own c → KitF S.K (S.ca c)) :
    TyX X.K H v (tkV S t) := by
  have ik : ∀ {a c dx fs}, H a = some (.ins (S.ca c) dx fs) → t = .own c → TyX X.K H (.ref a) (.ref (S.ca c)) := fun {a c dx fs} q e => by
    have f := ho c e
    rw [hK]
    exact .base (.ins q f.cl f.ha kg.hn kg.ht f.hm)
  cases rp with
  | non => cases h; exact .base .non
  | bl b => cases h; exact .base (.bl _)
  | int i => cases h; exact .base (.int _)
  | str x => cases h; exact .base (.str _)
  | ty n => cases h
  | frl hq r1 => cases h
  | exn _ _ _ => cases h
  | lam _ _ => cases h
  | ptr a =>
    cases e : W a with
    | none => simp only [tkD, e] at h; cases h
    | some m =>
      simp only [tkD, e] at h
      obtain ⟨_, mo⟩ := rl.obj a m e
      cases m with
      | lst ds => obtain ⟨vs, e1, r1⟩ := mo; cases h; exact .base (.lst e1)
      | dK ds => obtain ⟨vs, e1, r1⟩ := mo; cases h; exact .base (.dK e1)
      | dT ds => obtain ⟨vs, e1, r1⟩ := mo; cases h; exact .base (.dT e1)
      | ins c fs => obtain ⟨dx, vs, e1, r1⟩ := mo; cases h; exact ik e1 rfl
  | tup hq r1 =>
    cases h
    rcases (show SqT X.K H _ _ by rw [hK]; exact ex_t rl.sub hq) with (q | ⟨o, q⟩) | ⟨o, _, _, q, c, _⟩
    · exact .base (.tup q)
    · exact .fTuple q
    · exact .kTuple q c
  | lst hq r1 => cases h; exact .base (.lst (rl.sub _ _ hq))
  | dK hq r1 => cases h; exact .base (.dK (rl.sub _ _ hq))
  | dT hq r1 => cases h; exact .base (.dT (rl.sub _ _ hq))
  | ins hq r1 => cases h; exact ik (rl.sub _ _ hq) rfl

/-! ## a builtin called with values -/
abbrev DC := List D → Wd → QD → Prop
def upR (S : Sy) (r : DC) : List V → Hp → VK → Prop := fun vs H Q => ∃ F W ds Q2, Rel S F W H ∧ Rps S F vs ds ∧ QCv S F Q2 Q ∧ r ds W Q2
def CalD (X : Cx) (S : Sy) (f : Value) (r : DC) : Prop := CallR X f (upR S r)
/-- from the hand layer's -/
theorem CalD.of {f : Value} {r : List V → Hp → VK → Prop} {rd : DC} (h : CallR X f r) (c : ∀ H F W vs ds Q2 Q, Rel S F W H → Rps S F vs ds → QCv S F Q2 Q → rd ds W Q2 → r vs H Q) : CalD X S f rd :=
  fun pins s σ H vs us Q I rv ⟨F, W, ds, Q2, rl, rp, qc, q⟩ => h pins s σ H vs us Q I rv (c H F W vs ds Q2 Q rl rp qc q)
theorem CalD.or {f : Value} {r r' : DC} (h : CalD X S f r) (h' : CalD X S f r') : CalD X S f (fun ds W Q => r ds W Q ∨ r' ds W Q) :=
  fun pins s σ H vs us Q I rv ⟨F, W, ds, Q2, rl, rp, qc, q⟩ => q.elim (fun q => h pins s σ H vs us Q I rv ⟨F, W, ds, Q2, rl, rp, qc, q⟩) (fun q => h' pins s σ H vs us Q I rv ⟨F, W, ds, Q2, rl, rp, qc, q⟩)
theorem CalD.imp {f : Value} {r r' : DC} (h : CalD X S f r) (c : ∀ ds W Q, r' ds W Q → r ds W Q) : CalD X S f r' :=
  fun pins s σ H vs us Q I rv ⟨F, W, ds, Q2, rl, rp, qc, q⟩ => h pins s σ H vs us Q I rv ⟨F, W, ds, Q2, rl, rp, qc, c _ _ _ q⟩
def dCB (r : DC) (t : DA) : DE := fun sd W Q E2 => t sd W (fun ds W1 => r ds W1 Q) E2
theorem dCB_up {r : DC} {t : DA} {te : TE} {e : Expr} (h : PE X e te) (ht : ∀ σ H Q, tCB (upR S r) (upA S E t) σ H Q → te σ H Q) : PD X S E e (dCB r t) :=
  PE.pd h fun σ H F sd W Q2 E2 rl sr xc q => ht _ _ _ ⟨F, sd, W, _, E2, rl, sr, fun F1 vs ds W1 H1 e1 r1 p1 q1 => ⟨F1, W1, ds, Q2, r1, p1, fun F2 v d W2 H2 e2 r2 p2 q2 => tkQ_of (e1.trans e2) r2 p2 q2, q1⟩, xc, q⟩
theorem pd_callB {x : Str} {p pos : Pos} {e : Expr} {es : List Expr} {t : DA} {id : String} {r : DC} (hc : CalD X S (.builtin id) r) (ha : PAd X S E (e :: es) t) (hm : X.mg x = none) (hg : Gl X x := by rfl) (hv : bootBuiltins x = some (.builtin id) := by kernel_rfl) (hn : x ≠ "__name__" := by decide) (hdb : (x == ("__debug__" : Str)) = false := by decide)
    (he : starEach (e :: es) X.env = (false, eval e X.env) :: starEach es X.env := by rfl) (hpl : (backTo pos (starEach es X.env)).any (·.1) = false := by rfl) : PD X S E (.Call (.Name x p) (e :: es) [] pos) (dCB r t) :=
  dCB_up (pe_callB hc hg hm hv ha.pa hn hdb he hpl) fun _ _ _ z => z
theorem pd_callTy {x : Str} {p pos : Pos} {e : Expr} {es : List Expr} {t : DA} {T : String} {r : DC} (hc : CalD X S (.type T) r) (ha : PAd X S E (e :: es) t) (hm : X.mg x = none) (hg : Gl X x := by rfl) (hv : bootBuiltins x = some (.type T) := by kernel_rfl) (hn : x ≠ "__name__" := by decide) (hdb : (x == ("__debug__" : Str)) = false := by decide)
    (he : starEach (e :: es) X.env = (false, eval e X.env) :: starEach es X.env := by rfl) (hpl : (backTo pos (starEach es X.env)).any (·.1) = false := by rfl) : PD X S E (.Call (.Name x p) (e :: es) [] pos) (dCB r t) :=
  dCB_up (pe_callTy hc hg hm hv ha.pa hn hdb he hpl) fun _ _ _ z => z

/-! ### isinstance -/
/-- the answers by kinds: for the class that stands there -/
def rIsiD (u : D) (f : TK → Option Bool) : DC := fun ds W Q => match ds with
  | [x, c] => c = u ∧ kSome (tkD W x) fun t => kSome (f t) fun b => Q (.bl b) W
  | _ => False
structure IsiF (S : Sy) (u : Value) (f : TK → Option Bool) : Prop where
  kg : KitG S.K
  ok : ∀ t b, f t = some b → PySem.W.kitOne S.K (tkV S t) u = some b ∧ ∀ c, t = .own c → KitF S.K (S.ca c)
theorem Rps.one {F : Hp} {vs : List V} {x : D} (r : Rps S F vs [x]) : ∃ v, vs = [v] ∧ Rp S F v x := by
  cases r with
  | cons p t => cases t; exact ⟨_, rfl, p⟩
theorem Rps.two {F : Hp} {vs : List V} {x y : D} (r : Rps S F vs [x, y]) : ∃ v u, vs = [v, u] ∧ Rp S F v x ∧ Rp S F u y := by
  cases r with
  | cons p t =>
    obtain ⟨u, rfl, q⟩ := t.one
    exact ⟨_, u, rfl, p, q⟩
theorem cl_isiT {T : String} {f : TK → Option Bool} (hK : X.K = S.K) (hf : IsiF S (.type T) f) : CalD X S (.builtin "isinstance") (rIsiD (.ty T) f) := by
  refine CalD.of call_isi fun H F W vs ds Q2 Q rl rp qc q => ?_
  match ds, q with
  | [x, c], q =>
    obtain ⟨rfl, q⟩ := q
    obtain ⟨v, u, rfl, p1, p2⟩ := rp.two
    obtain ⟨t, ht, q⟩ := q.inv
    obtain ⟨b, hb, q⟩ := q.inv
    obtain ⟨e, ho⟩ := hf.ok t b hb
    cases p2
    exact ⟨v, _, tkV S t, _, b, rfl, .ty T, tyx_of (pins := []) (s := X.s_0) (σ := []) hK hf.kg rl p1 ht ho, by rw [hK]; exact e, qc _ _ _ _ _ (Ex.refl _) rl (.bl _) q⟩
theorem cl_isiC {c0 : Nat} {f : TK → Option Bool} (hK : X.K = S.K) (hf : IsiF S (.ref (S.ca c0)) f) : CalD X S (.builtin "isinstance") (rIsiD (.ptr (S.ca c0)) f) := by
  refine CalD.of call_isi fun H F W vs ds Q2 Q rl rp qc q => ?_
  match ds, q with
  | [x, c], q =>
    obtain ⟨rfl, q⟩ := q
    obtain ⟨v, u, rfl, p1, p2⟩ := rp.two
    obtain ⟨t, ht, q⟩ := q.inv
    obtain ⟨b, hb, q⟩ := q.inv
    obtain ⟨e, ho⟩ := hf.ok t b hb
    cases p2
    exact ⟨v, _, tkV S t, _, b, rfl, .own _, tyx_of (pins := []) (s := X.s_0) (σ := []) hK hf.kg rl p1 ht ho, by rw [hK]; exact e, qc _ _ _ _ _ (Ex.refl _) rl (.bl _) q⟩
/-! ### len, abs, int, bool, str, list, tuple -/
def rLenD : DC := fun ds W Q => match ds with
  | [.str z] => z.length ≤ sizeLine ∧ Q (.int z.length) W
  | [.dK kvs] => Q (.int kvs.length) W
  | [.ptr a] => (match W a with
    | some (.lst xs) => Q (.int xs.length) W
    | some (.dK kvs) => Q (.int kvs.length) W
    | _ => False)
  | [d] => kSeq W d fun xs => Q (.int xs.length) W
  | _ => False
theorem Rpk.length {F : Hp} : ∀ {vs : List (Key × V)} {ds : List (Key × D)}, Rpk S F vs ds → vs.length = ds.length
  | _, _, .nil => rfl
  | _, _, .cons _ r => congrArg (· + 1) (Rpk.length r)
theorem cl_len (hK : X.K = S.K) : CalD X S (.builtin "len") rLenD := by
  refine (CalD.or (CalD.of (rd := fun ds W Q => match ds with
      | [.str z] => z.length ≤ sizeLine ∧ Q (.int z.length) W
      | [d] => kSeq W d fun xs => Q (.int xs.length) W
      | _ => False) call_len fun H F W vs ds Q2 Q rl rp qc q => ?_) (CalD.of (rd := fun ds W Q => match ds with
      | [.dK kvs] => Q (.int kvs.length) W
      | [.ptr a] => (match W a with
        | some (.dK kvs) => Q (.int kvs.length) W
        | _ => False)
      | _ => False) call_lenD fun H F W vs ds Q2 Q rl rp qc q => ?_)).imp fun ds W Q q => ?_
  · match ds, q with
    | [d], q =>
      obtain ⟨v, rfl, p⟩ := rp.one
      have sq : kSeq W d (fun xs => Q2 (.int xs.length) W) → ∃ x n, [v] = [x] ∧ LenV X.K x H n ∧ Q (.int n) H := fun q => by
        obtain ⟨a, us, es, rfl, hq, r, q⟩ := kSeq.at hK rl p q
        refine ⟨_, us.length, rfl, ?_, by rw [r.length]; exact qc _ _ _ _ _ (Ex.refl _) rl (.int _) q⟩
        rcases hq with hq | hq
        · exact .inl ⟨us, hq, rfl⟩
        · exact .inr ⟨us, hq, rfl⟩
      cases d with
      | str z =>
        cases p
        exact ⟨_, _, rfl, ⟨q.1, rfl⟩, qc _ _ _ _ _ (Ex.refl _) rl (.int _) q.2⟩
      | _ => exact sq q
    | x :: _ :: _, q => cases x <;> exact (show False from q).elim
  · match ds, q with
    | [.dK kvs], q =>
      obtain ⟨v, rfl, p⟩ := rp.one
      cases p with
      | dK hq r => exact ⟨_, _, rfl, rl.sub _ _ hq, by rw [r.length]; exact qc _ _ _ _ _ (Ex.refl _) rl (.int _) q⟩
    | [.ptr a], q =>
      obtain ⟨v, rfl, p⟩ := rp.one
      cases p
      cases e : W a with
      | none => simp only [e] at q
      | some m =>
        simp only [e] at q
        cases m with
        | dK kvs =>
          obtain ⟨_, vs, e1, r⟩ := rl.obj a _ e
          exact ⟨_, _, rfl, e1, by rw [r.length]; exact qc _ _ _ _ _ (Ex.refl _) rl (.int _) q⟩
        | _ => exact q.elim
  · match ds, q with
    | [d], q =>
      cases d with
      | dK kvs => exact .inr q
      | ptr a =>
        have q' : (match W a with | some (.lst xs) => Q (.int xs.length) W | some (.dK kvs) => Q (.int kvs.length) W | _ => False) := q
        cases e : W a with
        | none => rw [e] at q'; exact q'.elim
        | some m =>
          rw [e] at q'
          cases m with
          | lst xs => exact .inl (by show kSeq W (.ptr a) _; simp only [kSeq, e]; exact q')
          | dK kvs => exact .inr (by simp only [e]; exact q')
          | _ => exact q'.elim
      | _ => exact .inl q
    | x :: _ :: _, q => cases x <;> exact (show False from q).elim
def rAbsD : DC := fun ds W Q => match ds with
  | [.int i] => Q (.int (if i < 0 then -i else i)) W
  | _ => False
theorem cl_abs : CalD X S (.builtin "abs") rAbsD := CalD.of call_abs fun H F W vs ds Q2 Q rl rp qc q => by
  match ds, q with
  | [.int i], q =>
    obtain ⟨v, rfl, p⟩ := rp.one
    cases p
    exact ⟨i, rfl, qc _ _ _ _ _ (Ex.refl _) rl (.int _) q⟩
def rIntD : DC := fun ds W Q => match ds with
  | [.int i] => Q (.int i) W
  | [.bl b] => Q (.int (if b then 1 else 0)) W
  | [.str z] => z.length ≤ 640 ∧ kSome (PySem.intText? z) fun n => Q (.int n) W
  | _ => False
theorem cl_int : CalD X S (.type "int") rIntD := by
  refine (CalD.or (CalD.of (rd := fun ds W Q => match ds with
      | [.int i] => Q (.int i) W
      | [.bl b] => Q (.int (if b then 1 else 0)) W
      | _ => False) call_int1 fun H F W vs ds Q2 Q rl rp qc q => ?_) (CalD.of (rd := fun ds W Q => match ds with
      | [.str z] => z.length ≤ 640 ∧ kSome (PySem.intText? z) fun n => Q (.int n) W
      | _ => False) call_int_str fun H F W vs ds Q2 Q rl rp qc q => ?_)).imp fun ds W Q q => ?_
  · match ds, q with
    | [.int i], q =>
      obtain ⟨v, rfl, p⟩ := rp.one
      cases p
      exact .inl ⟨i, rfl, qc _ _ _ _ _ (Ex.refl _) rl (.int _) q⟩
    | [.bl b], q =>
      obtain ⟨v, rfl, p⟩ := rp.one
      cases p
      exact .inr ⟨b, rfl, qc _ _ _ _ _ (Ex.refl _) rl (.int _) q⟩
  · match ds, q with
    | [.str z], q =>
      obtain ⟨v, rfl, p⟩ := rp.one
      cases p
      obtain ⟨h1, q⟩ := q
      obtain ⟨n, hn, q⟩ := q.inv
      exact ⟨z, n, rfl, hn, h1, qc _ _ _ _ _ (Ex.refl _) rl (.int _) q⟩
  · match ds, q with
    | [.int i], q => exact .inl q
    | [.bl i], q => exact .inl q
    | [.str i], q => exact .inr q
def rBoolD : DC := fun ds W Q => match ds with
  | [.int i] => Q (.bl (i != 0)) W
  | [.bl b] => Q (.bl b) W
  | _ => False
theorem cl_bool : CalD X S (.type "bool") rBoolD := CalD.of call_bool1 fun H F W vs ds Q2 Q rl rp qc q => by
  match ds, q with
  | [.int i], q =>
    obtain ⟨v, rfl, p⟩ := rp.one
    cases p
    exact .inl ⟨i, rfl, qc _ _ _ _ _ (Ex.refl _) rl (.bl _) q⟩
  | [.bl b], q =>
    obtain ⟨v, rfl, p⟩ := rp.one
    cases p
    exact .inr ⟨b, rfl, qc _ _ _ _ _ (Ex.refl _) rl (.bl _) q⟩
def rStrD : DC := fun ds W Q => match ds with
  | [.int i] => i.natAbs.log2 < 1920 ∧ Q (.str (toString i)) W
  | [.str z] => Q (.str z) W
  | _ => False
theorem cl_str : CalD X S (.type "str") rStrD := by
  refine (CalD.or (CalD.of (rd := fun ds W Q => match ds with
      | [.int i] => i.natAbs.log2 < 1920 ∧ Q (.str (toString i)) W
      | _ => False) call_str_int fun H F W vs ds Q2 Q rl rp qc q => ?_) (CalD.of (rd := fun ds W Q => match ds with
      | [.str z] => Q (.str z) W
      | _ => False) SkE.call_str_str fun H F W vs ds Q2 Q rl rp qc q => ?_)).imp fun ds W Q q => ?_
  · match ds, q with
    | [.int i], q =>
      obtain ⟨v, rfl, p⟩ := rp.one
      cases p
      exact ⟨i, rfl, q.1, qc _ _ _ _ _ (Ex.refl _) rl (.str _) q.2⟩
  · match ds, q with
    | [.str z], q =>
      obtain ⟨v, rfl, p⟩ := rp.one
      cases p
      exact ⟨z, rfl, qc _ _ _ _ _ (Ex.refl _) rl (.str _) q⟩
  · match ds, q with
    | [.int i], q => exact .inl q
    | [.str i], q => exact .inr q
/-- list(xs): a new list, frozen -/
def rListD : DC := fun ds W Q => match ds with
  | [d] => kSeq W d fun xs => Q (.lst xs) W
  | _ => False
theorem cl_list (hK : X.K = S.K) : CalD X S (.type "list") rListD := CalD.of call_list_of fun H F W vs ds Q2 Q rl rp qc q => by
  match ds, q with
  | [d], q =>
    obtain ⟨v, rfl, p⟩ := rp.one
    obtain ⟨a, us, es, rfl, hq, r, q⟩ := kSeq.at hK rl p q
    exact ⟨a, us, rfl, hq, fun l hl => qc _ _ _ _ _ (Ex.new (rl.nf hl)) (rl.newF hl) (.lst upd_same (r.mono (Ex.new (rl.nf hl)))) q⟩
/-- tuple(xs) -/
def rTupD : DC := fun ds W Q => match ds with
  | [d] => kSeq W d fun xs => Q (.tup xs) W
  | _ => False
theorem cl_tuple (hK : X.K = S.K) : CalD X S (.type "tuple") rTupD := CalD.of call_tuple_of fun H F W vs ds Q2 Q rl rp qc q => by
  match ds, q with
  | [d], q =>
    obtain ⟨v, rfl, p⟩ := rp.one
    have new : ∀ {a vs es}, SqL X.K H a vs → Rps S F vs es → Q2 (.tup es) W → ∃ p ys, [V.ref a] = [.ref p] ∧ ((SqL X.K H p ys ∧ ∀ l, H l = none → Q (.ref l) (upd H l (.tup ys))) ∨ (SqT X.K H p ys ∧ Q (.ref p) H)) := fun {a vs es} hq r q =>
      ⟨a, vs, rfl, .inl ⟨hq, fun l hl => qc _ _ _ _ _ (Ex.new (rl.nf hl)) (rl.newF hl) (.tup (SqT.of upd_same) (r.mono (Ex.new (rl.nf hl)))) q⟩⟩
    cases p with
    | tup hq r => exact ⟨_, _, rfl, .inr ⟨by rw [hK]; exact ex_t rl.sub hq, qc _ _ _ _ _ (Ex.refl _) rl (.tup hq r) q⟩⟩
    | lst hq r => exact new (SqL.of (rl.sub _ _ hq)) r q
    | ptr a =>
      have q' : (match W a with | some (.lst xs) => Q2 (.tup xs) W | _ => False) := q
      cases e : W a with
      | none => rw [e] at q'; exact q'.elim
      | some m =>
        rw [e] at q'
        cases m with
        | lst xs =>
          obtain ⟨_, vs, e1, r⟩ := rl.obj a _ e
          exact new (SqL.of e1) r q'
        | _ => exact q'.elim
    | _ => exact q.elim
  | [], q => exact q.elim
  | _ :: _ :: _, q => exact q.elim
end
end Mv
end
section
set_option Elab.async false
set_option linter.all false
set_option maxRecDepth 100000
set_option maxHeartbeats 4000000
namespace Mv
open PySem PySem.Spec L2
open Evl (Ex ex_l ex_t ex_rd)
open PyProof.Rows
section
variable {X : Cx} {S : Sy} {E : XS} {k : Nat} {tg : Expr}

/-! ## loops -/
/-- what a loop walks: its items; the list that holds them, if it may change -/
structure LiD where
  items : List D
  held : Option Addr := none
def LiD.ok (l : LiD) (W : Wd) : Prop := match l.held with
  | none => True
  | some a => W a = some (.lst l.items)
/-- the iterator yields the items -/
structure ItOk (S : Sy) (F : Hp) (J : It) (l : LiD) : Prop where
  go : ∀ i F' H W, i < l.items.length → Ex F F' → Rel S F' W H → l.ok W → J.go i H
  yl : ∀ i F' H W x H', i < l.items.length → Ex F F' → Rel S F' W H → l.ok W → J.yld i H x H' → ∃ F2 d, Ex F' F2 ∧ Rel S F2 W H' ∧ l.items[i]? = some d ∧ Rp S F2 x d
  st : ∀ F' H W, Ex F F' → Rel S F' W H → l.ok W → J.stop l.items.length H
theorem ItOk.mono {F F' : Hp} {J : It} {l : LiD} (h : ItOk S F J l) (e : Ex F F') : ItOk S F' J l :=
  ⟨fun i F2 H W a b => h.go i F2 H W a (e.trans b), fun i F2 H W x H' a b => h.yl i F2 H W x H' a (e.trans b), fun F2 H W b => h.st F2 H W (e.trans b)⟩
abbrev DI := SD → Wd → (LiD → Wd → Prop) → QX → Prop
structure PId (X : Cx) (S : Sy) (E : XS) (tg iter : Expr) (ti : DI) : Prop where
  run : ∀ (pins : List (Addr × Obj)) (s : Shared) (σ : L2.St) (H F : Hp) (sd : SD) (W : Wd) (Q2 : LiD → Wd → Prop) (E2 : QX), Inv X pins σ H s → Rel S F W H → SRel S F σ sd → XCv S F E2 E → ti sd W Q2 E2 →
    wpAny (model X.prog X.w) X.A (eval iter X.env) (fun v s1 => wpAny (model X.prog X.w) X.A (pyIter v) (PIE X pins σ tg fun J H' => ∃ F' W' l, Ex F F' ∧ Rel S F' W' H' ∧ ItOk S F' J l ∧ Q2 l W') X.xe s1) X.xe s
/-- the turns -/
def loopD (ok : Wd → Prop) (g : DG) (tb : DS) (D : DEnds) (E2 : QX) : List Mv.D → SD → Wd → Prop
  | [], sd, W => ok W ∧ D.nx sd W
  | d :: ds, sd, W => ok W ∧ g d sd W (fun sd1 W1 => tb { D with nx := loopD ok g tb D E2 ds, ct := loopD ok g tb D E2 ds, bk := D.nx } sd1 W1 E2)
def dFor (ti : DI) (g : DG) (tb : DS) : DS := fun D sd W E2 => ti sd W (fun l W1 => loopD l.ok g tb D E2 l.items sd W1) E2
def upG (S : Sy) (t : DG) : TG := fun x σ H Q => ∃ F sd W d Q2, Rel S F W H ∧ SRel S F σ sd ∧ Rp S F x d ∧ SCv S F Q2 Q ∧ t d sd W Q2
theorem PGd.pg {t : DG} (h : PGd X S tg t) : PG X tg (upG S t) := ⟨fun pins s σ H v u Q I rv ⟨F, sd, W, d, Q2, rl, sr, rp, qc, q⟩ =>
  thn (h.run pins s σ H F sd W v d u Q2 I rl sr rv rp q) fun _ s' ⟨σ', H', F', sd', W', I', e, rl', sr', q'⟩ => ⟨σ', H', I', qc F' σ' sd' W' H' e rl' sr' q'⟩⟩
theorem drop_of {α : Type} {xs : List α} {i : Nat} {d : α} (h : xs[i]? = some d) : xs.drop i = d :: xs.drop (i + 1) := by
  rw [List.getElem?_eq_some_iff] at h
  obtain ⟨h1, h2⟩ := h
  rw [List.drop_eq_getElem_cons h1, h2]
theorem loopD.ok {ok : Wd → Prop} {g : DG} {tb : DS} {D : DEnds} {E2 : QX} {ds : List Mv.D} {sd : SD} {W : Wd} (h : loopD ok g tb D E2 ds sd W) : ok W := by
  cases ds with
  | nil => exact h.1
  | cons d ds => exact h.1
theorem psd_for {iter : Expr} {body : List Stmt} {ti : DI} {g : DG} {tb : DS} {pos : Pos} (hp : PassesOwn (model X.prog X.w) X.A X.env X.xe) (hc : X.calm = true) (hi : PId X S E tg iter ti) (hg : PGd X S tg g) (hb : PBd X S E body tb)
    (hs : ∀ x, foldedSetIterable iter X.env x = pure x := by intro _; rfl) : PSd X S E (.For tg iter body [] pos) (dFor ti g tb) := by
  refine ⟨fun pins s σ H F sd W D2 E2 I rl sr xc h => ?_⟩
  have hi' : PI X tg iter (fun σ' H0 R => σ' = σ ∧ H0 = H ∧ ∀ J H', (∃ F' W' l, Ex F F' ∧ Rel S F' W' H' ∧ ItOk S F' J l ∧ loopD l.ok g tb D2 E2 l.items sd W') → R J H') := ⟨fun pins' s' σ' H0 R I' q => by
    obtain ⟨rfl, rfl, q⟩ := q
    refine thn (hi.run pins' s' σ' H0 F sd W _ E2 I' rl sr xc h) fun v s1 z => thn z fun itv s2 z => ?_
    obtain ⟨it, fp, tn, J, H', e, I2, T, t0, fo, r⟩ := z
    exact ⟨it, fp, tn, J, H', e, I2, T, t0, fo, q J H' r⟩⟩
  refine thn ((ps_for (pos := pos) hp hc hi' hg.pg hb.pss hs).run pins s σ H (tkE S F D2) I ⟨rfl, rfl, fun J H' ⟨F0, W0, l, e0, rl0, io, q0⟩ => ?_⟩) fun f s' z => SP.tk z
  refine ⟨fun i m σ1 H1 => ∃ F1 sd1 W1, Ex F0 F1 ∧ Rel S F1 W1 H1 ∧ SRel S F1 σ1 sd1 ∧ m = l.items.length - i ∧ i ≤ l.items.length ∧ loopD l.ok g tb D2 E2 (l.items.drop i) sd1 W1, ⟨_, F0, sd, W0, Ex.refl _, rl0, sr.mono e0, rfl, Nat.zero_le _, q0⟩, ?_⟩
  rintro i m σ1 H1 ⟨F1, sd1, W1, e1, rl1, sr1, rfl, hi1, q1⟩
  have ok1 := q1.ok
  by_cases hlt : i < l.items.length
  · refine .inr ⟨io.go i F1 H1 W1 hlt e1 rl1 ok1, fun σ' H' => ∃ F2 sd2 W2, Ex F0 F2 ∧ Rel S F2 W2 H' ∧ SRel S F2 σ' sd2 ∧ loopD l.ok g tb D2 E2 (l.items.drop (i + 1)) sd2 W2, fun σ' H' ⟨F2, sd2, W2, a, b, c, d⟩ => ⟨l.items.length - (i + 1), by omega, F2, sd2, W2, a, b, c, rfl, hlt, d⟩, fun x H' y => ?_⟩
    obtain ⟨F2, d, e2, rl2, hd, px⟩ := io.yl i F1 H1 W1 x H' hlt e1 rl1 ok1 y
    rw [drop_of hd] at q1
    obtain ⟨_, q1⟩ := q1
    refine ⟨F2, sd1, W1, d, _, rl2, sr1.mono e2, px, fun F3 σ3 sd3 W3 H3 e3 rl3 sr3 q3 => ?_, q1⟩
    have e03 : Ex F0 F3 := e1.trans (e2.trans e3)
    have eF3 : Ex F F3 := e0.trans e03
    have nx : ∀ F' σ' sd' W' H', Ex F3 F' → Rel S F' W' H' → SRel S F' σ' sd' → loopD l.ok g tb D2 E2 (l.items.drop (i + 1)) sd' W' → ∃ F2 sd2 W2, Ex F0 F2 ∧ Rel S F2 W2 H' ∧ SRel S F2 σ' sd2 ∧ loopD l.ok g tb D2 E2 (l.items.drop (i + 1)) sd2 W2 :=
      fun F' σ' sd' W' H' e r sr q => ⟨F', sd', W', e03.trans e, r, sr, q⟩
    exact ⟨F3, sd3, W3, { D2 with nx := loopD l.ok g tb D2 E2 (l.items.drop (i + 1)), ct := loopD l.ok g tb D2 E2 (l.items.drop (i + 1)), bk := D2.nx }, E2, rl3, sr3, ⟨nx, fun F' v d W' H' e r p q => ⟨F', d, W', eF3.trans e, r, p, q⟩, fun F' σ' sd' W' H' e r sr q => ⟨F', sd', W', eF3.trans e, r, sr, q⟩, nx⟩, XCv.mono eF3 xc, q3⟩
  · have hi2 : i = l.items.length := by omega
    subst hi2
    rw [List.drop_length] at q1
    exact .inl ⟨io.st F1 H1 W1 e1 rl1 ok1, F1, sd1, W1, e0.trans e1, rl1, sr1, q1.2⟩
/-! ### what is walked -/
def chD (z : Str) : List D := z.cps.toList.map fun c => .str ⟨#[c]⟩
def kLi (W : Wd) (d : D) (q : LiD → Prop) : Prop := match d with
  | .str z => q ⟨chD z, none⟩
  | .tup ds => q ⟨ds, none⟩
  | .lst ds => q ⟨ds, none⟩
  | .ptr a => (match W a with
    | some (.lst ds) => q ⟨ds, some a⟩
    | _ => False)
  | _ => False
def iSq (t : DE) : DI := fun sd W Q E2 => t sd W (fun d W1 => kLi W1 d fun l => Q l W1) E2
theorem pid_seq {e : Expr} {t : DE} (hK : X.K = S.K) (he : PD X S E e t) : PId X S E tg e (iSq t) := by
  refine ⟨fun pins s σ H F sd W Q2 E2 I rl sr xc h => ?_⟩
  refine thn (he.run pins s σ H F sd W _ E2 I rl sr xc h) fun v s1 ⟨x, H1, F1, d, W1, I1, r1, e1, rl1, p1, q1⟩ => ?_
  have lst : ∀ {a vs l}, x = .ref a → SqL X.K H1 a vs → Q2 l W1 → ItOk S F1 (Itl X.K a) l → wpAny (model X.prog X.w) X.A (pyIter v) (PIE X pins σ tg fun J H' => ∃ F' W' l, Ex F F' ∧ Rel S F' W' H' ∧ ItOk S F' J l ∧ Q2 l W') X.xe s1 := fun {a vs l} ex hq q io => by
    subst ex
    obtain rfl : v = Value.ref a := r1
    obtain ⟨its, rv, p, hz⟩ := I1.list hq
    refine wpAny_pyIter_list p.isList ?_
    refine ⟨s1.heap.objs.size, [s1.heap.objs.size], _, _, H1, rfl, I1.kept (t' := s1.toks) fun b o e => Heap.get?_push_of_some _ e, turn_list a _, ⟨_, Heap.get?_push_size _ rfl, rfl, rfl⟩, fun b hb => ?_, F1, W1, l, e1, rl1, io, q⟩
    have e : b = s1.heap.objs.size := by simpa using hb
    subst e
    exact I1.fpOk (Nat.le_refl _) (I1.hok.fresh (Nat.le_refl _))
  cases p1 with
  | ptr a =>
    have q2 : (match W1 a with | some (.lst ds) => Q2 ⟨ds, some a⟩ W1 | _ => False) := q1
    cases e : W1 a with
    | none => rw [e] at q2; exact q2.elim
    | some m =>
      rw [e] at q2
      cases m with
      | lst ds =>
        obtain ⟨_, vs, ea, r⟩ := rl1.obj a _ e
        refine lst rfl (SqL.of ea) q2 ⟨fun i F' H W hi e rl ok => ?_, fun i F' H W x H' hi e rl ok y => ?_, fun F' H W e rl ok => ?_⟩
        · obtain ⟨_, vs, ea, r⟩ := rl.obj a _ ok
          exact ⟨vs, vs[i]'(by rw [r.length]; exact hi), SqL.of ea, List.getElem?_eq_getElem _⟩
        · obtain ⟨_, vs, ea, r⟩ := rl.obj a _ ok
          obtain ⟨rfl, y⟩ := y
          obtain ⟨u, hu, ru⟩ := r.get (List.getElem?_eq_getElem hi)
          have := y vs (SqL.of ea)
          rw [hu] at this
          cases this
          exact ⟨F', _, Ex.refl _, rl, List.getElem?_eq_getElem hi, ru⟩
        · obtain ⟨_, vs, ea, r⟩ := rl.obj a _ ok
          exact ⟨vs, SqL.of ea, Nat.le_of_eq r.length⟩
      | _ => exact q2.elim
  | lst hq r =>
    refine lst rfl (SqL.of (rl1.sub _ _ hq)) q1 ⟨fun i F' H W hi e rl ok => ?_, fun i F' H W x H' hi e rl ok y => ?_, fun F' H W e rl ok => ?_⟩
    · exact ⟨_, _, SqL.of (rl.sub _ _ (e _ _ hq)), List.getElem?_eq_getElem (by rw [r.length]; exact hi)⟩
    · obtain ⟨rfl, y⟩ := y
      obtain ⟨u, hu, ru⟩ := r.get (List.getElem?_eq_getElem hi)
      have := y _ (SqL.of (rl.sub _ _ (e _ _ hq)))
      rw [hu] at this
      cases this
      exact ⟨F', _, Ex.refl _, rl, List.getElem?_eq_getElem hi, ru.mono e⟩
    · exact ⟨_, SqL.of (rl.sub _ _ (e _ _ hq)), Nat.le_of_eq r.length⟩
  | tup hq r =>
    rename_i a vs ds
    obtain rfl : v = Value.ref a := r1
    have sq : ∀ {F' H W}, Ex F1 F' → Rel S F' W H → SqT X.K H a vs := fun e rl => by rw [hK]; exact ex_t rl.sub (ex_t e hq)
    obtain ⟨its, rv, p, hz⟩ := I1.tuple (sq (Ex.refl _) rl1)
    refine wpAny_pyIter_tuple (show s1.heap.IsTuple a its.toArray from p) ?_
    refine ⟨s1.heap.objs.size, [s1.heap.objs.size], _, _, H1, rfl, I1.kept (t' := s1.toks) fun b o e => Heap.get?_push_of_some _ e, turn_tuple a _, ⟨_, Heap.get?_push_size _ rfl, rfl, rfl⟩, fun b hb => ?_, F1, W1, ⟨ds, none⟩, e1, rl1, ⟨fun i F' H W hi e rl ok => ?_, fun i F' H W x H' hi e rl ok y => ?_, fun F' H W e rl ok => ?_⟩, q1⟩
    · have e : b = s1.heap.objs.size := by simpa using hb
      subst e
      exact I1.fpOk (Nat.le_refl _) (I1.hok.fresh (Nat.le_refl _))
    · exact ⟨_, _, sq e rl, List.getElem?_eq_getElem (by rw [r.length]; exact hi)⟩
    · obtain ⟨rfl, y⟩ := y
      obtain ⟨u, hu, ru⟩ := r.get (List.getElem?_eq_getElem hi)
      have := y _ (sq e rl)
      rw [hu] at this
      cases this
      exact ⟨F', _, Ex.refl _, rl, List.getElem?_eq_getElem hi, ru.mono e⟩
    · exact ⟨_, sq e rl, Nat.le_of_eq r.length⟩
  | str x =>
    obtain ⟨t, rfl⟩ := r1
    have hl : (chD x).length = x.cps.size := by simp [chD]
    have q2 : ∃ F' W' l, Ex F F' ∧ Rel S F' W' H1 ∧ ItOk S F' (Its x) l ∧ Q2 l W' := by
      refine ⟨F1, W1, ⟨chD x, none⟩, e1, rl1, ⟨fun i F' H W hi e rl ok => ?_, fun i F' H W u H' hi e rl ok y => ?_, fun F' H W e rl ok => ?_⟩, q1⟩
      · show i < x.cps.size
        simpa [hl] using hi
      · obtain ⟨rfl, c, hc, rfl⟩ := y
        refine ⟨F', .str ⟨#[c]⟩, Ex.refl _, rl, ?_, .str _⟩
        have hc' : x.cps.toList[i]? = some c := by simpa using hc
        simp only [chD, List.getElem?_map, hc', Option.map_some]
      · show x.cps.size ≤ (chD x).length
        rw [hl]
        exact Nat.le_refl _
    cases ha : x.cps.all (· < 128)
    · exact wpAny_pyIter_wide ha (pi_one (tk := s1.toks) I1 _ (turn_str _ x t "str_iterator" (.inr rfl)) ⟨_, Heap.get?_push_size _ rfl, rfl, rfl⟩ q2)
    · exact wpAny_pyIter_ascii ha (pi_one (tk := s1.toks) I1 _ (turn_str _ x t "str_ascii_iterator" (.inl rfl)) ⟨_, Heap.get?_push_size _ rfl, rfl, rfl⟩ q2)
  | _ => exact q1.elim
/-- range(n), range(a, b) -/
def rngD (lo : Int) (n : Nat) : List D := (List.range n).map fun i => .int (lo + (i : Nat))
theorem rng_ok {F : Hp} (lo : Int) (n : Nat) : ItOk S F (Itr lo n) ⟨rngD lo n, none⟩ := by
  have hl : (rngD lo n).length = n := by simp [rngD]
  refine ⟨fun i F' H W hi e rl ok => ?_, fun i F' H W x H' hi e rl ok y => ?_, fun F' H W e rl ok => ?_⟩
  · show i < n
    simpa [hl] using hi
  · obtain ⟨rfl, rfl⟩ := y
    have hi' : i < n := by simpa [hl] using hi
    exact ⟨F', .int (lo + i), Ex.refl _, rl, by simp [rngD, hi'], .int _⟩
  · show n ≤ (rngD lo n).length
    rw [hl]
    exact Nat.le_refl _
def iRng1d (t : DA) : DI := fun sd W Q E2 => t sd W (fun ds W1 => match ds with
  | [.int j] => -(2 ^ 62) ≤ j ∧ j < 2 ^ 62 ∧ Q ⟨rngD 0 j.toNat, none⟩ W1
  | _ => False) E2
def iRng2d (t : DA) : DI := fun sd W Q E2 => t sd W (fun ds W1 => match ds with
  | [.int i, .int j] => (-(2 ^ 62) ≤ i ∧ i < 2 ^ 62 ∧ -(2 ^ 62) ≤ j ∧ j < 2 ^ 62) ∧ Q ⟨rngD i (j - i).toNat, none⟩ W1
  | _ => False) E2
theorem pid_range1 {a : Expr} {t : DA} {p pos : Pos} (ha : PAd X S E [a] t) (hm : X.mg "range" = none) (hg : Gl X "range" := by rfl) (hs : starEach [a] X.env = [(false, eval a X.env)] := by rfl) : PId X S E tg (.Call (.Name "range" p) [a] [] pos) (iRng1d t) := by
  refine ⟨fun pins s σ H F sd W Q2 E2 I rl sr xc h => ?_⟩
  refine (pi_range1 hg hm ha.pa hs).run pins s σ H _ I ⟨F, sd, W, _, E2, rl, sr, fun F1 vs ds W1 H1 e1 r1 p1 q1 => ?_, xc, h⟩
  match ds, q1, p1 with
  | [.int j], q1, p1 =>
    obtain ⟨v, rfl, p⟩ := p1.one
    cases p
    exact ⟨j, rfl, q1.1, q1.2.1, F1, W1, _, e1, r1, rng_ok 0 _, q1.2.2⟩
theorem pid_range2 {a b : Expr} {t : DA} {p pos : Pos} (ha : PAd X S E [a, b] t) (hm : X.mg "range" = none) (hg : Gl X "range" := by rfl) (hs : starEach [a, b] X.env = [(false, eval a X.env), (false, eval b X.env)] := by rfl) (hs2 : starEach [b] X.env = [(false, eval b X.env)] := by rfl) : PId X S E tg (.Call (.Name "range" p) [a, b] [] pos) (iRng2d t) := by
  refine ⟨fun pins s σ H F sd W Q2 E2 I rl sr xc h => ?_⟩
  refine (pi_range2 hg hm ha.pa hs hs2).run pins s σ H _ I ⟨F, sd, W, _, E2, rl, sr, fun F1 vs ds W1 H1 e1 r1 p1 q1 => ?_, xc, h⟩
  match ds, q1, p1 with
  | [.int i, .int j], q1, p1 =>
    obtain ⟨v, u, rfl, p, p'⟩ := p1.two
    cases p
    cases p'
    exact ⟨i, j, rfl, q1.1, F1, W1, _, e1, r1, rng_ok i _, q1.2⟩

/-! ### while -/
def dWhile (c : DT) (tb : DS) : DS := fun D sd W E2 => ∃ J : Nat → SD → Wd → Prop, (∃ m, J m sd W) ∧ ∀ m sd W, J m sd W →
  c sd W (fun b W1 => if b = true then tb { D with nx := fun sd W => ∃ m', m' < m ∧ J m' sd W, ct := fun sd W => ∃ m', m' < m ∧ J m' sd W, bk := D.nx } sd W1 E2 else D.nx sd W1) E2
theorem psd_while {c : Expr} {body : List Stmt} {tc : DT} {tb : DS} {pos : Pos} (hp : PassesOwn (model X.prog X.w) X.A X.env X.xe) (hc : PTd X S E c tc) (hb : PBd X S E body tb) : PSd X S E (.While c body [] pos) (dWhile tc tb) := by
  refine ⟨fun pins s σ H F sd W D2 E2 I rl sr xc h => ?_⟩
  obtain ⟨J, ⟨m0, j0⟩, turn⟩ := h
  refine thn ((ps_while (pos := pos) hp hc.pt hb.pss).run pins s σ H (tkE S F D2) I ⟨fun m σ1 H1 => ∃ F1 sd1 W1, Ex F F1 ∧ Rel S F1 W1 H1 ∧ SRel S F1 σ1 sd1 ∧ J m sd1 W1, ⟨m0, F, sd, W, Ex.refl _, rl, sr, j0⟩, ?_⟩) fun f s' z => SP.tk z
  rintro m σ1 H1 ⟨F1, sd1, W1, e1, rl1, sr1, j1⟩
  refine ⟨F1, sd1, W1, _, E2, rl1, sr1, fun F2 b W2 H2 e2 rl2 q2 => ?_, XCv.mono e1 xc, turn m sd1 W1 j1⟩
  cases b with
  | false => exact ⟨F2, sd1, W2, e1.trans e2, rl2, sr1.mono e2, q2⟩
  | true =>
    rw [if_pos rfl] at q2 ⊢
    have e : Ex F F2 := e1.trans e2
    refine ⟨fun σ' H' => ∃ F' sd' W', Ex F F' ∧ Rel S F' W' H' ∧ SRel S F' σ' sd' ∧ ∃ m', m' < m ∧ J m' sd' W', fun σ' H' ⟨F', sd', W', a, b, c, m', d, j⟩ => ⟨m', d, F', sd', W', a, b, c, j⟩, ?_⟩
    have nx : ∀ F' σ' sd' W' H', Ex F2 F' → Rel S F' W' H' → SRel S F' σ' sd' → (∃ m', m' < m ∧ J m' sd' W') → ∃ F2 sd2 W2, Ex F F2 ∧ Rel S F2 W2 H' ∧ SRel S F2 σ' sd2 ∧ ∃ m', m' < m ∧ J m' sd2 W2 :=
      fun F' σ' sd' W' H' e' r sr q => ⟨F', sd', W', e.trans e', r, sr, q⟩
    exact ⟨F2, sd1, W2, { D2 with nx := fun sd W => ∃ m', m' < m ∧ J m' sd W, ct := fun sd W => ∃ m', m' < m ∧ J m' sd W, bk := D2.nx }, E2, rl2, sr1.mono e2, ⟨nx, fun F' v d W' H' e' r p q => ⟨F', d, W', e.trans e', r, p, q⟩, fun F' σ' sd' W' H' e' r sr q => ⟨F', sd', W', e.trans e', r, sr, q⟩, nx⟩, XCv.mono e xc, q2⟩
end
end Mv
end
section
set_option Elab.async false
set_option linter.all false
set_option maxRecDepth 100000
set_option maxHeartbeats 4000000
namespace Mv
open PySem PySem.Spec L2
open Evl (Ex ex_l ex_t ex_rd)
open PyProof.Rows
section
variable {X : Cx} {S : Sy} {E : XS} {k : Nat} {tg : Expr}

/-! ## a target that writes the slots vs alone -/
def NPc (X : Cx) (S : Sy) (pins : List (Addr × Obj)) (F : Hp) (σ : L2.St) (vs : List Nat) (Q2 : SD → Wd → Prop) (s' : Shared) : Prop :=
  ∃ σ' H' F' sd' W', Inv X pins σ' H' s' ∧ Ex F F' ∧ Rel S F' W' H' ∧ SRel S F' σ' sd' ∧ Q2 sd' W' ∧ wipe σ' vs = wipe σ vs
structure PGc (X : Cx) (S : Sy) (vs : List Nat) (target : Expr) (t : DG) : Prop where
  run : ∀ (pins : List (Addr × Obj)) (s : Shared) (σ : L2.St) (H F : Hp) (sd : SD) (W : Wd) (v : V) (d : D) (u : Value) (Q : SD → Wd → Prop), Inv X pins σ H s → Rel S F W H → SRel S F σ sd → RelV v u → Rp S F v d → t d sd W Q →
    wpAny (model X.prog X.w) X.A (assign target X.env u) (fun _ s' => NPc X S pins F σ vs Q s') X.xe s
structure PGcs (X : Cx) (S : Sy) (vs : List Nat) (ts : List Expr) (t : DGs) : Prop where
  run : ∀ (pins : List (Addr × Obj)) (s : Shared) (σ : L2.St) (H F : Hp) (sd : SD) (W : Wd) (xs : List V) (ds : List D) (us : List Value) (Q : SD → Wd → Prop), Inv X pins σ H s → Rel S F W H → SRel S F σ sd → Vals xs us → Rps S F xs ds → t ds sd W Q →
    wpAny (model X.prog X.w) X.A (assignInOrder ((assignEach ts X.env).map (·.2)) us) (fun _ s' => NPc X S pins F σ vs Q s') X.xe s
theorem wipe_set {v : V} : ∀ {vs : List Nat} {i : Nat} {σ : L2.St}, i ∈ vs → wipe (σ.set i (some v)) vs = wipe σ vs
  | [], _, _, h => by cases h
  | j :: vs, i, σ, h => by
    show (wipe (σ.set i (some v)) vs).set j none = (wipe σ vs).set j none
    by_cases e : i = j
    · subst e
      by_cases hi : i ∈ vs
      · rw [wipe_set hi]
      · have comm : ∀ {vs : List Nat} {σ : L2.St}, i ∉ vs → wipe (σ.set i (some v)) vs = (wipe σ vs).set i (some v) := by
          intro vs
          induction vs with
          | nil => intro σ _; rfl
          | cons a vs ih =>
            intro σ ha
            show (wipe (σ.set i (some v)) vs).set a none = ((wipe σ vs).set a none).set i (some v)
            rw [ih (fun z => ha (List.mem_cons_of_mem _ z)), List.set_comm _ _ (fun z => ha (by rw [z]; exact List.mem_cons_self))]
        rw [comm hi, List.set_set]
    · have hi : i ∈ vs := by
        rcases List.mem_cons.mp h with z | z
        · exact absurd z e
        · exact z
      rw [wipe_set hi]
theorem NPc.back {pins : List (Addr × Obj)} {F F' : Hp} {σ : L2.St} {vs : List Nat} (e : Ex F F') {Q : SD → Wd → Prop} {s' : Shared} (h : NPc X S pins F' σ vs Q s') : NPc X S pins F σ vs Q s' := by
  obtain ⟨σ', H', F2, sd, W, a, b, c⟩ := h
  exact ⟨σ', H', F2, sd, W, a, e.trans b, c⟩
theorem pgc_name {vs : List Nat} {i : Nat} {x : Str} {pos : Pos} (hN : X.N.Nodup) (hm : i ∈ vs := by decide) (hi : X.N[i]? = some x := by rfl) (hx : Loc X.env.scope x := by first | exact Or.inl rfl | exact Or.inr rfl) (hf : X.fn x = true ∨ X.env.scope.names.lookup x = some .local := by first | exact .inl rfl | exact .inr rfl) : PGc X S vs (.Name x pos) (gN i) :=
  ⟨fun pins s σ H F sd W v d u Q I rl sr rv rp h => thn ((pg_name (pos := pos) hN hi hx hf).run pins s σ H v u (fun σ' H' => σ' = σ.set i (some v) ∧ H' = H) I rv ⟨rfl, rfl⟩) fun _ s' ⟨σ', H', I', e1, e2⟩ => by
    subst e1 e2
    exact ⟨_, _, F, _, W, I', Ex.refl _, rl, sr.set rp, h, wipe_set hm⟩⟩
theorem pgcs_nil {vs : List Nat} : PGcs X S vs [] gN0 := ⟨fun pins s σ H F sd W xs ds us Q I rl sr rv rp h => by
  cases rp with
  | nil =>
    cases rv
    exact PyProof.Rows.assignInOrder_nil ⟨σ, H, F, sd, W, I, Ex.refl _, rl, sr, h, rfl⟩
  | cons _ _ => exact h.elim⟩
theorem pgcs_cons {vs : List Nat} {e : Expr} {es : List Expr} {t : DG} {u : DGs} (h1 : PGc X S vs e t) (h2 : PGcs X S vs es u)
    (hs : (assignEach (e :: es) X.env).map (·.2) = assign e X.env :: (assignEach es X.env).map (·.2) := by rfl) : PGcs X S vs (e :: es) (gNs t u) := ⟨fun pins s σ H F sd W xs ds us Q I rl sr rv rp h => by
  cases rp with
  | nil => exact h.elim
  | cons p1 pr =>
    cases rv with
    | cons r1 rr =>
      rw [hs]
      refine PyProof.Rows.assignInOrder_cons (thn (h1.run pins s σ H F sd W _ _ _ _ I rl sr r1 p1 h) fun _ s1 ⟨σ1, H1, F1, sd1, W1, I1, e1, rl1, sr1, q1, w1⟩ => ?_)
      exact thn (h2.run pins s1 σ1 H1 F1 sd1 W1 _ _ _ Q I1 rl1 sr1 rr (pr.mono e1) q1) fun _ s' z => by
        obtain ⟨σ', H', F2, sd, W, a, b, c, d, e, f⟩ := z
        exact ⟨σ', H', F2, sd, W, a, e1.trans b, c, d, e, f.trans w1⟩⟩
theorem pgc_tup {vs : List Nat} {es : List Expr} {k : Nat} {t : DGs} {n : Nat} {pos : Pos} (hc : X.calm = true) (hK : X.K = S.K) (h : PGcs X S vs es t)
    (hn : (assignEach es X.env).length = n := by rfl) (hst : (assignEach es X.env).findIdx? (·.1) = none := by rfl) : PGc X S vs (.Tuple es k pos) (gTp n t) := ⟨fun pins s σ H F sd W v d u Q I rl sr r rp hw => by
  cases rp with
  | tup hq pr =>
    rename_i a xs ds
    obtain ⟨hl, hw⟩ := hw
    cases r
    obtain ⟨its, rv, ht, hz⟩ := I.tuple (by rw [hK]; exact ex_t rl.sub hq)
    refine PyProof.Rows.assign_Tuple_tuple (I.ok.hd hc) ht (by simp [hn, ← hl, ← pr.length, rv.length]) hst fun h' hx => ?_
    have I1 : Inv X pins σ H { s with heap := h' } := I.kept (t' := s.toks) fun b o e => hx b o (Nat.ne_of_lt (Heap.lt_size e)) e
    exact h.run pins _ σ H F sd W xs ds _ Q I1 rl sr (by simpa using rv) pr hw
  | _ => exact hw.elim⟩

/-! ## [e for .. in .. if ..] -/
def wipeD (sd : SD) : List Nat → SD
  | [] => sd
  | v :: vs => (wipeD sd vs).set v none
theorem SRel.none {F : Hp} {σ : L2.St} {sd : SD} (i : Nat) (r : SRel S F σ sd) : SRel S F (σ.set i none) (sd.set i none) := by
  refine ⟨by simp [r.len], fun j e q => ?_⟩
  by_cases z : j = i
  · subst z
    by_cases l : j < sd.length
    · rw [List.getElem?_set_self l] at q; cases q
    · rw [List.getElem?_eq_none (by simp; omega)] at q; cases q
  · rw [List.getElem?_set_ne (Ne.symm z)] at q ⊢
    exact r.at_ j e q
theorem SRel.wipe {F : Hp} {σ : L2.St} {sd : SD} (r : SRel S F σ sd) : ∀ vs : List Nat, SRel S F (wipe σ vs) (wipeD sd vs)
  | [] => r
  | v :: vs => (SRel.wipe r vs).none v
/-- the block raises nothing -/
abbrev EF : XS := fun _ _ _ _ => False
abbrev E2F : QX := fun _ _ _ => False
theorem xcF {F : Hp} : XCv S F E2F EF := fun _ _ _ _ _ _ _ _ _ _ _ _ _ _ z => z
def compD (p : Addr) (ok : Wd → Prop) (g : DG) (tt : DT) (te : DE) (sd0 : SD) (K : List Mv.D → Wd → Prop) : List Mv.D → List Mv.D → Wd → Prop
  | [], acc, W => ok W ∧ W p = some (.lst acc) ∧ K acc W
  | d :: ds, acc, W => ok W ∧ g d sd0 W (fun sd1 W1 => tt sd1 W1 (fun b W2 => if b = true then te sd1 W2 (fun x W3 => W3 p = some (.lst acc) ∧ acc.length < 1000000 ∧ compD p ok g tt te sd0 K ds (acc ++ [x]) (put W3 p (.lst (acc ++ [x])))) E2F else compD p ok g tt te sd0 K ds acc W2) E2F)
theorem compD.ok {p : Addr} {ok : Wd → Prop} {g : DG} {tt : DT} {te : DE} {sd0 : SD} {K : List Mv.D → Wd → Prop} {ds acc : List Mv.D} {W : Wd} (h : compD p ok g tt te sd0 K ds acc W) : ok W := by
  cases ds with
  | nil => exact h.1
  | cons d ds => exact h.1
/-- a list, frozen -/
def dLc (ti : DI) (g : DG) (tt : DT) (te : DE) (vs : List Nat) : DE := fun sd W Q E2 => ti sd W (fun l W1 => ∀ p, W1 p = none → compD p l.ok g tt te (wipeD sd vs) (fun acc W2 => Q (.lst acc) (cut W2 p)) l.items [] (put W1 p (.lst []))) E2
/-- .. by a handle -/
def dLcM (ti : DI) (g : DG) (tt : DT) (te : DE) (vs : List Nat) : DE := fun sd W Q E2 => ti sd W (fun l W1 => ∀ p, W1 p = none → compD p l.ok g tt te (wipeD sd vs) (fun _ W2 => Q (.ptr p) W2) l.items [] (put W1 p (.lst []))) E2
structure PTsd (X : Cx) (S : Sy) (E : XS) (ifs : List Expr) (t : DT) : Prop where
  run : ∀ (pins : List (Addr × Obj)) (s : Shared) (σ : L2.St) (H F : Hp) (sd : SD) (W : Wd) (Q2 : Bool → Wd → Prop) (E2 : QX), Inv X pins σ H s → Rel S F W H → SRel S F σ sd → XCv S F E2 E → t sd W Q2 E2 →
    wpAny (model X.prog X.w) X.A (forIn ifs true fun c r => if r = true then do let ok ← isTrue c X.env (eval c X.env); pure (ForInStep.yield ok) else pure (ForInStep.yield r)) (TPd X S pins σ F Q2) X.xe s
def dYes : DT := fun _ W Q _ => Q true W
theorem ptsd_nil : PTsd X S E [] dYes := ⟨fun _ _ _ H F sd W _ _ I rl sr xc h => wpAny_tests_nil ⟨H, F, W, I, Ex.refl _, rl, h⟩⟩
theorem ptsd_one {c : Expr} {t : DT} (h : PTd X S E c t) : PTsd X S E [c] t := ⟨fun pins s σ H F sd W Q E2 I rl sr xc hw => wpAny_tests_one (h.run pins s σ H F sd W Q E2 I rl sr xc hw)⟩
theorem PTsd.pts {ifs : List Expr} {t : DT} (h : PTsd X S E ifs t) : PTs X ifs (upT S E t) := ⟨fun pins s σ H Q I q => by
  obtain ⟨F, sd, W, Q2, E2, r, sr, qc, xc, ht⟩ := q
  exact thn (h.run pins s σ H F sd W Q2 E2 I r sr xc ht) fun b s' ⟨H', F', W', a1, a2, a3, a4⟩ => ⟨H', a1, qc F' b W' H' a2 a3 a4⟩⟩
def upGc (S : Sy) (vs : List Nat) (t : DG) : TG := fun x σ H Q => ∃ F sd W d Q2, Rel S F W H ∧ SRel S F σ sd ∧ Rp S F x d ∧ (∀ F' σ' sd' W' H', Ex F F' → Rel S F' W' H' → SRel S F' σ' sd' → wipe σ' vs = wipe σ vs → Q2 sd' W' → Q σ' H') ∧ t d sd W Q2
theorem PGc.pg {vs : List Nat} {t : DG} (h : PGc X S vs tg t) : PG X tg (upGc S vs t) := ⟨fun pins s σ H v u Q I rv ⟨F, sd, W, d, Q2, rl, sr, rp, qc, q⟩ =>
  thn (h.run pins s σ H F sd W v d u Q2 I rl sr rv rp q) fun _ s' ⟨σ', H', F', sd', W', I', e, rl', sr', q', w'⟩ => ⟨σ', H', I', qc F' σ' sd' W' H' e rl' sr' w' q'⟩⟩
theorem set_wipe {a : Nat} {σ : L2.St} : ∀ {vs : List Nat}, a ∈ vs → (wipe σ vs).set a none = wipe σ vs
  | [], h => by cases h
  | b :: vs, h => by
    show ((wipe σ vs).set b none).set a none = (wipe σ vs).set b none
    by_cases e : a = b
    · subst e; rw [List.set_set]
    · have ha : a ∈ vs := by
        rcases List.mem_cons.mp h with z | z
        · exact absurd z e
        · exact z
      rw [List.set_comm _ _ (Ne.symm e), set_wipe ha]
theorem wipe_wipe (σ : L2.St) (vs : List Nat) : wipe (wipe σ vs) vs = wipe σ vs := by
  have key : ∀ (us : List Nat), (∀ u ∈ us, u ∈ vs) → wipe (wipe σ vs) us = wipe σ vs := by
    intro us
    induction us with
    | nil => intro _; rfl
    | cons a us ih =>
      intro h
      show (wipe (wipe σ vs) us).set a none = wipe σ vs
      rw [ih fun u hu => h u (List.mem_cons_of_mem _ hu)]
      exact set_wipe (h a List.mem_cons_self)
  exact key vs fun u hu => hu
/-- what a comprehension's parts are, in its block -/
abbrev Blk (X : Cx) (scope : Scope) (P : Cx → Prop) : Prop := ∀ (s : Shared) (H : Hp) (C : Addr) (cl : List (Str × Addr)) (fp : List Addr), P (X.blk s H scope (compEnvC scope cl C X.env) fp)
section
variable {elt iter : Expr} {ifs : List Expr} {scope : Scope} {own : List (Str × Nat)} {pos : Pos} {ti : DI} {g : DG} {tt : DT} {te : DE}
theorem lc_read {σ : L2.St} {F : Hp} {sd : SD} {Q : VK} {K : Addr → List D → Wd → Prop} {vs : List Nat} (sr : SRel S F σ sd)
    (hfin : ∀ F' W' H' p acc, Ex F F' → Rel S F' W' H' → W' p = some (.lst acc) → K p acc W' → Q (.ref p) H')
    {l : LiD} {J : It} {F1 : Hp} {W1 : Wd} {H1 : Hp} (e1 : Ex F F1) (rl1 : Rel S F1 W1 H1) (io : ItOk S F1 J l) (q1 : ∀ p, W1 p = none → compD p l.ok g tt te (wipeD sd vs) (K p) l.items [] (put W1 p (.lst []))) :
    ∀ p, H1 p = none → ∃ Wx : Nat → Nat → Hp → Prop, (∃ m, Wx 0 m (upd H1 p (.lst []))) ∧ ∀ i m H, Wx i m H →
  (J.stop i H ∧ Q (.ref p) H) ∨ (J.go i H ∧ ∃ Nx : Hp → Prop, (∀ H', Nx H' → ∃ m', m' < m ∧ Wx (i + 1) m' H') ∧ ∀ x H', J.yld i H x H' → upGc S vs g x (wipe σ vs) H' fun σ2 H2 => wipe σ2 vs = wipe σ vs ∧ upT S EF tt σ2 H2 fun b H3 =>
    if b = true then upE S EF te σ2 H3 fun y H4 => ∃ acc, H4 p = some (.lst acc) ∧ acc.length < sizeLine ∧ Nx (upd H4 p (.lst (acc ++ [y]))) else Nx H3) := by
  intro p hp
  have hW1 : W1 p = none := rl1.nw hp
  have R0 : Rel S F1 (put W1 p (.lst [])) (upd H1 p (.lst [])) := rl1.newW (m := .lst []) hp ⟨[], rfl, .nil⟩
  refine ⟨fun i m Hi => ∃ Fi Wi acc, Ex F1 Fi ∧ Rel S Fi Wi Hi ∧ m = l.items.length - i ∧ i ≤ l.items.length ∧ compD p l.ok g tt te (wipeD sd vs) (K p) (l.items.drop i) acc Wi, ⟨_, F1, _, [], Ex.refl _, R0, rfl, Nat.zero_le _, q1 p hW1⟩, ?_⟩
  rintro i m Hi ⟨Fi, Wi, acc, ei, ri, rfl, hi, qi⟩
  have oki := qi.ok
  by_cases hlt : i < l.items.length
  · refine .inr ⟨io.go i Fi Hi Wi hlt ei ri oki, fun H' => ∃ Fi Wi acc, Ex F1 Fi ∧ Rel S Fi Wi H' ∧ compD p l.ok g tt te (wipeD sd vs) (K p) (l.items.drop (i + 1)) acc Wi, fun H' ⟨Fj, Wj, ac, a, b, c⟩ => ⟨l.items.length - (i + 1), by omega, Fj, Wj, ac, a, b, rfl, hlt, c⟩, fun x H' y => ?_⟩
    obtain ⟨F2, d, e2, rl2, hd, px⟩ := io.yl i Fi Hi Wi x H' hlt ei ri oki y
    rw [drop_of hd] at qi
    obtain ⟨_, qi⟩ := qi
    have e12 : Ex F1 F2 := ei.trans e2
    refine ⟨F2, wipeD sd vs, Wi, d, _, rl2, ((sr.mono (e1.trans e12)).wipe vs), px, fun F3 σ3 sd3 W3 H3 e3 rl3 sr3 w3 q3 => ?_, qi⟩
    refine ⟨w3.trans (wipe_wipe σ vs), F3, sd3, W3, _, E2F, rl3, sr3, fun F4 b W4 H4 e4 rl4 q4 => ?_, xcF, q3⟩
    cases b with
    | false => exact ⟨F4, W4, acc, e12.trans (e3.trans e4), rl4, q4⟩
    | true =>
      rw [if_pos rfl] at q4 ⊢
      refine ⟨F4, sd3, W4, _, E2F, rl4, sr3.mono e4, fun F5 v x5 W5 H5 e5 rl5 p5 ⟨h5, hz, q5⟩ => ?_, xcF, q4⟩
      obtain ⟨_, us, ea, ru⟩ := rl5.obj p _ h5
      refine ⟨us, ea, by rw [ru.length, sizeLine_eq]; omega, F5, put W5 p (.lst (acc ++ [x5])), acc ++ [x5], e12.trans (e3.trans (e4.trans e5)), ?_, q5⟩
      exact rl5.set (m := .lst (acc ++ [x5])) h5 ⟨us ++ [v], rfl, ru.append (.cons p5 .nil)⟩
  · have hi2 : i = l.items.length := by omega
    subst hi2
    rw [List.drop_length] at qi
    exact .inl ⟨io.st Fi Hi Wi ei ri oki, hfin Fi Wi Hi p acc (e1.trans ei) ri qi.2.1 qi.2.2⟩
theorem PId.pi (hi : PId X S E tg iter ti) {H F : Hp} {σ : L2.St} {sd : SD} {W : Wd} {Q2 : LiD → Wd → Prop} {E2 : QX} (rl : Rel S F W H) (sr : SRel S F σ sd) (xc : XCv S F E2 E) (h : ti sd W Q2 E2) :
    PI X tg iter (fun σ' H0 R => σ' = σ ∧ H0 = H ∧ ∀ J H', (∃ F' W' l, Ex F F' ∧ Rel S F' W' H' ∧ ItOk S F' J l ∧ Q2 l W') → R J H') := ⟨fun pins' s' σ' H0 R I' q => by
    obtain ⟨rfl, rfl, q⟩ := q
    refine thn (hi.run pins' s' σ' H0 F sd W _ E2 I' rl sr xc h) fun v s1 z => thn z fun itv s2 z => ?_
    obtain ⟨it, fp, tn, J, H', e, I2, T, t0, fo, r⟩ := z
    exact ⟨it, fp, tn, J, H', e, I2, T, t0, fo, q J H' r⟩⟩
theorem pd_lc (hc : X.calm = true) (hN : X.N.Nodup) (hi : PId X S E tg iter ti) (ok : BlkOk X.N X.env.scope scope own)
    (hg : Blk X scope fun Y => PGc Y S (own.map (·.2)) tg g) (ht : Blk X scope fun Y => PTsd Y S EF ifs tt) (he : Blk X scope fun Y => PD Y S EF elt te) (hs : ∀ x, foldedSetIterable iter X.env x = pure x := by intro _; rfl) :
    PD X S E (.ListComp elt [⟨tg, iter, ifs, 0⟩] scope pos) (dLc ti g tt te (own.map (·.2))) := by
  refine ⟨fun pins s σ H F sd W Q2 E2 I rl sr xc h => ?_⟩
  refine thn ((pe_lc (pos := pos) hc hN (hi.pi rl sr xc h) ok (fun s H C cl fp => (hg s H C cl fp).pg) (fun s H C cl fp => (ht s H C cl fp).pts) (fun s H C cl fp => (he s H C cl fp).pe) hs).run pins s σ H (tkQ S F Q2) I ⟨rfl, rfl, fun J H1 ⟨F1, W1, l, e1, rl1, io, q1⟩ => ?_⟩) fun u s' z => EP.tk z
  refine lc_read (K := fun p acc W2 => Q2 (.lst acc) (cut W2 p)) sr (fun F' W' H' p acc e r hw q => ?_) e1 rl1 io q1
  obtain ⟨F2, e2, r2, p2⟩ := r.frz hw
  exact tkQ_of (e.trans e2) r2 p2 q
theorem pd_lcM (hc : X.calm = true) (hN : X.N.Nodup) (hi : PId X S E tg iter ti) (ok : BlkOk X.N X.env.scope scope own)
    (hg : Blk X scope fun Y => PGc Y S (own.map (·.2)) tg g) (ht : Blk X scope fun Y => PTsd Y S EF ifs tt) (he : Blk X scope fun Y => PD Y S EF elt te) (hs : ∀ x, foldedSetIterable iter X.env x = pure x := by intro _; rfl) :
    PD X S E (.ListComp elt [⟨tg, iter, ifs, 0⟩] scope pos) (dLcM ti g tt te (own.map (·.2))) := by
  refine ⟨fun pins s σ H F sd W Q2 E2 I rl sr xc h => ?_⟩
  refine thn ((pe_lc (pos := pos) hc hN (hi.pi rl sr xc h) ok (fun s H C cl fp => (hg s H C cl fp).pg) (fun s H C cl fp => (ht s H C cl fp).pts) (fun s H C cl fp => (he s H C cl fp).pe) hs).run pins s σ H (tkQ S F Q2) I ⟨rfl, rfl, fun J H1 ⟨F1, W1, l, e1, rl1, io, q1⟩ => ?_⟩) fun u s' z => EP.tk z
  exact lc_read (K := fun p acc W2 => Q2 (.ptr p) W2) sr (fun F' W' H' p acc e r hw q => tkQ_of e r (.ptr p) q) e1 rl1 io q1
/-- name = [..] on one line -/
theorem psd_setLc {i : Nat} {y : Str} {py spos : Pos} (hc : X.calm = true) (hN : X.N.Nodup) (hsw : swapsWith (.ListComp elt [⟨tg, iter, ifs, 0⟩] scope pos) (some (.Name y py)) spos.line X.env = pure true) (hi : PId X S E tg iter ti) (ok : BlkOk X.N X.env.scope scope own)
    (hg : Blk X scope fun Y => PGc Y S (own.map (·.2)) tg g) (ht : Blk X scope fun Y => PTsd Y S EF ifs tt) (he : Blk X scope fun Y => PD Y S EF elt te) (hy : X.N[i]? = some y := by rfl) (hyl : X.env.scope.names.lookup y = some .local := by rfl) (hs : ∀ x, foldedSetIterable iter X.env x = pure x := by intro _; rfl) :
    PSd X S E (.Assign [.Name y py] (.ListComp elt [⟨tg, iter, ifs, 0⟩] scope pos) spos) (dAsg (dLc ti g tt te (own.map (·.2))) (gN i)) := by
  refine ⟨fun pins s σ H F sd W D2 E2 I rl sr xc h => ?_⟩
  refine thn ((ps_setLc hc hN hy hyl hsw (hi.pi rl sr xc h) ok (fun s H C cl fp => (hg s H C cl fp).pg) (fun s H C cl fp => (ht s H C cl fp).pts) (fun s H C cl fp => (he s H C cl fp).pe) hs).run pins s σ H (tkE S F D2) I ⟨rfl, rfl, fun J H1 ⟨F1, W1, l, e1, rl1, io, q1⟩ => ?_⟩) fun u s' z => SP.tk z
  refine lc_read (Q := fun x H1 => gName i x σ H1 (tkE S F D2).nx) (K := fun p acc W2 => D2.nx (sd.set i (some (.lst acc))) (cut W2 p)) sr (fun F' W' H' p acc e r hw q => ?_) e1 rl1 io q1
  obtain ⟨F2, e2, r2, p2⟩ := r.frz hw
  exact ⟨F2, _, _, e.trans e2, r2, (sr.mono (e.trans e2)).set p2, q⟩
theorem psd_setLcM {i : Nat} {y : Str} {py spos : Pos} (hc : X.calm = true) (hN : X.N.Nodup) (hsw : swapsWith (.ListComp elt [⟨tg, iter, ifs, 0⟩] scope pos) (some (.Name y py)) spos.line X.env = pure true) (hi : PId X S E tg iter ti) (ok : BlkOk X.N X.env.scope scope own)
    (hg : Blk X scope fun Y => PGc Y S (own.map (·.2)) tg g) (ht : Blk X scope fun Y => PTsd Y S EF ifs tt) (he : Blk X scope fun Y => PD Y S EF elt te) (hy : X.N[i]? = some y := by rfl) (hyl : X.env.scope.names.lookup y = some .local := by rfl) (hs : ∀ x, foldedSetIterable iter X.env x = pure x := by intro _; rfl) :
    PSd X S E (.Assign [.Name y py] (.ListComp elt [⟨tg, iter, ifs, 0⟩] scope pos) spos) (dAsg (dLcM ti g tt te (own.map (·.2))) (gN i)) := by
  refine ⟨fun pins s σ H F sd W D2 E2 I rl sr xc h => ?_⟩
  refine thn ((ps_setLc hc hN hy hyl hsw (hi.pi rl sr xc h) ok (fun s H C cl fp => (hg s H C cl fp).pg) (fun s H C cl fp => (ht s H C cl fp).pts) (fun s H C cl fp => (he s H C cl fp).pe) hs).run pins s σ H (tkE S F D2) I ⟨rfl, rfl, fun J H1 ⟨F1, W1, l, e1, rl1, io, q1⟩ => ?_⟩) fun u s' z => SP.tk z
  exact lc_read (Q := fun x H1 => gName i x σ H1 (tkE S F D2).nx) (K := fun p acc W2 => D2.nx (sd.set i (some (.ptr p))) W2) sr (fun F' W' H' p acc e r hw q => ⟨F', _, _, e, r, (sr.mono e).set (.ptr p), q⟩) e1 rl1 io q1
end
end
end Mv
end
section
set_option Elab.async false
set_option linter.all false
set_option maxRecDepth 100000
set_option maxHeartbeats 4000000
namespace Mv
open PySem PySem.SeqAt
open AutoSeq1 (wpAny_loadPart')
open MeetsSeq MeetsSeq2 MeetsSeq3 SeqRoads2
open GQ (FinOf call_here)
section
variable {prog : Program} {w : World} {A : Around} {R : Result → Shared → Prop}
/-- at each turn the two lists are read anew: N items each; the i-th two are compared -/
def ListJ (prog : Program) (w : World) (A : Around) (E : Value → Shared → Prop) (l b : Addr) (N : Nat) (I : Nat → Shared → Prop) (J : Shared → Prop) : Prop :=
  ∀ i s, I i s → ∃ (items items2 : Array Value) (n n2 : Nat), s.heap.get? l = some { cls := .type "list", data := .seq items n } ∧ s.heap.get? b = some { cls := .type "list", data := .seq items2 n2 } ∧ items.size = N ∧ items2.size = N ∧
    ∀ (h1 : i < items.size) (h2 : i < items2.size), wpAny (model prog w) A.in1 (eqBool items[i] items2[i]) (fun r s' => (r = true ∧ I (i + 1) s') ∨ (r = false ∧ I i s' ∧ J s')) E s
theorem eq_loopJ (l b : Addr) (N : Nat) (I : Nat → Shared → Prop) (J : Shared → Prop) (hl : ListJ prog w A (fun e s' => R (.error e) s') l b N I J)
    (fin : ∀ s, I N s → R (.ok (.ret (.bool true))) s) (fin0 : ∀ s, J s → R (.ok (.ret (.bool false))) s) (k : Nat) :
    ∀ i : Nat, N - i = k → i ≤ N → ∀ s, I i s →
      wpAny (model prog w) A.in1 (Builtin.«list.__eq__.loop» ⟨[.ref l, .ref b, rawInt i, rawInt 2], []⟩) (FinOf prog w A R) (fun e s' => R (.error e) s') s := by
  induction k with
  | zero =>
    intro i hk hi s h
    obtain ⟨items, items2, n, n2, hl1, hb1, hs1, hs2, _⟩ := hl _ _ h
    have hi' : i = N := by omega
    have hR : R (.ok (.ret (.bool true))) s := fin s (hi' ▸ h)
    obtain ⟨hp, g, d, tk, os⟩ := s
    wp_walk using wpAny_loadPart' hl1, wpAny_loadPart' hb1
    have hi1 : items[((i : Nat) : Int).toNat]? = none := by simp; omega
    have hi2 : items2[((i : Nat) : Int).toNat]? = none := by simp; omega
    rw [hi1, hi2]
    wp_walk using wpAny_loadPart' hl1, wpAny_loadPart' hb1
    show R (.ok (.ret (.bool (items.size == items2.size)))) _
    rw [hs1, hs2]
    simpa using hR
  | succ k ih =>
    intro i hk hi s h
    obtain ⟨items, items2, n, n2, hl1, hb1, hs1, hs2, turn⟩ := hl _ _ h
    have hlt : i < items.size := by omega
    have hlt2 : i < items2.size := by omega
    have ht := turn hlt hlt2
    obtain ⟨hp, g, d, tk, os⟩ := s
    wp_walk using wpAny_loadPart' hl1, wpAny_loadPart' hb1
    have hi1 : items[((i : Nat) : Int).toNat]? = some items[i] := by simp [hlt]
    have hi2 : items2[((i : Nat) : Int).toNat]? = some items2[i] := by simp [hlt2]
    have hc : ((i : Int) + 1) = ((i + 1 : Nat) : Int) := by omega
    rw [hi1, hi2]
    refine wpAny_bind (wpAny_mono ht (fun r s2 h2 => ?_) fun _ _ x => x)
    rcases h2 with ⟨hr, h2⟩ | ⟨hr, h2, hj⟩
    · subst hr
      have hrec := ih (i + 1) (by omega) (by omega) s2 h2
      obtain ⟨hp2, g2, d2, tk2, os2⟩ := s2
      wp_walk
      rw [hc]
      exact ⟨plainId_quiet plain_eq_loop _, codeAny_builtin entry_eq_loop (by
        rw [Around.under_plainId plain_eq_loop _]
        exact hrec)⟩
    · subst hr
      obtain ⟨items3, items4, n3, n4, hl3, hb3, hs3, hs4, _⟩ := hl _ _ h2
      have hf := fin0 s2 hj
      obtain ⟨hp2, g2, d2, tk2, os2⟩ := s2
      wp_walk using wpAny_loadPart' hl3, wpAny_loadPart' hb3
      have e3 : items3[((i : Nat) : Int).toNat]? = some (items3[i]'(by omega)) := by simp
      have e4 : items4[((i : Nat) : Int).toNat]? = some (items4[i]'(by omega)) := by simp
      rw [e3, e4]
      wp_walk
      exact hf
theorem ne_loopJ (l b : Addr) (N : Nat) (I : Nat → Shared → Prop) (J : Shared → Prop) (hl : ListJ prog w A (fun e s' => R (.error e) s') l b N I J)
    (fin : ∀ s, I N s → R (.ok (.ret (.bool false))) s) (fin0 : ∀ s, J s → R (.ok (.ret (.bool true))) s) (k : Nat) :
    ∀ i : Nat, N - i = k → i ≤ N → ∀ s, I i s →
      wpAny (model prog w) A.in1 (Builtin.«list.__eq__.loop» ⟨[.ref l, .ref b, rawInt i, rawInt 3], []⟩) (FinOf prog w A R) (fun e s' => R (.error e) s') s := by
  induction k with
  | zero =>
    intro i hk hi s h
    obtain ⟨items, items2, n, n2, hl1, hb1, hs1, hs2, _⟩ := hl _ _ h
    have hi' : i = N := by omega
    have hR : R (.ok (.ret (.bool false))) s := fin s (hi' ▸ h)
    obtain ⟨hp, g, d, tk, os⟩ := s
    wp_walk using wpAny_loadPart' hl1, wpAny_loadPart' hb1
    have hi1 : items[((i : Nat) : Int).toNat]? = none := by simp; omega
    have hi2 : items2[((i : Nat) : Int).toNat]? = none := by simp; omega
    rw [hi1, hi2]
    wp_walk using wpAny_loadPart' hl1, wpAny_loadPart' hb1
    show R (.ok (.ret (.bool (items.size != items2.size)))) _
    rw [hs1, hs2]
    simpa using hR
  | succ k ih =>
    intro i hk hi s h
    obtain ⟨items, items2, n, n2, hl1, hb1, hs1, hs2, turn⟩ := hl _ _ h
    have hlt : i < items.size := by omega
    have hlt2 : i < items2.size := by omega
    have ht := turn hlt hlt2
    obtain ⟨hp, g, d, tk, os⟩ := s
    wp_walk using wpAny_loadPart' hl1, wpAny_loadPart' hb1
    have hi1 : items[((i : Nat) : Int).toNat]? = some items[i] := by simp [hlt]
    have hi2 : items2[((i : Nat) : Int).toNat]? = some items2[i] := by simp [hlt2]
    have hc : ((i : Int) + 1) = ((i + 1 : Nat) : Int) := by omega
    rw [hi1, hi2]
    refine wpAny_bind (wpAny_mono ht (fun r s2 h2 => ?_) fun _ _ x => x)
    rcases h2 with ⟨hr, h2⟩ | ⟨hr, h2, hj⟩
    · subst hr
      have hrec := ih (i + 1) (by omega) (by omega) s2 h2
      obtain ⟨hp2, g2, d2, tk2, os2⟩ := s2
      wp_walk
      rw [hc]
      exact ⟨plainId_quiet plain_eq_loop _, codeAny_builtin entry_eq_loop (by
        rw [Around.under_plainId plain_eq_loop _]
        exact hrec)⟩
    · subst hr
      obtain ⟨items3, items4, n3, n4, hl3, hb3, hs3, hs4, _⟩ := hl _ _ h2
      have hf := fin0 s2 hj
      obtain ⟨hp2, g2, d2, tk2, os2⟩ := s2
      wp_walk using wpAny_loadPart' hl3, wpAny_loadPart' hb3
      have e3 : items3[((i : Nat) : Int).toNat]? = some (items3[i]'(by omega)) := by simp
      have e4 : items4[((i : Nat) : Int).toNat]? = some (items4[i]'(by omega)) := by simp
      rw [e3, e4]
      wp_walk
      exact hf
theorem list_eqJ (l b : Addr) (N : Nat) (I : Nat → Shared → Prop) (J : Shared → Prop) (hl : ListJ prog w A (fun e s' => R (.error e) s') l b N I J)
    (fin : ∀ s, I N s → R (.ok (.ret (.bool true))) s) (fin0 : ∀ s, J s → R (.ok (.ret (.bool false))) s) {s : Shared} (h : I 0 s) :
    wpAny (model prog w) A.in1 (Builtin.«list.__eq__» ⟨[.ref l, .ref b], []⟩) (FinOf prog w A R) (fun e s' => R (.error e) s') s := by
  obtain ⟨items, items2, n, n2, hl1, hb1, hs1, hs2, _⟩ := hl _ _ h
  have hrec := eq_loopJ (A := A) (R := R) l b N I J hl fin fin0 _ 0 rfl (Nat.zero_le _) s h
  obtain ⟨hp, g, d, tk, os⟩ := s
  have f3 := AutoSeq1.sub_list_list
  have hne : ¬ (items.size != items2.size) = true := by simp [hs1, hs2]
  wp_walk using wpAny_loadPart' hl1, wpAny_loadPart' hb1
  exact ⟨plainId_quiet plain_eq_loop _, codeAny_builtin entry_eq_loop (by
    rw [Around.under_plainId plain_eq_loop _]
    exact hrec)⟩
theorem list_neJ (l b : Addr) (N : Nat) (I : Nat → Shared → Prop) (J : Shared → Prop) (hl : ListJ prog w A (fun e s' => R (.error e) s') l b N I J)
    (fin : ∀ s, I N s → R (.ok (.ret (.bool false))) s) (fin0 : ∀ s, J s → R (.ok (.ret (.bool true))) s) {s : Shared} (h : I 0 s) :
    wpAny (model prog w) A.in1 (Builtin.«list.__ne__» ⟨[.ref l, .ref b], []⟩) (FinOf prog w A R) (fun e s' => R (.error e) s') s := by
  obtain ⟨items, items2, n, n2, hl1, hb1, hs1, hs2, _⟩ := hl _ _ h
  have hrec := ne_loopJ (A := A) (R := R) l b N I J hl fin fin0 _ 0 rfl (Nat.zero_le _) s h
  obtain ⟨hp, g, d, tk, os⟩ := s
  have f3 := AutoSeq1.sub_list_list
  have hne : ¬ (items.size != items2.size) = true := by simp [hs1, hs2]
  wp_walk using wpAny_loadPart' hl1, wpAny_loadPart' hb1
  exact ⟨plainId_quiet plain_eq_loop _, codeAny_builtin entry_eq_loop (by
    rw [Around.under_plainId plain_eq_loop _]
    exact hrec)⟩
/-- lengths that differ -/
theorem list_eqZ {l b : Addr} {items items2 : Array Value} {n n2 : Nat} {s : Shared} (hl1 : s.heap.get? l = some { cls := .type "list", data := .seq items n }) (hb1 : s.heap.get? b = some { cls := .type "list", data := .seq items2 n2 }) (hz : items.size ≠ items2.size)
    (fin0 : R (.ok (.ret (.bool false))) s) : wpAny (model prog w) A.in1 (Builtin.«list.__eq__» ⟨[.ref l, .ref b], []⟩) (FinOf prog w A R) (fun e s' => R (.error e) s') s := by
  obtain ⟨hp, g, d, tk, os⟩ := s
  have f3 := AutoSeq1.sub_list_list
  have hne : (items.size != items2.size) = true := by simp [hz]
  wp_walk using wpAny_loadPart' hl1, wpAny_loadPart' hb1
  exact fin0
theorem list_neZ {l b : Addr} {items items2 : Array Value} {n n2 : Nat} {s : Shared} (hl1 : s.heap.get? l = some { cls := .type "list", data := .seq items n }) (hb1 : s.heap.get? b = some { cls := .type "list", data := .seq items2 n2 }) (hz : items.size ≠ items2.size)
    (fin0 : R (.ok (.ret (.bool true))) s) : wpAny (model prog w) A.in1 (Builtin.«list.__ne__» ⟨[.ref l, .ref b], []⟩) (FinOf prog w A R) (fun e s' => R (.error e) s') s := by
  obtain ⟨hp, g, d, tk, os⟩ := s
  have f3 := AutoSeq1.sub_list_list
  have hne : (items.size != items2.size) = true := by simp [hz]
  wp_walk using wpAny_loadPart' hl1, wpAny_loadPart' hb1
  exact fin0
end
end Mv
end
section
set_option Elab.async false
set_option linter.all false
set_option maxRecDepth 100000
set_option maxHeartbeats 4000000
namespace Mv
open PySem PySem.SeqAt
open AutoSeq1 (wpAny_loadPart')
open MeetsSeq MeetsSeq2 MeetsSeq3 SeqRoads2
open GQ (FinOf call_here)
section
variable {prog : Program} {w : World} {A : Around} {R : Result → Shared → Prop}
theorem tuple_eqJ (l b : Addr) (items items2 : Array Value) (n n2 : Nat) (dd dd2 : Option Addr) (sl sl2 : Array (Option Value)) (I : Nat → Shared → Prop) (J : Shared → Prop)
    (turn : ∀ i (h1 : i < items.size) (h2 : i < items2.size) s, I i s → wpAny (model prog w) A.in1 (eqBool items[i] items2[i]) (fun r s' => (r = true ∧ I (i + 1) s') ∨ (r = false ∧ J s')) (fun e s' => R (.error e) s') s)
    (fin : ∀ s, I (min items.size items2.size) s → R (.ok (.ret (.bool (items.size == items2.size)))) s) (fin0 : ∀ s, J s → R (.ok (.ret (.bool false))) s)
    {s : Shared} (hl1 : s.heap.get? l = some { cls := .type "tuple", dict := dd, data := .seq items n, slots := sl }) (hb1 : s.heap.get? b = some { cls := .type "tuple", dict := dd2, data := .seq items2 n2, slots := sl2 }) (h : I 0 s) :
    wpAny (model prog w) A.in1 (Builtin.«tuple.__eq__» ⟨[.ref l, .ref b], []⟩) (FinOf prog w A R) (fun e s' => R (.error e) s') s := by
  have f2 := AutoSeq1.sub_tuple_tuple
  have hZ : (items.toList.zip items2.toList).length = min items.size items2.size := by simp
  have h0 := h
  obtain ⟨hp, g, d, tk, os⟩ := s
  wp_walk using wpAny_loadPart' hl1, wpAny_loadPart' hb1, wpAny_forIn_list _ (fun rest b s' => (b.1 = none ∧ ∃ i, rest = (items.toList.zip items2.toList).drop i ∧ i ≤ min items.size items2.size ∧ I i s')) _
  case turn =>
    rintro ⟨y, x⟩ rest b s' ⟨hb', i, hz, hi, hI⟩
    have hlt : i < (items.toList.zip items2.toList).length := by
      rcases Nat.lt_or_ge i (items.toList.zip items2.toList).length with h' | h'
      · exact h'
      · rw [List.drop_of_length_le h'] at hz; cases hz
    have h1 : i < items.size := by omega
    have h2 : i < items2.size := by omega
    rw [List.drop_eq_getElem_cons hlt] at hz
    injection hz with hyx hrest
    have hy : y = items[i] := by have := congrArg Prod.fst hyx; simpa using this
    have hx : x = items2[i] := by have := congrArg Prod.snd hyx; simpa using this
    subst hy hx
    refine wpAny_bind (wpAny_mono (turn i h1 h2 s' hI) (fun r s2 q2 => ?_) fun _ _ x => x)
    rcases q2 with ⟨hr, q2⟩ | ⟨hr, q2⟩
    · subst hr
      wp_walk
      exact ⟨rfl, i + 1, hrest, by omega, q2⟩
    · subst hr
      wp_walk
      exact fin0 s2 q2
  case fin =>
    rintro ⟨b1, b2⟩ s' ⟨hb', i, hz, hi, hI⟩
    simp only at hb'
    subst hb'
    have hge : min items.size items2.size ≤ i := by
      rcases Nat.lt_or_ge i (items.toList.zip items2.toList).length with h' | h'
      · rw [List.drop_eq_getElem_cons h'] at hz; cases hz
      · exact hZ ▸ h'
    have hi' : i = min items.size items2.size := by omega
    have hR := fin s' (hi' ▸ hI)
    wp_walk
    simpa [Builtin.Tuple.tupleCompareSizes] using hR
  case h =>
    exact ⟨rfl, 0, rfl, Nat.zero_le _, h0⟩
theorem tuple_neJ (l b : Addr) (items items2 : Array Value) (n n2 : Nat) (dd dd2 : Option Addr) (sl sl2 : Array (Option Value)) (I : Nat → Shared → Prop) (J : Shared → Prop)
    (turn : ∀ i (h1 : i < items.size) (h2 : i < items2.size) s, I i s → wpAny (model prog w) A.in1 (eqBool items[i] items2[i]) (fun r s' => (r = true ∧ I (i + 1) s') ∨ (r = false ∧ J s')) (fun e s' => R (.error e) s') s)
    (fin : ∀ s, I (min items.size items2.size) s → R (.ok (.ret (.bool (items.size != items2.size)))) s) (fin0 : ∀ s, J s → R (.ok (.ret (.bool true))) s)
    {s : Shared} (hl1 : s.heap.get? l = some { cls := .type "tuple", dict := dd, data := .seq items n, slots := sl }) (hb1 : s.heap.get? b = some { cls := .type "tuple", dict := dd2, data := .seq items2 n2, slots := sl2 }) (h : I 0 s) :
    wpAny (model prog w) A.in1 (Builtin.«tuple.__ne__» ⟨[.ref l, .ref b], []⟩) (FinOf prog w A R) (fun e s' => R (.error e) s') s := by
  have f2 := AutoSeq1.sub_tuple_tuple
  have hZ : (items.toList.zip items2.toList).length = min items.size items2.size := by simp
  have h0 := h
  obtain ⟨hp, g, d, tk, os⟩ := s
  wp_walk using wpAny_loadPart' hl1, wpAny_loadPart' hb1, wpAny_forIn_list _ (fun rest b s' => (b.1 = none ∧ ∃ i, rest = (items.toList.zip items2.toList).drop i ∧ i ≤ min items.size items2.size ∧ I i s')) _
  case turn =>
    rintro ⟨y, x⟩ rest b s' ⟨hb', i, hz, hi, hI⟩
    have hlt : i < (items.toList.zip items2.toList).length := by
      rcases Nat.lt_or_ge i (items.toList.zip items2.toList).length with h' | h'
      · exact h'
      · rw [List.drop_of_length_le h'] at hz; cases hz
    have h1 : i < items.size := by omega
    have h2 : i < items2.size := by omega
    rw [List.drop_eq_getElem_cons hlt] at hz
    injection hz with hyx hrest
    have hy : y = items[i] := by have := congrArg Prod.fst hyx; simpa using this
    have hx : x = items2[i] := by have := congrArg Prod.snd hyx; simpa using this
    subst hy hx
    refine wpAny_bind (wpAny_mono (turn i h1 h2 s' hI) (fun r s2 q2 => ?_) fun _ _ x => x)
    rcases q2 with ⟨hr, q2⟩ | ⟨hr, q2⟩
    · subst hr
      wp_walk
      exact ⟨rfl, i + 1, hrest, by omega, q2⟩
    · subst hr
      wp_walk
      exact fin0 s2 q2
  case fin =>
    rintro ⟨b1, b2⟩ s' ⟨hb', i, hz, hi, hI⟩
    simp only at hb'
    subst hb'
    have hge : min items.size items2.size ≤ i := by
      rcases Nat.lt_or_ge i (items.toList.zip items2.toList).length with h' | h'
      · rw [List.drop_eq_getElem_cons h'] at hz; cases hz
      · exact hZ ▸ h'
    have hi' : i = min items.size items2.size := by omega
    have hR := fin s' (hi' ▸ hI)
    wp_walk
    simpa [Builtin.Tuple.tupleCompareSizes] using hR
  case h =>
    exact ⟨rfl, 0, rfl, Nat.zero_le _, h0⟩
end
end Mv
end
section
set_option Elab.async false
set_option linter.all false
set_option maxRecDepth 100000
set_option maxHeartbeats 4000000
namespace Mv
open PySem PySem.Spec L2
open Evl (Ex ex_l ex_t ex_rd)

/-! ## == over data -/
/-- own classes' == as functions: the class, the two -/
abbrev EqI := Nat → D → D → Option Bool
def flatO : D → D → Option Bool
  | .non, .non => some true
  | .non, .bl _ => some false
  | .non, .int _ => some false
  | .non, .str _ => some false
  | .bl _, .non => some false
  | .bl a, .bl b => some (a == b)
  | .bl a, .int b => some ((if a then 1 else 0) == b)
  | .bl _, .str _ => some false
  | .int _, .non => some false
  | .int a, .bl b => some (a == (if b then 1 else 0))
  | .int a, .int b => some (a == b)
  | .int _, .str _ => some false
  | .str _, .non => some false
  | .str _, .bl _ => some false
  | .str _, .int _ => some false
  | .str a, .str b => some (a == b)
  | _, _ => none
/-- what an own == may stand against -/
def ownR : D → Bool
  | .ptr _ => false
  | .ty _ => false
  | .exn _ _ => false
  | .frl _ => false
  | .dK _ => false
  | .dT _ => false
  | _ => true
mutual
def eqD (q : EqI) : D → D → Option Bool
  | .ins n fs, d => if ownR d = true then q n (.ins n fs) d else none
  | .tup cs, d => (match d with
    | .tup ds => eqDs q cs ds
    | .lst _ => some false
    | .non => some false
    | .bl _ => some false
    | .int _ => some false
    | .str _ => some false
    | .ins n fs => q n (.ins n fs) (.tup cs)
    | _ => none)
  | .lst cs, d => (match d with
    | .lst ds => if cs.length = ds.length then eqDs q cs ds else some false
    | .tup _ => some false
    | .non => some false
    | .bl _ => some false
    | .int _ => some false
    | .str _ => some false
    | .ins n fs => q n (.ins n fs) (.lst cs)
    | _ => none)
  | c, d => (match c, d with
    | .int i, .ins n fs => q n (.ins n fs) (.int i)
    | .non, .ins n fs => q n (.ins n fs) .non
    | .bl b, .ins n fs => q n (.ins n fs) (.bl b)
    | .str z, .ins n fs => q n (.ins n fs) (.str z)
    | .non, .tup _ => some false
    | .non, .lst _ => some false
    | .bl _, .tup _ => some false
    | .bl _, .lst _ => some false
    | .int _, .tup _ => some false
    | .int _, .lst _ => some false
    | .str _, .tup _ => some false
    | .str _, .lst _ => some false
    | c, d => flatO c d)
def eqDs (q : EqI) : List D → List D → Option Bool
  | [], [] => some true
  | c :: cs, d :: ds => (match eqD q c d with
    | some true => eqDs q cs ds
    | some false => some false
    | none => none)
  | _, _ => some false
end
mutual
def D.dp : D → Nat
  | .tup ds => dps ds + 1
  | .lst ds => dps ds + 1
  | _ => 0
def dps : List D → Nat
  | [] => 0
  | d :: ds => max d.dp (dps ds)
end
mutual
def D.pf : D → Bool
  | .ptr _ => false
  | .ty _ => false
  | .exn _ _ => false
  | .frl _ => false
  | .lam _ _ _ _ => false
  | .tup ds => pfs ds
  | .lst ds => pfs ds
  | .dK kvs => pfk kvs
  | .dT kvs => pft kvs
  | .ins _ fs => pff fs
  | _ => true
def pfs : List D → Bool
  | [] => true
  | d :: ds => d.pf && pfs ds
def pfk : List (Key × D) → Bool
  | [] => true
  | (_, d) :: ds => d.pf && pfk ds
def pft : List (List Key × D) → Bool
  | [] => true
  | (_, d) :: ds => d.pf && pft ds
def pff : List (Nat × D) → Bool
  | [] => true
  | (_, d) :: ds => d.pf && pff ds
end
section
variable {X : Cx} {S : Sy} {pins : List (Addr × Obj)} {σ : L2.St} {H F : Hp} {s : Shared} {W : Wd}
theorem not_both (I : Inv X pins σ H s) {a : Addr} {xs ys : List V} (h : SqT X.K H a xs) (h' : SqL X.K H a ys) : False := by
  obtain ⟨_, _, ⟨o, e, c, _⟩, _⟩ := I.tuple h
  obtain ⟨_, _, ⟨o', n', e', c', _⟩, _⟩ := I.list h'
  rw [e] at e'
  cases e'
  rw [c] at c'
  exact absurd (Value.type.inj c') (by decide)
theorem tup_not (I : Inv X pins σ H s) {a : Addr} {xs : List V} (h : SqT X.K H a xs) : (∀ kvs, H a ≠ some (.dK kvs)) ∧ (∀ kvs, H a ≠ some (.dT kvs)) ∧ ∀ C dx fs, H a ≠ some (.ins C dx fs) := by
  obtain ⟨_, _, ⟨o, e, c, _⟩, _⟩ := I.tuple h
  refine ⟨fun kvs q => ?_, fun kvs q => ?_, fun C dx fs q => ?_⟩
  · obtain ⟨_, _, vs, _, o', es, ep, e', hx, _⟩ := (show ObjOk X.prog X.w H s.heap a (.dK kvs) from I.hok a _ q)
    rw [e] at e'
    cases e'
    have := hx.1
    rw [c] at this
    exact absurd (Value.type.inj this) (by decide)
  · obtain ⟨_, _, xs, _, o', es, ep, e', hx, _⟩ := (show ObjOk X.prog X.w H s.heap a (.dT kvs) from I.hok a _ q)
    rw [e] at e'
    cases e'
    have := hx.1
    rw [c] at this
    exact absurd (Value.type.inj this) (by decide)
  · obtain ⟨_, _, _, e', _⟩ := (show ObjOk X.prog X.w H s.heap a (.ins C dx fs) from I.hok a _ q)
    rw [e] at e'
    cases e'
    cases c
theorem lst_not (I : Inv X pins σ H s) {a : Addr} {xs : List V} (h : SqL X.K H a xs) : (∀ kvs, H a ≠ some (.dK kvs)) ∧ (∀ kvs, H a ≠ some (.dT kvs)) ∧ ∀ C dx fs, H a ≠ some (.ins C dx fs) := by
  obtain ⟨_, _, ⟨o, n, e, c, _⟩, _⟩ := I.list h
  refine ⟨fun kvs q => ?_, fun kvs q => ?_, fun C dx fs q => ?_⟩
  · obtain ⟨_, _, vs, _, o', es, ep, e', hx, _⟩ := (show ObjOk X.prog X.w H s.heap a (.dK kvs) from I.hok a _ q)
    rw [e] at e'
    cases e'
    have := hx.1
    rw [c] at this
    exact absurd (Value.type.inj this) (by decide)
  · obtain ⟨_, _, xs, _, o', es, ep, e', hx, _⟩ := (show ObjOk X.prog X.w H s.heap a (.dT kvs) from I.hok a _ q)
    rw [e] at e'
    cases e'
    have := hx.1
    rw [c] at this
    exact absurd (Value.type.inj this) (by decide)
  · obtain ⟨_, _, _, e', _⟩ := (show ObjOk X.prog X.w H s.heap a (.ins C dx fs) from I.hok a _ q)
    rw [e] at e'
    cases e'
    cases c
end
section
variable {X : Cx} {S : Sy} {pins : List (Addr × Obj)} {σ : L2.St} {H F : Hp} {s : Shared} {W : Wd}
mutual
/-- a value stands for one datum -/
theorem Rp.fn (hK : X.K = S.K) (I : Inv X pins σ H s) (e : Ex F H) : ∀ {v : V} {c d : D}, Rp S F v c → Rp S F v d → c.pf = true → d.pf = true → c = d
  | _, _, _, .non, h, _, q => by cases h; rfl
  | _, _, _, .bl b, h, _, q => by cases h; rfl
  | _, _, _, .int b, h, _, q => by cases h; rfl
  | _, _, _, .str b, h, _, q => by cases h; rfl
  | _, _, _, .ty b, h, p, q => by simp [D.pf] at p
  | _, _, _, .ptr b, h, p, q => by simp [D.pf] at p
  | _, _, _, .frl _ _, h, p, q => by simp [D.pf] at p
  | _, _, _, .exn _ _ _, h, p, q => by simp [D.pf] at p
  | _, _, _, .lam _ _, h, p, q => by simp [D.pf] at p
  | _, _, _, .tup (a := a) (vs := vs) h1 r1, h, p, q => by
    have k1 : SqT X.K H a vs := by rw [hK]; exact ex_t e h1
    cases h with
    | ptr => simp [D.pf] at q
    | frl => simp [D.pf] at q
    | exn => simp [D.pf] at q
    | lam => simp [D.pf] at q
    | @tup _ vs2 _ h2 r2 =>
      have k2 : SqT X.K H a vs2 := by rw [hK]; exact ex_t e h2
      have z := I.tuple_inj k1 k2
      subst z
      rw [Rps.fn hK I e r1 r2 (by simpa [D.pf] using p) (by simpa [D.pf] using q)]
    | lst h2 r2 => exact (not_both I k1 (SqL.of (e _ _ h2))).elim
    | dK h2 _ => exact ((tup_not I k1).1 _ (e _ _ h2)).elim
    | dT h2 _ => exact ((tup_not I k1).2.1 _ (e _ _ h2)).elim
    | ins h2 _ => exact ((tup_not I k1).2.2 _ _ _ (e _ _ h2)).elim
  | _, _, _, .lst (a := a) (vs := vs) h1 r1, h, p, q => by
    have k1 : SqL X.K H a vs := SqL.of (e _ _ h1)
    cases h with
    | ptr => simp [D.pf] at q
    | frl => simp [D.pf] at q
    | exn => simp [D.pf] at q
    | lam => simp [D.pf] at q
    | @lst _ vs2 _ h2 r2 =>
      have k2 : SqL X.K H a vs2 := SqL.of (e _ _ h2)
      have z := I.list_inj k1 k2
      subst z
      rw [Rps.fn hK I e r1 r2 (by simpa [D.pf] using p) (by simpa [D.pf] using q)]
    | tup h2 r2 => exact (not_both I (by rw [hK]; exact ex_t e h2) k1).elim
    | dK h2 _ => exact ((lst_not I k1).1 _ (e _ _ h2)).elim
    | dT h2 _ => exact ((lst_not I k1).2.1 _ (e _ _ h2)).elim
    | ins h2 _ => exact ((lst_not I k1).2.2 _ _ _ (e _ _ h2)).elim
  | _, _, _, .dK h1 r1, h, p, q => by
    cases h with
    | ptr => simp [D.pf] at q
    | frl => simp [D.pf] at q
    | exn => simp [D.pf] at q
    | lam => simp [D.pf] at q
    | lst h2 r2 => exact ((lst_not I (SqL.of (e _ _ h2))).1 _ (e _ _ h1)).elim
    | tup h2 r2 => exact ((tup_not I (by rw [hK]; exact ex_t e h2)).1 _ (e _ _ h1)).elim
    | dK h2 r2 =>
      rw [h1] at h2
      cases h2
      rw [Rpk.fn hK I e r1 r2 (by simpa [D.pf] using p) (by simpa [D.pf] using q)]
    | dT h2 _ => rw [h1] at h2; cases h2
    | ins h2 _ => rw [h1] at h2; cases h2
  | _, _, _, .dT h1 r1, h, p, q => by
    cases h with
    | ptr => simp [D.pf] at q
    | frl => simp [D.pf] at q
    | exn => simp [D.pf] at q
    | lam => simp [D.pf] at q
    | lst h2 r2 => exact ((lst_not I (SqL.of (e _ _ h2))).2.1 _ (e _ _ h1)).elim
    | tup h2 r2 => exact ((tup_not I (by rw [hK]; exact ex_t e h2)).2.1 _ (e _ _ h1)).elim
    | dT h2 r2 =>
      rw [h1] at h2
      cases h2
      rw [Rpt.fn hK I e r1 r2 (by simpa [D.pf] using p) (by simpa [D.pf] using q)]
    | dK h2 _ => rw [h1] at h2; cases h2
    | ins h2 _ => rw [h1] at h2; cases h2
  | _, _, _, .ins h1 r1, h, p, q => by
    cases h with
    | ptr => simp [D.pf] at q
    | frl => simp [D.pf] at q
    | exn => simp [D.pf] at q
    | lam => simp [D.pf] at q
    | lst h2 r2 => exact ((lst_not I (SqL.of (e _ _ h2))).2.2 _ _ _ (e _ _ h1)).elim
    | tup h2 r2 => exact ((tup_not I (by rw [hK]; exact ex_t e h2)).2.2 _ _ _ (e _ _ h1)).elim
    | dK h2 _ => rw [h1] at h2; cases h2
    | dT h2 _ => rw [h1] at h2; cases h2
    | ins h2 r2 =>
      rw [h1] at h2
      injection h2 with h2
      injection h2 with h3 h4 h5
      subst h5
      rw [S.cai _ _ h3, Rpf.fn hK I e r1 r2 (by simpa [D.pf] using p) (by simpa [D.pf] using q)]
theorem Rps.fn (hK : X.K = S.K) (I : Inv X pins σ H s) (e : Ex F H) : ∀ {v : List V} {c d : List D}, Rps S F v c → Rps S F v d → pfs c = true → pfs d = true → c = d
  | _, _, _, .nil, .nil, _, _ => rfl
  | _, _, _, .cons h1 r1, .cons h2 r2, p, q => by
    simp only [pfs, Bool.and_eq_true] at p q
    rw [Rp.fn hK I e h1 h2 p.1 q.1, Rps.fn hK I e r1 r2 p.2 q.2]
theorem Rpk.fn (hK : X.K = S.K) (I : Inv X pins σ H s) (e : Ex F H) : ∀ {v : List (Key × V)} {c d : List (Key × D)}, Rpk S F v c → Rpk S F v d → pfk c = true → pfk d = true → c = d
  | _, _, _, .nil, .nil, _, _ => rfl
  | _, _, _, .cons h1 r1, .cons h2 r2, p, q => by
    simp only [pfk, Bool.and_eq_true] at p q
    rw [Rp.fn hK I e h1 h2 p.1 q.1, Rpk.fn hK I e r1 r2 p.2 q.2]
theorem Rpt.fn (hK : X.K = S.K) (I : Inv X pins σ H s) (e : Ex F H) : ∀ {v : List (List Key × V)} {c d : List (List Key × D)}, Rpt S F v c → Rpt S F v d → pft c = true → pft d = true → c = d
  | _, _, _, .nil, .nil, _, _ => rfl
  | _, _, _, .cons h1 r1, .cons h2 r2, p, q => by
    simp only [pft, Bool.and_eq_true] at p q
    rw [Rp.fn hK I e h1 h2 p.1 q.1, Rpt.fn hK I e r1 r2 p.2 q.2]
theorem Rpf.fn (hK : X.K = S.K) (I : Inv X pins σ H s) (e : Ex F H) : ∀ {v : List (Str × V)} {c d : List (Nat × D)}, Rpf S F v c → Rpf S F v d → pff c = true → pff d = true → c = d
  | _, _, _, .nil, h, _, _ => by cases h; rfl
  | _, _, _, .cons (k := k) h1 r1, h, p, q => by
    generalize hv : S.t.nm k = z at h
    cases h with
    | cons h2 r2 =>
      simp only [pff, Bool.and_eq_true] at p q
      rw [Rp.fn hK I e h1 h2 p.1 q.1, Rpf.fn hK I e r1 r2 p.2 q.2, S.t.inj _ _ hv]
end
end
end Mv
end
section
set_option Elab.async false
set_option linter.all false
set_option maxRecDepth 100000
set_option maxHeartbeats 4000000
namespace Mv
open PySem PySem.Spec PySem.W
section
variable {prog : Program} {w : World} {A : Around} {E : Value → Shared → Prop} {s : Shared} {K : Frag} {x C f L : Addr} {ox : Obj} {od : Option Obj} {i : Int} {t : Tok}
/-- != of an own instance with what is no heir of it -/
theorem ne_K {b tb : Value} {Q : Value → Shared → Prop} (hu : A.units + 1 < cLine) (X : K.In s.heap) (I : InstAt s.heap x ox C od) (hb : Looks (model prog w) s.heap (typeOf b) tb) (hn : notFirst K C tb = true) (hm : mroIn K C (.type "object") = some true)
    (hne : findIn K (.ref C) "__ne__" = some (some (.builtin "object.__ne__"))) (hs : findIn K (.ref C) "__eq__" = some (some (.ref f))) (hf : isFn K (.ref f) = true)
    (h : wpAny (model prog w) A.in1 (call (.ref f) [.ref x, b]) (fun v s' => ∃ k, v = .bool k ∧ Q (.bool (!k)) s') E s) : wpAny (model prog w) A (richCompare .NotEq (.ref x) b) Q E s := by
  have one : wpAny (model prog w) A (tryCompare (.ref x) (cmpInfo .NotEq).2.1 b) (fun r s' => ∃ v, r = some v ∧ Q v s') E s :=
    wpAny_mono (ne_try hu X I hm hne hs hf h) (fun r s' ⟨k, e, q⟩ => ⟨_, e, q⟩) fun _ _ e => e
  unfold richCompare
  simp only [oneThing_ref]
  refine wpAny_holding (wpAny_bind (wpAny_cRoomFor (Nat.lt_of_succ_lt hu) ?_))
  refine wpAny_bind (I.type.here (wpAny_bind (hb.here ?_)))
  split
  · rename_i q
    have e : subIn K tb (.ref C) = some false := by
      rcases Bool.or_eq_true_iff.mp hn with e | e
      · rw [beq_iff_eq.mp e] at q; simp at q
      · exact beq_iff_eq.mp e
    refine wpAny_bind ((looks_subIn X e).here ?_)
    simp only [Bool.false_eq_true, if_false]
    refine wpAny_bind (wpAny_mono one (fun r s' z => ?_) fun _ _ e => e)
    obtain ⟨v, rfl, hq⟩ := z
    exact wpAny_pure hq
  · refine wpAny_bind (wpAny_pure ?_)
    simp only [Bool.false_eq_true, if_false]
    refine wpAny_bind (wpAny_mono one (fun r s' z => ?_) fun _ _ e => e)
    obtain ⟨v, rfl, hq⟩ := z
    exact wpAny_pure hq
/-- int != own instance -/
theorem ne_intL {Q : Value → Shared → Prop} (hu : A.units + 1 < cLine) (X : K.In s.heap) (I : InstAt s.heap x ox C od) (hp : ox.data = .plain) (hm : mroIn K C (.type "object") = some true)
    (hsub : subIn K (.ref C) (.type "int") = some false) (hne : findIn K (.ref C) "__ne__" = some (some (.builtin "object.__ne__"))) (hs : findIn K (.ref C) "__eq__" = some (some (.ref f))) (hf : isFn K (.ref f) = true)
    (slot : Slot "int" "__ne__" "int.__ne__") (entry : entryFor table "int.__ne__" = some Builtin.«int.__ne__») (args : ∀ a b, argsOk "int.__ne__" ⟨[a, b], []⟩)
    (h : wpAny (model prog w) A.in1 (call (.ref f) [.ref x, .int i t]) (fun v s' => ∃ k, v = .bool k ∧ Q (.bool (!k)) s') E s) : wpAny (model prog w) A (richCompare .NotEq (.int i t) (.ref x)) Q E s := by
  have two : wpAny (model prog w) A (tryCompare (.ref x) (cmpInfo .NotEq).2.2 (.int i t)) (fun r s' => ∃ v, r = some v ∧ Q v s') E s :=
    wpAny_mono (ne_try hu X I hm hne hs hf h) (fun r s' ⟨k, e, q⟩ => ⟨_, e, q⟩) fun _ _ e => e
  have one : wpAny (model prog w) A (tryCompare (.int i t) (cmpInfo .NotEq).2.1 (.ref x)) (fun r s' => r = none ∧ s' = s) E s :=
    wpAny_tryCompare_declines (typeIs_int s i t) slot (dec_call slot entry args dec_ne I hp ⟨rfl, rfl, rfl⟩)
  unfold richCompare
  refine wpAny_holding ?_
  have z : oneThing? .NotEq (.int i t) (.ref x) = none := rfl
  rw [z]
  refine wpAny_bind (wpAny_cRoomFor (Nat.lt_of_succ_lt hu) ?_)
  refine wpAny_bind (wpAny_typeOf (typeIs_int s i t) (wpAny_bind (I.type.here ?_)))
  rw [if_pos (show (Value.type "int" != Value.ref C) = true from by simp)]
  refine wpAny_bind ((looks_subIn X hsub).here ?_)
  simp only [Bool.false_eq_true, if_false, Bool.not_false, if_true]
  refine wpAny_bind (wpAny_mono one (fun r s' hr => ?_) fun _ _ e => e)
  obtain ⟨rfl, rfl⟩ := hr
  dsimp only
  refine wpAny_bind (wpAny_mono two (fun r s' hr => ?_) fun _ _ e => e)
  obtain ⟨v, rfl, q⟩ := hr
  exact wpAny_pure q
end
end Mv
namespace Mv
open PySem PySem.Spec L2 PyProof.Rows
open Evl (Ex ex_l ex_t ex_rd)
section
variable {X : Cx} {S : Sy} {q : EqI} {j : Nat}

/-! ## == and != over data -/
def spEqO (q : EqI) : DSp := fun ds W Q _ => match ds with
  | [c, d] => kSome ((match c with
    | .ins n _ => q n c d
    | _ => none)) fun b => Q (.bl b) W
  | _ => False
/-- kinds that may stand on the left -/
def leftTs : List String := ["int", "NoneType", "bool", "str", "tuple", "list"]
/-- what is known of an own == -/
structure EqK (S : Sy) (c : Nat) (d : D) : Prop where
  ty : ∃ t, tyD S (fun _ => none) d = some t ∧ PySem.W.notFirst S.K (S.ca c) t = true
  mo : PySem.W.mroIn S.K (S.ca c) (.type "object") = some true
  ne : PySem.W.findIn S.K (.ref (S.ca c)) "__ne__" = some (some (.builtin "object.__ne__"))
  sb : ∀ T, T ∈ leftTs → PySem.W.subIn S.K (.ref (S.ca c)) (.type T) = some false
structure EqO (X : Cx) (S : Sy) (q : EqI) (j : Nat) : Prop where
  hK : X.K = S.K
  ok : ∀ n fs d b, q n (.ins n fs) d = some b → (D.ins n fs).pf = true ∧ d.pf = true ∧ (D.ins n fs = d → b = true)
  me : ∀ n fs d b, q n (.ins n fs) d = some b → MtD X.prog X.w S X.mg X.base j n "__eq__" 2 [] (spEqO q)
  fa : ∀ n fs d b, q n (.ins n fs) d = some b → EqK S n d
/-- behind it: only new things -/
def Gd (X : Cx) (S : Sy) (pins : List (Addr × Obj)) (σ : L2.St) (F : Hp) (W : Wd) (s' : Shared) : Prop := ∃ H' F', Inv X pins σ H' s' ∧ Ex F F' ∧ Rel S F' W H'
theorem Gd.back {pins : List (Addr × Obj)} {σ : L2.St} {F F' : Hp} {W : Wd} {s' : Shared} (e : Ex F F') (h : Gd X S pins σ F' W s') : Gd X S pins σ F W s' := by
  obtain ⟨H', F2, I, e', r⟩ := h
  exact ⟨H', F2, I, e.trans e', r⟩
theorem takesF {X : Cx} : Takes X (fun _ _ _ _ => False) := fun _ _ ⟨_, _, _, _, _, _, _, _, _, _, _, _, _, _, _, _, w⟩ => w.elim
theorem srel_none {S : Sy} {F : Hp} (σ : L2.St) : SRel S F σ (σ.map fun _ => none) := ⟨by simp, fun i d h => by
  rw [List.getElem?_map] at h
  cases e : σ[i]? with
  | none => rw [e] at h; cases h
  | some v => rw [e] at h; cases h⟩
/-- the own == runs -/
theorem run_eq (O : EqO X S q j) {A : Around} {pins : List (Addr × Obj)} {s : Shared} {σ : L2.St} {H F : Hp} {W : Wd} {n : Nat} {fs : List (Nat × D)} {d : D} {b : Bool} {a f : Addr} {y : V} {u : Value} (sb : Sub X j A) (I : Inv X pins σ H s) (rl : Rel S F W H)
    (px : Rp S F (.ref a) (.ins n fs)) (ry : RelV y u) (py : Rp S F y d) (h : q n (.ins n fs) d = some b) (mt : Meth X.K (S.ca n) "__eq__" f) :
    wpAny (model X.prog X.w) A (call (.ref f) [.ref a, u]) (fun v s' => v = .bool b ∧ Gd X S pins σ F W s') X.xe s := by
  obtain ⟨cl, f', mt', G⟩ := O.me n fs d b h
  rw [← O.hK] at mt'
  have ef : f' = f := by
    have := mt'.at_
    rw [mt.at_] at this
    cases this
    rfl
  subst ef
  have e0 : Env0 X.prog X.w X.K X.mg X.base A X.stack s H := by
    have e := I.env0
    exact ⟨by rw [sb.fr]; exact e.frames, e.mod, e.bs, e.bsz, e.funs, e.frf, e.hok, e.bare⟩
  refine thn (run_at (Q2 := fun d' W' => d' = .bl b ∧ W' = W) (E2 := fun _ _ _ => False) (us := [.ref a, u]) (vs := [.ref a, y]) (ds := [.ins n fs, d]) (E := fun _ _ _ _ => False) O.hK G sb.room e0 takesF I rl (srel_none σ) (fun _ _ _ _ _ _ _ _ _ _ _ _ _ _ z => z) (.cons rfl (.cons ry .nil)) (.cons px (.cons py .nil)) ⟨by simp, by simp, ?_⟩) fun u s' z => ?_
  · show kSome (q n (.ins n fs) d) _
    rw [h]
    exact ⟨rfl, rfl⟩
  · obtain ⟨v, H', F', d', W', I', rv, e, rl', rp, rfl, rfl⟩ := z
    cases rp
    cases rv
    exact ⟨rfl, H', F', I', e, rl'⟩
mutual
theorem fnq {pins : List (Addr × Obj)} {σ : L2.St} {H F : Hp} {s : Shared} (O : EqO X S q j) (I : Inv X pins σ H s) (e : Ex F H) : ∀ (c : D) (v : V) (d : D) (b : Bool), Rp S F v c → Rp S F v d → eqD q c d = some b → b = true
  | .ins n fs, v, d, b, r, r', h => by
    unfold eqD at h
    by_cases ho : ownR d = true
    · rw [if_pos ho] at h
      obtain ⟨p1, p2, p3⟩ := O.ok n fs d b h
      exact p3 (Rp.fn O.hK I e r r' p1 p2)
    · rw [if_neg ho] at h; cases h
  | .tup cs, v, d, b, r, r', h => by
    cases r with
    | @tup a vs _ h1 r1 =>
      have k1 : SqT X.K H a vs := by rw [O.hK]; exact ex_t e h1
      cases r' with
      | @tup _ vs2 ds h2 r2 =>
        have k2 : SqT X.K H a vs2 := by rw [O.hK]; exact ex_t e h2
        have z := I.tuple_inj k1 k2
        subst z
        unfold eqD at h
        exact fnqs O I e cs vs ds b r1 r2 h
      | lst h2 r2 => exact (not_both I k1 (SqL.of (e _ _ h2))).elim
      | @ins _ _ m us gs h2 r2 =>
        have h : q m (.ins m gs) (.tup cs) = some b := by unfold eqD at h; exact h
        obtain ⟨p1, p2, p3⟩ := O.ok _ _ _ b h
        have z := Rp.fn O.hK I e (.ins h2 r2) (.tup h1 r1) p1 p2
        cases z
      | _ => unfold eqD at h; cases h
  | .lst cs, v, d, b, r, r', h => by
    cases r with
    | @lst a vs _ h1 r1 =>
      have k1 : SqL X.K H a vs := SqL.of (e _ _ h1)
      cases r' with
      | @lst _ vs2 ds h2 r2 =>
        have k2 : SqL X.K H a vs2 := SqL.of (e _ _ h2)
        have z := I.list_inj k1 k2
        subst z
        unfold eqD at h
        dsimp only at h
        rw [if_pos (r1.length.symm.trans r2.length)] at h
        exact fnqs O I e cs vs ds b r1 r2 h
      | tup h2 r2 => exact (not_both I (by rw [O.hK]; exact ex_t e h2) k1).elim
      | @ins _ _ m us gs h2 r2 =>
        have h : q m (.ins m gs) (.lst cs) = some b := by unfold eqD at h; exact h
        obtain ⟨p1, p2, p3⟩ := O.ok _ _ _ b h
        have z := Rp.fn O.hK I e (.ins h2 r2) (.lst h1 r1) p1 p2
        cases z
      | _ => unfold eqD at h; cases h
  | .non, v, d, b, r, r', h => by
    cases r; cases r'
    simp only [eqD, flatO, Option.some.injEq] at h
    exact h.symm
  | .bl x, v, d, b, r, r', h => by
    cases r; cases r'
    simp only [eqD, flatO, Option.some.injEq] at h
    simpa using h.symm
  | .int x, v, d, b, r, r', h => by
    cases r; cases r'
    simp only [eqD, flatO, Option.some.injEq] at h
    simpa using h.symm
  | .str x, v, d, b, r, r', h => by
    cases r; cases r'
    simp only [eqD, flatO, Option.some.injEq] at h
    simpa using h.symm
  | .ty x, v, d, b, r, r', h => by
    cases r; cases r'
    simp [eqD, flatO] at h
  | .ptr x, v, d, b, r, r', h => by
    cases r
    cases r' <;> simp [eqD, flatO] at h
  | .dK x, v, d, b, r, r', h => by
    cases r
    cases r' <;> simp [eqD, flatO] at h
  | .dT x, v, d, b, r, r', h => by
    cases r
    cases r' <;> simp [eqD, flatO] at h
  | .frl x, v, d, b, r, r', h => by
    cases r
    cases r' <;> simp [eqD, flatO] at h
theorem fnqs {pins : List (Addr × Obj)} {σ : L2.St} {H F : Hp} {s : Shared} (O : EqO X S q j) (I : Inv X pins σ H s) (e : Ex F H) : ∀ (cs : List D) (vs : List V) (ds : List D) (b : Bool), Rps S F vs cs → Rps S F vs ds → eqDs q cs ds = some b → b = true
  | [], _, _, b, .nil, .nil, h => by
    simp only [eqDs, Option.some.injEq] at h
    exact h.symm
  | c :: cs, _, d :: ds, b, .cons r1 t1, .cons r2 t2, h => by
    unfold eqDs at h
    cases hq : eqD q c d with
    | none => rw [hq] at h; cases h
    | some k =>
      have hk := fnq O I e c _ d k r1 r2 hq
      subst hk
      rw [hq] at h
      exact fnqs O I e cs _ ds b t1 t2 h
  | _ :: _, _, [], _, .cons _ _, r2, _ => by cases r2
end
/-! ### the rich comparison, the comparison inside a list -/
def RcP (X : Cx) (S : Sy) (q : EqI) (j n : Nat) : Prop := ∀ (neg : Bool) (A : Around) (pins : List (Addr × Obj)) (s : Shared) (σ : L2.St) (H F : Hp) (W : Wd) (v u : Value) (x y : V) (c d : D) (b : Bool), c.dp ≤ n → Sub X (j + 1 + n) A → Inv X pins σ H s → Rel S F W H → RelV x v → RelV y u → Rp S F x c → Rp S F y d → eqD q c d = some b →
  wpAny (model X.prog X.w) A (richCompare (if neg = true then .NotEq else .Eq) v u) (fun r s' => r = .bool (if neg = true then !b else b) ∧ Gd X S pins σ F W s') X.xe s
def EqP (X : Cx) (S : Sy) (q : EqI) (j n : Nat) : Prop := ∀ (A : Around) (pins : List (Addr × Obj)) (s : Shared) (σ : L2.St) (H F : Hp) (W : Wd) (v u : Value) (x y : V) (c d : D) (b : Bool), c.dp ≤ n → Sub X (j + 1 + n) A → Inv X pins σ H s → Rel S F W H → RelV x v → RelV y u → Rp S F x c → Rp S F y d → eqD q c d = some b →
  wpAny (model X.prog X.w) A (eqBool v u) (fun r s' => r = b ∧ Gd X S pins σ F W s') X.xe s
theorem relv_fn {x y : V} {v : Value} (h : RelV x v) (h' : RelV y v) : x = y := by
  have h1 : Vals [x] [v] := .cons h .nil
  have h2 : Vals [y] [v] := .cons h' .nil
  have := h1.inj h2
  cases this
  rfl
theorem eqBool_rc {M : Model} {A : Around} {s : Shared} {E : Value → Shared → Prop} {Q : Bool → Shared → Prop} {v u : Value} (hv : ∀ b t, v ≠ .float b t) (hne : v ≠ u) (h : wpAny M A (richCompare .Eq v u) (fun r s' => ∃ b, r = .bool b ∧ Q b s') E s) : wpAny M A (eqBool v u) Q E s := by
  unfold eqBool
  refine wpAny_holding (wpAny_ite_split (fun hab => absurd (eq_of_beq hab) hne) fun _ => ?_)
  cases v <;> first
    | exact absurd rfl (hv _ _)
    | (refine wpAny_bind (wpAny_mono h (fun r s' z => ?_) fun _ _ z => z)
       obtain ⟨b, rfl, q⟩ := z
       exact wpAny_truthy_bool q)
theorem nofloat {S : Sy} {F : Hp} {x : V} {c : D} {v : Value} (px : Rp S F x c) (rx : RelV x v) : ∀ b t, v ≠ .float b t := by
  intro b t e
  subst e
  cases px <;> first
    | (rcases rx with ⟨_, e⟩; cases e; done)
    | (cases rx; done)
theorem eqP_of {n : Nat} (O : EqO X S q j) (h : RcP X S q j n) : EqP X S q j n := by
  intro A pins s σ H F W v u x y c d b hd sb I rl rx ry px py hq
  by_cases e : v = u
  · subst e
    have exy := relv_fn rx ry
    subst exy
    have hb := fnq O I rl.sub c x d b px py hq
    subst hb
    exact SeqAt.EqAt.same v X.prog X.w X.xe _ ⟨rfl, H, F, I, Ex.refl _, rl⟩
  · refine eqBool_rc (nofloat px rx) e (wpAny_mono (h false A pins s σ H F W v u x y c d b hd sb I rl rx ry px py hq) (fun r s' z => ?_) fun _ _ z => z)
    obtain ⟨rfl, g⟩ := z
    exact ⟨b, rfl, rfl, g⟩
/-- the loop over the items: at turn i the rest is still to be compared -/
def RestI (X : Cx) (S : Sy) (q : EqI) (pins : List (Addr × Obj)) (σ : L2.St) (F : Hp) (W : Wd) (cs ds : List D) (b : Bool) (i : Nat) (s' : Shared) : Prop :=
  Gd X S pins σ F W s' ∧ eqDs q (cs.drop i) (ds.drop i) = some b
theorem turnQ {n : Nat} (h : EqP X S q j n) {A : Around} (sb : Sub X (j + 1 + (n + 1)) A) {pins : List (Addr × Obj)} {σ : L2.St} {F : Hp} {W : Wd} {xs ys : List V} {cs ds : List D} {its its2 : List Value} {b : Bool} (rc : Rps S F xs cs) (rd : Rps S F ys ds) (hdp : dps cs ≤ n) (r : Vals xs its) (r2 : Vals ys its2)
    (i : Nat) (h1 : i < its.toArray.size) (h2 : i < its2.toArray.size) (s' : Shared) (l : RestI X S q pins σ F W cs ds b i s') :
    wpAny (model X.prog X.w) A.in1 (eqBool its.toArray[i] its2.toArray[i]) (fun z s2 => (z = true ∧ RestI X S q pins σ F W cs ds b (i + 1) s2) ∨ (z = false ∧ RestI X S q pins σ F W cs ds b i s2 ∧ b = false)) X.xe s' := by
  obtain ⟨⟨H1, F1, I1, e1, rl1⟩, hq⟩ := l
  have g1 : its[i]? = some its.toArray[i] := by
    have h1' : i < its.length := by simpa using h1
    rw [List.getElem?_eq_getElem h1'] <;> simp
  have g2 : its2[i]? = some its2.toArray[i] := by
    have h2' : i < its2.length := by simpa using h2
    rw [List.getElem?_eq_getElem h2'] <;> simp
  have k1 : i < xs.length := by rw [r.length]; simpa using h1
  have k2 : i < ys.length := by rw [r2.length]; simpa using h2
  have c1 : i < cs.length := by rw [← rc.length]; exact k1
  have c2 : i < ds.length := by rw [← rd.length]; exact k2
  obtain ⟨u, hu, ru⟩ := r.get (List.getElem?_eq_getElem k1)
  obtain ⟨v, hv, rv⟩ := r2.get (List.getElem?_eq_getElem k2)
  rw [g1] at hu
  rw [g2] at hv
  rw [Option.some.inj hu, Option.some.inj hv]
  obtain ⟨x, hx, px⟩ := rc.get (List.getElem?_eq_getElem c1)
  obtain ⟨y, hy, py⟩ := rd.get (List.getElem?_eq_getElem c2)
  rw [List.getElem?_eq_getElem k1] at hx
  rw [List.getElem?_eq_getElem k2] at hy
  rw [Option.some.inj hx] at ru
  rw [Option.some.inj hy] at rv
  have hq0 := hq
  rw [List.drop_eq_getElem_cons c1, List.drop_eq_getElem_cons c2] at hq
  unfold eqDs at hq
  have dle : ∀ {cs : List D} {i : Nat} (hi : i < cs.length), (cs[i]).dp ≤ dps cs := by
    intro cs
    induction cs with
    | nil => intro i hi; simp at hi
    | cons c cs ih =>
      intro i hi
      cases i with
      | zero => show c.dp ≤ max c.dp (dps cs); omega
      | succ i =>
        have := ih (i := i) (by simpa using hi)
        show (cs[i]'(by simpa using hi)).dp ≤ max c.dp (dps cs)
        omega
  cases hk : eqD q cs[i] ds[i] with
  | none => rw [hk] at hq; cases hq
  | some k =>
    rw [hk] at hq
    refine wpAny_mono (h A.in1 pins s' σ H1 F1 W u v x y cs[i] ds[i] k (Nat.le_trans (dle c1) hdp) sb.in1 I1 rl1 ru rv (px.mono e1) (py.mono e1) hk) (fun z s2 ⟨hz, g⟩ => ?_) fun _ _ x => x
    subst hz
    cases z with
    | true => exact .inl ⟨rfl, g.back e1, hq⟩
    | false =>
      have : b = false := by
        have hq' : some false = some b := hq
        cases hq'
        rfl
      exact .inr ⟨rfl, ⟨g.back e1, hq0⟩, this⟩
theorem eqDs_end {cs ds : List D} {b : Bool} : ∀ {m : Nat}, m = min cs.length ds.length → eqDs q (cs.drop m) (ds.drop m) = some b → b = (cs.length == ds.length) := by
  intro m hm h
  rcases Nat.lt_trichotomy cs.length ds.length with hl | hl | hl
  · have e1 : cs.drop m = [] := List.drop_of_length_le (by omega)
    rw [e1, List.drop_eq_getElem_cons (show m < ds.length by omega)] at h
    simp only [eqDs, Option.some.injEq] at h
    rw [← h]
    exact (beq_eq_false_iff_ne.mpr (by omega)).symm
  · have e1 : cs.drop m = [] := List.drop_of_length_le (by omega)
    have e2 : ds.drop m = [] := List.drop_of_length_le (by omega)
    rw [e1, e2] at h
    simp only [eqDs, Option.some.injEq] at h
    rw [← h, hl]
    simp
  · have e2 : ds.drop m = [] := List.drop_of_length_le (by omega)
    rw [e2, List.drop_eq_getElem_cons (show m < cs.length by omega)] at h
    simp only [eqDs, Option.some.injEq] at h
    rw [← h]
    exact (beq_eq_false_iff_ne.mpr (by omega)).symm
open GQ (call_here FinOf)
theorem rc_lists {n : Nat} (O : EqO X S q j) (h : EqP X S q j n) (neg : Bool) {A : Around} (sb : Sub X (j + 1 + (n + 1)) A) {pins : List (Addr × Obj)} {s : Shared} {σ : L2.St} {H F : Hp} {W : Wd} {cs ds : List D} {xs ys : List V} {a a2 : Addr} {b : Bool} (I : Inv X pins σ H s) (rl : Rel S F W H)
    (ha : F a = some (.lst xs)) (hb : F a2 = some (.lst ys)) (rc : Rps S F xs cs) (rd : Rps S F ys ds) (hdp : dps cs ≤ n) (hq : (if cs.length = ds.length then eqDs q cs ds else some false) = some b) :
    wpAny (model X.prog X.w) A (richCompare (if neg = true then .NotEq else .Eq) (.ref a) (.ref a2)) (fun r s' => r = .bool (if neg = true then !b else b) ∧ Gd X S pins σ F W s') X.xe s := by
  obtain ⟨z, its, k, r, e⟩ := I.hok a _ (rl.sub _ _ ha)
  obtain ⟨z2, its2, k2, r2, e2⟩ := I.hok a2 _ (rl.sub _ _ hb)
  have g0 : Gd X S pins σ F W s := ⟨H, F, I, Ex.refl _, rl⟩
  have sz1 : its.toArray.size = cs.length := by rw [List.size_toArray, ← r.length, rc.length]
  have sz2 : its2.toArray.size = ds.length := by rw [List.size_toArray, ← r2.length, rd.length]
  by_cases hl : cs.length = ds.length
  · rw [if_pos hl] at hq
    have hI : RestI X S q pins σ F W cs ds b 0 s := ⟨g0, hq⟩
    have hL : ListJ X.prog X.w A X.xe a a2 cs.length (RestI X S q pins σ F W cs ds b) (fun s' => b = false ∧ Gd X S pins σ F W s') := fun i s' l => by
      obtain ⟨⟨H1, F1, I1, e1, rl1⟩, hq'⟩ := id l
      obtain ⟨z, its, k, r, e⟩ := I1.hok a _ (rl1.sub _ _ (e1 _ _ ha))
      obtain ⟨z2, its2, k2, r2, e2⟩ := I1.hok a2 _ (rl1.sub _ _ (e1 _ _ hb))
      refine ⟨its.toArray, its2.toArray, k, k2, e, e2, by rw [List.size_toArray, ← r.length, rc.length], by rw [List.size_toArray, ← r2.length, rd.length, hl], fun h1 h2 => ?_⟩
      refine wpAny_mono (turnQ h sb rc rd hdp r r2 i h1 h2 s' l) (fun z s2 hz => ?_) fun _ _ x => x
      rcases hz with hz | ⟨h1, h2, h3⟩
      · exact .inl hz
      · exact .inr ⟨h1, h2, h3, h2.1⟩
    have fin : ∀ s', RestI X S q pins σ F W cs ds b cs.length s' → b = true ∧ Gd X S pins σ F W s' := fun s' l => by
      have := eqDs_end (q := q) (m := cs.length) (by omega) l.2
      rw [this]
      exact ⟨by simp [hl], l.1⟩
    cases neg with
    | false =>
      refine wpAny_richCompare_same_room (op := .Eq) ⟨_, e, rfl⟩ ⟨_, e2, rfl⟩ PySem.F.slot_list_eq (call_here PySem.F.slot_list_eq ⟨_, e, rfl⟩ PySem.F.entry_list_eq (PySem.F.args_list_eq_2 _ _) ?_) sb.room.units0
      exact list_eqJ (R := wants (fun v s' => v ≠ .notImplemented ∧ (v = .bool b ∧ Gd X S pins σ F W s')) X.xe) a a2 cs.length _ _ hL (fun s' l => ⟨(fun x => nomatch x), by rw [(fin s' l).1], (fin s' l).2⟩) (fun s' l => ⟨(fun x => nomatch x), by rw [l.1], l.2⟩) hI
    | true =>
      refine wpAny_richCompare_same_room (op := .NotEq) ⟨_, e, rfl⟩ ⟨_, e2, rfl⟩ PySem.F.slot_list_ne (call_here PySem.F.slot_list_ne ⟨_, e, rfl⟩ PySem.F.entry_list_ne (PySem.F.args_list_ne_2 _ _) ?_) sb.room.units0
      exact list_neJ (R := wants (fun v s' => v ≠ .notImplemented ∧ (v = .bool !b ∧ Gd X S pins σ F W s')) X.xe) a a2 cs.length _ _ hL (fun s' l => ⟨(fun x => nomatch x), by rw [(fin s' l).1]; rfl, (fin s' l).2⟩) (fun s' l => ⟨(fun x => nomatch x), by rw [l.1]; rfl, l.2⟩) hI
  · rw [if_neg hl] at hq
    cases hq
    have hz : its.toArray.size ≠ its2.toArray.size := by rw [sz1, sz2]; exact hl
    cases neg with
    | false =>
      refine wpAny_richCompare_same_room (op := .Eq) ⟨_, e, rfl⟩ ⟨_, e2, rfl⟩ PySem.F.slot_list_eq (call_here PySem.F.slot_list_eq ⟨_, e, rfl⟩ PySem.F.entry_list_eq (PySem.F.args_list_eq_2 _ _) ?_) sb.room.units0
      exact list_eqZ (R := wants (fun v s' => v ≠ .notImplemented ∧ (v = .bool false ∧ Gd X S pins σ F W s')) X.xe) e e2 hz ⟨(fun x => nomatch x), rfl, g0⟩
    | true =>
      refine wpAny_richCompare_same_room (op := .NotEq) ⟨_, e, rfl⟩ ⟨_, e2, rfl⟩ PySem.F.slot_list_ne (call_here PySem.F.slot_list_ne ⟨_, e, rfl⟩ PySem.F.entry_list_ne (PySem.F.args_list_ne_2 _ _) ?_) sb.room.units0
      exact list_neZ (R := wants (fun v s' => v ≠ .notImplemented ∧ (v = .bool true ∧ Gd X S pins σ F W s')) X.xe) e e2 hz ⟨(fun x => nomatch x), rfl, g0⟩
theorem rc_tups {n : Nat} (O : EqO X S q j) (h : EqP X S q j n) (neg : Bool) {A : Around} (sb : Sub X (j + 1 + (n + 1)) A) {pins : List (Addr × Obj)} {s : Shared} {σ : L2.St} {H F : Hp} {W : Wd} {cs ds : List D} {xs ys : List V} {a a2 : Addr} {b : Bool} (I : Inv X pins σ H s) (rl : Rel S F W H)
    (ha : SqT S.K F a xs) (hb : SqT S.K F a2 ys) (rc : Rps S F xs cs) (rd : Rps S F ys ds) (hdp : dps cs ≤ n) (hq : eqDs q cs ds = some b) :
    wpAny (model X.prog X.w) A (richCompare (if neg = true then .NotEq else .Eq) (.ref a) (.ref a2)) (fun r s' => r = .bool (if neg = true then !b else b) ∧ Gd X S pins σ F W s') X.xe s := by
  obtain ⟨its, r, ht, z⟩ := I.tuple (by rw [O.hK]; exact ex_t rl.sub ha)
  obtain ⟨its2, r2, ht2, z2⟩ := I.tuple (by rw [O.hK]; exact ex_t rl.sub hb)
  obtain ⟨⟨cls, dd, data, sl⟩, ho, hc, k, hd⟩ := id ht
  obtain ⟨⟨cls2, dd2, data2, sl2⟩, ho2, hc2, k2, hd2⟩ := id ht2
  simp only at hc hd hc2 hd2
  subst hc hd hc2 hd2
  have g0 : Gd X S pins σ F W s := ⟨H, F, I, Ex.refl _, rl⟩
  have sz1 : its.toArray.size = cs.length := by rw [List.size_toArray, ← r.length, rc.length]
  have sz2 : its2.toArray.size = ds.length := by rw [List.size_toArray, ← r2.length, rd.length]
  have hI : RestI X S q pins σ F W cs ds b 0 s := ⟨g0, hq⟩
  have turn : ∀ i (h1 : i < its.toArray.size) (h2 : i < its2.toArray.size) s', RestI X S q pins σ F W cs ds b i s' → wpAny (model X.prog X.w) A.in1 (eqBool its.toArray[i] its2.toArray[i]) (fun z s2 => (z = true ∧ RestI X S q pins σ F W cs ds b (i + 1) s2) ∨ (z = false ∧ (b = false ∧ Gd X S pins σ F W s2))) X.xe s' := fun i h1 h2 s' l =>
    wpAny_mono (turnQ h sb rc rd hdp r r2 i h1 h2 s' l) (fun z s2 hz => hz.elim .inl fun ⟨h1, h2, h3⟩ => .inr ⟨h1, h3, h2.1⟩) fun _ _ x => x
  have fin : ∀ s', RestI X S q pins σ F W cs ds b (min its.toArray.size its2.toArray.size) s' → b = (its.toArray.size == its2.toArray.size) ∧ Gd X S pins σ F W s' := fun s' l => by
    rw [sz1, sz2] at l ⊢
    exact ⟨eqDs_end rfl l.2, l.1⟩
  cases neg with
  | false =>
    refine wpAny_richCompare_same_room (op := .Eq) ⟨_, ho, rfl⟩ ⟨_, ho2, rfl⟩ PySem.F.slot_tuple_eq (call_here PySem.F.slot_tuple_eq ⟨_, ho, rfl⟩ PySem.F.entry_tuple_eq (PySem.F.args_tuple_eq_2 _ _) ?_) sb.room.units0
    exact tuple_eqJ (R := wants (fun v s' => v ≠ .notImplemented ∧ (v = .bool b ∧ Gd X S pins σ F W s')) X.xe) a a2 its.toArray its2.toArray k k2 dd dd2 sl sl2 _ (fun s' => b = false ∧ Gd X S pins σ F W s') turn (fun s' l => ⟨(fun x => nomatch x), by rw [(fin s' l).1], (fin s' l).2⟩) (fun s' l => ⟨(fun x => nomatch x), by rw [l.1], l.2⟩) ho ho2 hI
  | true =>
    refine wpAny_richCompare_same_room (op := .NotEq) ⟨_, ho, rfl⟩ ⟨_, ho2, rfl⟩ PySem.F.slot_tuple_ne (call_here PySem.F.slot_tuple_ne ⟨_, ho, rfl⟩ PySem.F.entry_tuple_ne (PySem.F.args_tuple_ne_2 _ _) ?_) sb.room.units0
    exact tuple_neJ (R := wants (fun v s' => v ≠ .notImplemented ∧ (v = .bool !b ∧ Gd X S pins σ F W s')) X.xe) a a2 its.toArray its2.toArray k k2 dd dd2 sl sl2 _ (fun s' => b = false ∧ Gd X S pins σ F W s') turn (fun s' l => ⟨(fun x => nomatch x), by rw [(fin s' l).1]; rfl, (fin s' l).2⟩) (fun s' l => ⟨(fun x => nomatch x), by rw [l.1]; rfl, l.2⟩) ho ho2 hI
end
end Mv
end
section
set_option Elab.async false
set_option linter.all false
set_option maxRecDepth 100000
set_option maxHeartbeats 4000000
namespace Mv
open PySem PySem.Spec PySem.W
/-! ## a builtin on the left of an own instance: it declines -/
section
variable {prog : Program} {w : World} {A : Around} {E : Value → Shared → Prop} {s : Shared} {K : Frag} {x C f L : Addr} {ox : Obj} {od : Option Obj} {v : Value} {T : String}
open AutoSeq1 (wpAny_loadPart')
theorem cmp_left {Q : Value → Shared → Prop} (hu : A.units < cLine) (X : K.In s.heap) (I : InstAt s.heap x ox C od) (hT : s.TypeIs v T)
    (one : wpAny (model prog w) A (tryCompare v (cmpInfo .Eq).2.1 (.ref x)) (fun r s' => r = none ∧ s' = s) E s) (hsub : subIn K (.ref C) (.type T) = some false)
    (hs : findIn K (.ref C) (cmpInfo .Eq).2.2 = some (some (.ref f))) (hf : isFn K (.ref f) = true)
    (h : wpAny (model prog w) A (call (.ref f) [.ref x, v]) (CmpBack Q) E s) : wpAny (model prog w) A (richCompare .Eq v (.ref x)) Q E s := by
  have two : wpAny (model prog w) A (tryCompare (.ref x) (cmpInfo .Eq).2.2 v) (fun r s' => ∃ v, r = some v ∧ Q v s') E s := by
    unfold tryCompare
    refine wpAny_bind (ifBound_K X I hs hf (wpAny_mono h (fun v s' hv => ?_) fun _ _ e => e))
    cases v <;> first | exact hv.elim | exact wpAny_pure ⟨_, rfl, hv⟩
  unfold richCompare
  refine wpAny_holding ?_
  rw [show oneThing? .Eq v (.ref x) = none from hT.oneThing_none _ _]
  refine wpAny_bind (wpAny_cRoomFor hu ?_)
  refine wpAny_bind (wpAny_typeOf hT (wpAny_bind (I.type.here ?_)))
  rw [if_pos (show (Value.type T != Value.ref C) = true from by simp)]
  refine wpAny_bind ((looks_subIn X hsub).here ?_)
  simp only [Bool.false_eq_true, if_false, Bool.not_false, if_true]
  refine wpAny_bind (wpAny_mono one (fun r s' hr => ?_) fun _ _ e => e)
  obtain ⟨rfl, rfl⟩ := hr
  dsimp only
  refine wpAny_bind (wpAny_mono two (fun r s' hr => ?_) fun _ _ e => e)
  obtain ⟨v, rfl, q⟩ := hr
  exact wpAny_pure q
theorem ne_left {Q : Value → Shared → Prop} (hu : A.units + 1 < cLine) (X : K.In s.heap) (I : InstAt s.heap x ox C od) (hT : s.TypeIs v T) (hm : mroIn K C (.type "object") = some true)
    (one : wpAny (model prog w) A (tryCompare v (cmpInfo .NotEq).2.1 (.ref x)) (fun r s' => r = none ∧ s' = s) E s) (hsub : subIn K (.ref C) (.type T) = some false)
    (hne : findIn K (.ref C) "__ne__" = some (some (.builtin "object.__ne__"))) (hs : findIn K (.ref C) "__eq__" = some (some (.ref f))) (hf : isFn K (.ref f) = true)
    (h : wpAny (model prog w) A.in1 (call (.ref f) [.ref x, v]) (fun v s' => ∃ k, v = .bool k ∧ Q (.bool (!k)) s') E s) : wpAny (model prog w) A (richCompare .NotEq v (.ref x)) Q E s := by
  have two : wpAny (model prog w) A (tryCompare (.ref x) (cmpInfo .NotEq).2.2 v) (fun r s' => ∃ v, r = some v ∧ Q v s') E s :=
    wpAny_mono (ne_try hu X I hm hne hs hf h) (fun r s' ⟨k, e, q⟩ => ⟨_, e, q⟩) fun _ _ e => e
  unfold richCompare
  refine wpAny_holding ?_
  rw [show oneThing? .NotEq v (.ref x) = none from hT.oneThing_none _ _]
  refine wpAny_bind (wpAny_cRoomFor (Nat.lt_of_succ_lt hu) ?_)
  refine wpAny_bind (wpAny_typeOf hT (wpAny_bind (I.type.here ?_)))
  rw [if_pos (show (Value.type T != Value.ref C) = true from by simp)]
  refine wpAny_bind ((looks_subIn X hsub).here ?_)
  simp only [Bool.false_eq_true, if_false, Bool.not_false, if_true]
  refine wpAny_bind (wpAny_mono one (fun r s' hr => ?_) fun _ _ e => e)
  obtain ⟨rfl, rfl⟩ := hr
  dsimp only
  refine wpAny_bind (wpAny_mono two (fun r s' hr => ?_) fun _ _ e => e)
  obtain ⟨v, rfl, q⟩ := hr
  exact wpAny_pure q
/-- what declines -/
def DecB (B : Builtin) (v : Value) (x : Addr) (s : Shared) : Prop := ∀ (prog : Program) (w : World) (A : Around) (E : Value → Shared → Prop) (Q : Fin → Shared → Prop), Q (.done (.ret .notImplemented)) s → wpAny (model prog w) A (B ⟨[v, .ref x], []⟩) Q E s
theorem one_dec {name : Str} {id : String} {B : Builtin} (hT : s.TypeIs v T) (slot : Slot T name id) (entry : entryFor table id = some B) (args : argsOk id ⟨[v, .ref x], []⟩) (hd : DecB B v x s) :
    wpAny (model prog w) A (tryCompare v name (.ref x)) (fun r s' => r = none ∧ s' = s) E s :=
  wpAny_tryCompare_declines hT slot (GQ.call_here slot hT entry args (hd _ _ _ _ _ ⟨rfl, rfl, rfl⟩))
theorem dec_none_eq : DecB Builtin.«NoneType.__eq__» .none x s := fun prog w A E Q h => by
  obtain ⟨hh, g, d, tk, os⟩ := s
  wp_walk
  exact h
theorem dec_none_ne : DecB Builtin.«NoneType.__ne__» .none x s := fun prog w A E Q h => by
  obtain ⟨hh, g, d, tk, os⟩ := s
  wp_walk
  exact h
theorem dec_bool_eq {b : Bool} (I : InstAt s.heap x ox C od) (hp : ox.data = .plain) : DecB Builtin.«int.__eq__» (.bool b) x s := fun prog w A E Q h => by
  obtain ⟨hh, g, d, tk, os⟩ := s
  have hx : hh.get? x = some ox := I.at_
  wp_walk using wpAny_loadPart' hx
  rw [hp]
  wp_walk
  exact h
theorem dec_bool_ne {b : Bool} (I : InstAt s.heap x ox C od) (hp : ox.data = .plain) : DecB Builtin.«int.__ne__» (.bool b) x s := fun prog w A E Q h => by
  obtain ⟨hh, g, d, tk, os⟩ := s
  have hx : hh.get? x = some ox := I.at_
  wp_walk using wpAny_loadPart' hx
  rw [hp]
  wp_walk
  exact h
theorem dec_str_eq {b : Str} {t : Tok} (I : InstAt s.heap x ox C od) (hp : ox.data = .plain) : DecB Builtin.«str.__eq__» (.str b t) x s := fun prog w A E Q h => by
  obtain ⟨hh, g, d, tk, os⟩ := s
  have hx : hh.get? x = some ox := I.at_
  wp_walk using wpAny_loadPart' hx
  rw [hp]
  wp_walk
  exact h
theorem dec_str_ne {b : Str} {t : Tok} (I : InstAt s.heap x ox C od) (hp : ox.data = .plain) : DecB Builtin.«str.__ne__» (.str b t) x s := fun prog w A E Q h => by
  obtain ⟨hh, g, d, tk, os⟩ := s
  have hx : hh.get? x = some ox := I.at_
  wp_walk using wpAny_loadPart' hx
  rw [hp]
  wp_walk
  exact h
theorem dec_tuple_eq {a : Addr} (X : K.In s.heap) (I : InstAt s.heap x ox C od) (hsub : subIn K (.ref C) (.type "tuple") = some false) : DecB Builtin.«tuple.__eq__» (.ref a) x s := fun prog w A E Q h => by
  have L : Looks (model prog w) s.heap (isInstance (.ref x) (.type "tuple")) false := I.type.andThen (looks_subIn X hsub)
  obtain ⟨hh, g, d, tk, os⟩ := s
  wp_walk using L.here
  exact h
theorem dec_tuple_ne {a : Addr} (X : K.In s.heap) (I : InstAt s.heap x ox C od) (hsub : subIn K (.ref C) (.type "tuple") = some false) : DecB Builtin.«tuple.__ne__» (.ref a) x s := fun prog w A E Q h => by
  have L : Looks (model prog w) s.heap (isInstance (.ref x) (.type "tuple")) false := I.type.andThen (looks_subIn X hsub)
  obtain ⟨hh, g, d, tk, os⟩ := s
  wp_walk using L.here
  exact h
theorem dec_list_eq {a : Addr} (X : K.In s.heap) (I : InstAt s.heap x ox C od) (hsub : subIn K (.ref C) (.type "list") = some false) : DecB Builtin.«list.__eq__» (.ref a) x s := fun prog w A E Q h => by
  have L : Looks (model prog w) s.heap (isInstance (.ref x) (.type "list")) false := I.type.andThen (looks_subIn X hsub)
  obtain ⟨hh, g, d, tk, os⟩ := s
  wp_walk using L.here
  exact h
theorem dec_list_ne {a : Addr} (X : K.In s.heap) (I : InstAt s.heap x ox C od) (hsub : subIn K (.ref C) (.type "list") = some false) : DecB Builtin.«list.__ne__» (.ref a) x s := fun prog w A E Q h => by
  have L : Looks (model prog w) s.heap (isInstance (.ref x) (.type "list")) false := I.type.andThen (looks_subIn X hsub)
  obtain ⟨hh, g, d, tk, os⟩ := s
  wp_walk using L.here
  exact h
/-- the kinds that decline -/
inductive LeftK : Shared → Value → String → Prop
  | non {s : Shared} : LeftK s .none "NoneType"
  | bl {s : Shared} (b : Bool) : LeftK s (.bool b) "bool"
  | str {s : Shared} (z : Str) (t : Tok) : LeftK s (.str z t) "str"
  | tup {s : Shared} {a : Addr} : s.TypeIs (.ref a) "tuple" → LeftK s (.ref a) "tuple"
  | lst {s : Shared} {a : Addr} : s.TypeIs (.ref a) "list" → LeftK s (.ref a) "list"
theorem LeftK.ty (h : LeftK s v T) : s.TypeIs v T := by
  cases h with
  | non => rfl
  | bl b => rfl
  | str z t => rfl
  | tup h => exact h
  | lst h => exact h
theorem LeftK.one (h : LeftK s v T) (neg : Bool) (X : K.In s.heap) (I : InstAt s.heap x ox C od) (hp : ox.data = .plain) (hsub : subIn K (.ref C) (.type T) = some false) :
    wpAny (model prog w) A (tryCompare v (cmpInfo (if neg = true then .NotEq else .Eq)).2.1 (.ref x)) (fun r s' => r = none ∧ s' = s) E s := by
  cases h with
  | non => cases neg with
    | false => exact one_dec rfl PySem.F.slot_NoneType_eq PySem.F.entry_NoneType_eq (PySem.F.args_NoneType_eq_2 _ _) dec_none_eq
    | true => exact one_dec rfl PySem.F.slot_NoneType_ne PySem.F.entry_NoneType_ne (PySem.F.args_NoneType_ne_2 _ _) dec_none_ne
  | bl b => cases neg with
    | false => exact one_dec rfl PySem.F.slot_bool_eq PySem.F.entry_int_eq (PySem.F.args_int_eq_2 _ _) (dec_bool_eq I hp)
    | true => exact one_dec rfl PySem.F.slot_bool_ne PySem.F.entry_int_ne (PySem.F.args_int_ne_2 _ _) (dec_bool_ne I hp)
  | str z t => cases neg with
    | false => exact one_dec rfl PySem.F.slot_str_eq PySem.F.entry_str_eq (PySem.F.args_str_eq_2 _ _) (dec_str_eq I hp)
    | true => exact one_dec rfl PySem.F.slot_str_ne PySem.F.entry_str_ne (PySem.F.args_str_ne_2 _ _) (dec_str_ne I hp)
  | tup h => cases neg with
    | false => exact one_dec h PySem.F.slot_tuple_eq PySem.F.entry_tuple_eq (PySem.F.args_tuple_eq_2 _ _) (dec_tuple_eq X I hsub)
    | true => exact one_dec h PySem.F.slot_tuple_ne PySem.F.entry_tuple_ne (PySem.F.args_tuple_ne_2 _ _) (dec_tuple_ne X I hsub)
  | lst h => cases neg with
    | false => exact one_dec h PySem.F.slot_list_eq PySem.F.entry_list_eq (PySem.F.args_list_eq_2 _ _) (dec_list_eq X I hsub)
    | true => exact one_dec h PySem.F.slot_list_ne PySem.F.entry_list_ne (PySem.F.args_list_ne_2 _ _) (dec_list_ne X I hsub)
end
end Mv
end
section
set_option Elab.async false
set_option linter.all false
set_option maxRecDepth 100000
set_option maxHeartbeats 4000000
namespace Mv
open PySem PySem.Spec L2 PyProof.Rows
open Evl (Ex ex_l ex_t ex_rd)
section
variable {X : Cx} {S : Sy} {q : EqI} {j : Nat}
theorem own_rd {q : EqI} {n : Nat} {fs : List (Nat × D)} {d : D} {b : Bool} (h : eqD q (.ins n fs) d = some b) : ownR d = true ∧ q n (.ins n fs) d = some b := by
  unfold eqD at h
  by_cases ho : ownR d = true
  · rw [if_pos ho] at h; exact ⟨ho, h⟩
  · rw [if_neg ho] at h; cases h
theorem tyD_W {S : Sy} {W : Wd} {d : D} {t : Value} (ho : ownR d = true) (h : tyD S (fun _ => none) d = some t) : tyD S W d = some t := by
  cases d <;> first | exact h | cases ho
theorem rc_own (O : EqO X S q j) (neg : Bool) {A : Around} (sb : Sub X (j + 1) A) {pins : List (Addr × Obj)} {s : Shared} {σ : L2.St} {H F : Hp} {W : Wd} {n : Nat} {fs : List (Nat × D)} {d : D} {b : Bool} {x y : V} {v u : Value} (I : Inv X pins σ H s) (rl : Rel S F W H)
    (rx : RelV x v) (ry : RelV y u) (px : Rp S F x (.ins n fs)) (py : Rp S F y d) (ho : ownR d = true) (h : q n (.ins n fs) d = some b) :
    wpAny (model X.prog X.w) A (richCompare (if neg = true then .NotEq else .Eq) v u) (fun r s' => r = .bool (if neg = true then !b else b) ∧ Gd X S pins σ F W s') X.xe s := by
  have px0 := px
  cases px with
  | @ins a dx _ vs _ hq r1 =>
    obtain rfl : v = Value.ref a := rx
    obtain ⟨⟨t, ty, hn⟩, mo, ne, hsb⟩ := O.fa n fs d b h
    obtain ⟨cl, f, mt, G⟩ := O.me n fs d b h
    rw [← O.hK] at mt
    obtain ⟨mA, J0, _⟩ := ins_get I.hok (rl.sub _ _ hq)
    obtain ⟨od, J, _⟩ := J0.look
    obtain ⟨m0, hFr⟩ := I.fr
    have lk := look_ty (M := model X.prog X.w) O.hK I rl ry py (tyD_W ho ty)
    cases neg with
    | false =>
      refine PySem.W.cmp_K (op := .Eq) sb.room.units0 hFr I.ok.mod.kin J lk (by rw [O.hK]; exact hn) mt.at_ mt.fn ?_
      refine thn (run_eq O (sb.mono (Nat.le_succ j)) I rl px0 ry py h mt) fun r s' z => ?_
      obtain ⟨rfl, g⟩ := z
      exact ⟨rfl, g⟩
    | true =>
      refine ne_K (Nat.lt_of_le_of_lt (by omega) sb.room.units) I.kIn J lk (by rw [O.hK]; exact hn) (by rw [O.hK]; exact mo) (by rw [O.hK]; exact ne) mt.at_ mt.fn ?_
      refine thn (run_eq O sb.in1 I rl px0 ry py h mt) fun r s' z => ?_
      obtain ⟨rfl, g⟩ := z
      exact ⟨b, rfl, rfl, g⟩
theorem rc_intl (O : EqO X S q j) (neg : Bool) {A : Around} (sb : Sub X (j + 1) A) {pins : List (Addr × Obj)} {s : Shared} {σ : L2.St} {H F : Hp} {W : Wd} {n : Nat} {fs : List (Nat × D)} {i : Int} {b : Bool} {y : V} {t : Tok} {u : Value} (I : Inv X pins σ H s) (rl : Rel S F W H)
    (ry : RelV y u) (py : Rp S F y (.ins n fs)) (h : q n (.ins n fs) (.int i) = some b) :
    wpAny (model X.prog X.w) A (richCompare (if neg = true then .NotEq else .Eq) (.int i t) u) (fun r s' => r = .bool (if neg = true then !b else b) ∧ Gd X S pins σ F W s') X.xe s := by
  have py0 := py
  cases py with
  | @ins a dx _ vs _ hq r1 =>
    obtain rfl : u = Value.ref a := ry
    obtain ⟨_, mo, ne, hsb⟩ := O.fa n fs _ b h
    have hsb := hsb "int" (.head _)
    obtain ⟨cl, f, mt, G⟩ := O.me n fs _ b h
    rw [← O.hK] at mt
    obtain ⟨mA, J0, _⟩ := ins_get I.hok (rl.sub _ _ hq)
    obtain ⟨od, J, _⟩ := J0.look
    cases neg with
    | false =>
      refine cmp_intL (op := .Eq) sb.room.units0 I.kIn J rfl PySem.F.slot_int_eq PySem.F.entry_int_eq (fun a b => PySem.F.args_int_eq_2 _ _) dec_eq (by rw [O.hK]; exact hsb) mt.at_ mt.fn ?_
      refine thn (run_eq O (sb.mono (Nat.le_succ j)) (y := .int i) I rl py0 ⟨t, rfl⟩ (.int i) h mt) fun r s' z => ?_
      obtain ⟨rfl, g⟩ := z
      exact ⟨rfl, g⟩
    | true =>
      refine ne_intL (Nat.lt_of_le_of_lt (by omega) sb.room.units) I.kIn J rfl (by rw [O.hK]; exact mo) (by rw [O.hK]; exact hsb) (by rw [O.hK]; exact ne) mt.at_ mt.fn PySem.F.slot_int_ne PySem.F.entry_int_ne (fun a b => PySem.F.args_int_ne_2 _ _) ?_
      refine thn (run_eq O sb.in1 (y := .int i) I rl py0 ⟨t, rfl⟩ (.int i) h mt) fun r s' z => ?_
      obtain ⟨rfl, g⟩ := z
      exact ⟨b, rfl, rfl, g⟩
theorem rc_left (O : EqO X S q j) (neg : Bool) {A : Around} (sb : Sub X (j + 1) A) {pins : List (Addr × Obj)} {s : Shared} {σ : L2.St} {H F : Hp} {W : Wd} {n : Nat} {fs : List (Nat × D)} {d : D} {b : Bool} {x y : V} {v u : Value} {T : String} (I : Inv X pins σ H s) (rl : Rel S F W H)
    (rx : RelV x v) (px : Rp S F x d) (ry : RelV y u) (py : Rp S F y (.ins n fs)) (h : q n (.ins n fs) d = some b) (hk : LeftK s v T) (hT : T ∈ leftTs) :
    wpAny (model X.prog X.w) A (richCompare (if neg = true then .NotEq else .Eq) v u) (fun r s' => r = .bool (if neg = true then !b else b) ∧ Gd X S pins σ F W s') X.xe s := by
  have py0 := py
  cases py with
  | @ins a dx _ vs _ hq r1 =>
    obtain rfl : u = Value.ref a := ry
    obtain ⟨_, mo, ne, hsb⟩ := O.fa n fs _ b h
    have hsb := hsb T hT
    obtain ⟨cl, f, mt, G⟩ := O.me n fs _ b h
    rw [← O.hK] at mt hsb
    obtain ⟨mA, J0, _⟩ := ins_get I.hok (rl.sub _ _ hq)
    obtain ⟨od, J, _⟩ := J0.look
    have one := hk.one (prog := X.prog) (w := X.w) (A := A) (E := X.xe) neg I.kIn J rfl hsb
    cases neg with
    | false =>
      refine cmp_left sb.room.units0 I.kIn J hk.ty one hsb mt.at_ mt.fn ?_
      refine thn (run_eq O (sb.mono (Nat.le_succ j)) I rl py0 rx px h mt) fun r s' z => ?_
      obtain ⟨rfl, g⟩ := z
      exact ⟨rfl, g⟩
    | true =>
      refine ne_left (Nat.lt_of_le_of_lt (by omega) sb.room.units) I.kIn J hk.ty (by rw [O.hK]; exact mo) one hsb (by rw [O.hK]; exact ne) mt.at_ mt.fn ?_
      refine thn (run_eq O sb.in1 I rl py0 rx px h mt) fun r s' z => ?_
      obtain ⟨rfl, g⟩ := z
      exact ⟨b, rfl, rfl, g⟩
/-- by the two kinds -/
theorem rc_flat {A : Around} {s : Shared} (neg : Bool) {v u : Value} {b : Bool} {prog : Program} {w : World} {E : Value → Shared → Prop} {P : Shared → Prop} (he : SeqAt.RcAt A s v u b) (hn : SeqAt.RcNeAt A s v u (!b)) (g : P s) :
    wpAny (model prog w) A (richCompare (if neg = true then .NotEq else .Eq) v u) (fun r s' => r = .bool (if neg = true then !b else b) ∧ P s') E s := by
  cases neg with
  | false => exact he prog w E _ ⟨rfl, g⟩
  | true => exact hn prog w E _ ⟨rfl, g⟩
open SeqAt
theorem rcP : ∀ n : Nat, EqO X S q j → RcP X S q j n
  | n, O => by
    intro neg A pins s σ H F W v u x y c d b hdp sb I rl rx ry px py hq
    have g0 : Gd X S pins σ F W s := ⟨H, F, I, Ex.refl _, rl⟩
    have hu := sb.room.units0
    have sb1 : Sub X (j + 1) A := sb.mono (by omega)
    -- the heap's lists and tuples
    have lst : ∀ {a vs}, F a = some (.lst vs) → ∃ items, s.heap.IsList a items := fun {a vs} h => by
      obtain ⟨its, rv, p, hz⟩ := I.list (SqL.of (rl.sub _ _ h))
      exact ⟨_, p.isList⟩
    have tup : ∀ {a vs}, SqT S.K F a vs → ∃ items, s.heap.IsTuple a items := fun {a vs} h => by
      obtain ⟨its, rv, p, hz⟩ := I.tuple (by rw [O.hK]; exact ex_t rl.sub h)
      exact ⟨_, p⟩
    cases px with
    | @ins a dx m vs fs h1 r1 =>
      obtain ⟨ho, hq⟩ := own_rd hq
      exact rc_own O neg sb1 I rl rx ry (.ins h1 r1) py ho hq
    | @tup a vs cs h1 r1 =>
      obtain rfl : v = Value.ref a := rx
      obtain ⟨its, hi⟩ := tup h1
      cases py with
      | @tup a2 vs2 ds h2 r2 =>
        obtain rfl : u = Value.ref a2 := ry
        have hq' : eqDs q cs ds = some b := by unfold eqD at hq; exact hq
        match n, hdp, sb with
        | n + 1, hdp, sb => exact rc_tups O (eqP_of O (rcP n O)) neg sb I rl h1 h2 r1 r2 (Nat.le_of_succ_le_succ hdp) hq'
        | 0, hdp, sb => exact absurd hdp (by show ¬ (dps cs + 1 ≤ 0); omega)
      | @lst a2 vs2 ds h2 r2 =>
        obtain rfl : u = Value.ref a2 := ry
        obtain ⟨its2, hi2⟩ := lst h2
        unfold eqD at hq; cases hq
        exact rc_flat neg (.tuple_list hi hi2 hu) (.tuple_list hi hi2 hu) g0
      | non => cases ry; unfold eqD at hq; cases hq; exact rc_flat neg (.tuple_none hi hu) (.tuple_none hi hu) g0
      | bl k => cases ry; unfold eqD at hq; cases hq; exact rc_flat neg (.tuple_bool _ hi hu) (.tuple_bool _ hi hu) g0
      | int k => obtain ⟨t, rfl⟩ := ry; unfold eqD at hq; cases hq; exact rc_flat neg (.tuple_int _ _ hi hu) (.tuple_int _ _ hi hu) g0
      | str k => obtain ⟨t, rfl⟩ := ry; unfold eqD at hq; cases hq; exact rc_flat neg (.tuple_str _ _ hi hu) (.tuple_str _ _ hi hu) g0
      | @ins _ _ m us gs h2 r2 =>
        have hq : q m (.ins m gs) (.tup cs) = some b := by unfold eqD at hq; exact hq
        obtain ⟨o, ho, ht, _⟩ := hi
        exact rc_left O neg sb1 I rl (x := .ref a) rfl (.tup h1 r1) ry (.ins h2 r2) hq (.tup ⟨o, ho, ht⟩) (by decide)
      | _ => unfold eqD at hq; cases hq
    | @lst a vs cs h1 r1 =>
      obtain rfl : v = Value.ref a := rx
      obtain ⟨its, hi⟩ := lst h1
      cases py with
      | @lst a2 vs2 ds h2 r2 =>
        obtain rfl : u = Value.ref a2 := ry
        have hq' : (if cs.length = ds.length then eqDs q cs ds else some false) = some b := by unfold eqD at hq; exact hq
        match n, hdp, sb with
        | n + 1, hdp, sb => exact rc_lists O (eqP_of O (rcP n O)) neg sb I rl h1 h2 r1 r2 (Nat.le_of_succ_le_succ hdp) hq'
        | 0, hdp, sb => exact absurd hdp (by show ¬ (dps cs + 1 ≤ 0); omega)
      | @tup a2 vs2 ds h2 r2 =>
        obtain rfl : u = Value.ref a2 := ry
        obtain ⟨its2, hi2⟩ := tup h2
        unfold eqD at hq; cases hq
        exact rc_flat neg (.list_tuple hi hi2 hu) (.list_tuple hi hi2 hu) g0
      | non => cases ry; unfold eqD at hq; cases hq; exact rc_flat neg (.list_none hi hu) (.list_none hi hu) g0
      | bl k => cases ry; unfold eqD at hq; cases hq; exact rc_flat neg (.list_bool _ hi hu) (.list_bool _ hi hu) g0
      | int k => obtain ⟨t, rfl⟩ := ry; unfold eqD at hq; cases hq; exact rc_flat neg (.list_int _ _ hi hu) (.list_int _ _ hi hu) g0
      | str k => obtain ⟨t, rfl⟩ := ry; unfold eqD at hq; cases hq; exact rc_flat neg (.list_str _ _ hi hu) (.list_str _ _ hi hu) g0
      | @ins _ _ m us gs h2 r2 =>
        have hq : q m (.ins m gs) (.lst cs) = some b := by unfold eqD at hq; exact hq
        obtain ⟨o, ho, ht, _⟩ := hi
        exact rc_left O neg sb1 I rl (x := .ref a) rfl (.lst h1 r1) ry (.ins h2 r2) hq (.lst ⟨o, ho, ht⟩) (by decide)
      | _ => unfold eqD at hq; cases hq
    | non =>
      cases rx
      cases py with
      | non => cases ry; simp only [eqD, flatO] at hq; cases hq; exact rc_flat neg .none_none .none_none g0
      | bl k => cases ry; simp only [eqD, flatO] at hq; cases hq; exact rc_flat neg (.none_bool _) (.none_bool _) g0
      | int k => obtain ⟨t, rfl⟩ := ry; simp only [eqD, flatO] at hq; cases hq; exact rc_flat neg (.none_int _ _) (.none_int _ _) g0
      | str k => obtain ⟨t, rfl⟩ := ry; simp only [eqD, flatO] at hq; cases hq; exact rc_flat neg (.none_str _ _) (.none_str _ _) g0
      | @tup a2 vs2 ds h2 r2 => obtain rfl : u = Value.ref a2 := ry; obtain ⟨its2, hi2⟩ := tup h2; simp only [eqD] at hq; cases hq; exact rc_flat neg (.none_tuple hi2 hu) (.none_tuple hi2 hu) g0
      | @lst a2 vs2 ds h2 r2 => obtain rfl : u = Value.ref a2 := ry; obtain ⟨its2, hi2⟩ := lst h2; simp only [eqD] at hq; cases hq; exact rc_flat neg (.none_list hi2 hu) (.none_list hi2 hu) g0
      | ins h2 r2 => simp only [eqD] at hq; exact rc_left O neg sb1 I rl (x := .non) rfl .non ry (.ins h2 r2) hq .non (by decide)
      | _ => simp [eqD, flatO] at hq
    | bl z =>
      cases rx
      cases py with
      | non => cases ry; simp only [eqD, flatO] at hq; cases hq; exact rc_flat neg (.bool_none _) (.bool_none _) g0
      | bl k => cases ry; simp only [eqD, flatO] at hq; cases hq; exact rc_flat neg (.bool_bool _ _) (.bool_bool _ _) g0
      | int k => obtain ⟨t, rfl⟩ := ry; simp only [eqD, flatO] at hq; cases hq; exact rc_flat neg (.bool_int _ _ _) (.bool_int _ _ _) g0
      | str k => obtain ⟨t, rfl⟩ := ry; simp only [eqD, flatO] at hq; cases hq; exact rc_flat neg (.bool_str _ _ _) (.bool_str _ _ _) g0
      | @tup a2 vs2 ds h2 r2 => obtain rfl : u = Value.ref a2 := ry; obtain ⟨its2, hi2⟩ := tup h2; simp only [eqD] at hq; cases hq; exact rc_flat neg (.bool_tuple _ hi2 hu) (.bool_tuple _ hi2 hu) g0
      | @lst a2 vs2 ds h2 r2 => obtain rfl : u = Value.ref a2 := ry; obtain ⟨its2, hi2⟩ := lst h2; simp only [eqD] at hq; cases hq; exact rc_flat neg (.bool_list _ hi2 hu) (.bool_list _ hi2 hu) g0
      | ins h2 r2 => simp only [eqD] at hq; exact rc_left O neg sb1 I rl (x := .bl z) rfl (.bl z) ry (.ins h2 r2) hq (.bl z) (by decide)
      | _ => simp [eqD, flatO] at hq
    | int z =>
      obtain ⟨t0, rfl⟩ := rx
      cases py with
      | non => cases ry; simp only [eqD, flatO] at hq; cases hq; exact rc_flat neg (.int_none _ _) (.int_none _ _) g0
      | bl k => cases ry; simp only [eqD, flatO] at hq; cases hq; exact rc_flat neg (.int_bool _ _ _) (.int_bool _ _ _) g0
      | int k => obtain ⟨t, rfl⟩ := ry; simp only [eqD, flatO] at hq; cases hq; exact rc_flat neg (.int_int _ _ _ _) (.int_int _ _ _ _) g0
      | str k => obtain ⟨t, rfl⟩ := ry; simp only [eqD, flatO] at hq; cases hq; exact rc_flat neg (.int_str _ _ _ _) (.int_str _ _ _ _) g0
      | @tup a2 vs2 ds h2 r2 => obtain rfl : u = Value.ref a2 := ry; obtain ⟨its2, hi2⟩ := tup h2; simp only [eqD] at hq; cases hq; exact rc_flat neg (.int_tuple _ _ hi2 hu) (.int_tuple _ _ hi2 hu) g0
      | @lst a2 vs2 ds h2 r2 => obtain rfl : u = Value.ref a2 := ry; obtain ⟨its2, hi2⟩ := lst h2; simp only [eqD] at hq; cases hq; exact rc_flat neg (.int_list _ _ hi2 hu) (.int_list _ _ hi2 hu) g0
      | ins h2 r2 => simp only [eqD] at hq; exact rc_intl O neg sb1 I rl ry (.ins h2 r2) hq
      | _ => simp [eqD, flatO] at hq
    | str z =>
      obtain ⟨t0, rfl⟩ := rx
      cases py with
      | non => cases ry; simp only [eqD, flatO] at hq; cases hq; exact rc_flat neg (.str_none _ _) (.str_none _ _) g0
      | bl k => cases ry; simp only [eqD, flatO] at hq; cases hq; exact rc_flat neg (.str_bool _ _ _) (.str_bool _ _ _) g0
      | int k => obtain ⟨t, rfl⟩ := ry; simp only [eqD, flatO] at hq; cases hq; exact rc_flat neg (.str_int _ _ _ _) (.str_int _ _ _ _) g0
      | str k => obtain ⟨t, rfl⟩ := ry; simp only [eqD, flatO] at hq; cases hq; exact rc_flat neg (.str_str _ _ _ _) (.str_str _ _ _ _) g0
      | @tup a2 vs2 ds h2 r2 => obtain rfl : u = Value.ref a2 := ry; obtain ⟨its2, hi2⟩ := tup h2; simp only [eqD] at hq; cases hq; exact rc_flat neg (.str_tuple _ _ hi2 hu) (.str_tuple _ _ hi2 hu) g0
      | @lst a2 vs2 ds h2 r2 => obtain rfl : u = Value.ref a2 := ry; obtain ⟨its2, hi2⟩ := lst h2; simp only [eqD] at hq; cases hq; exact rc_flat neg (.str_list _ _ hi2 hu) (.str_list _ _ hi2 hu) g0
      | ins h2 r2 => simp only [eqD] at hq; exact rc_left O neg sb1 I rl (x := .str z) ⟨t0, rfl⟩ (.str z) ry (.ins h2 r2) hq (.str z t0) (by decide)
      | _ => simp [eqD, flatO] at hq
    | ty z => cases py <;> simp [eqD, flatO] at hq
    | ptr z => cases py <;> simp [eqD, flatO] at hq
    | dK _ _ => cases py <;> simp [eqD, flatO] at hq
    | dT _ _ => cases py <;> simp [eqD, flatO] at hq
    | frl _ _ => cases py <;> simp [eqD, flatO] at hq
    | exn _ _ _ => cases py <;> simp [eqD, flatO] at hq
    | lam _ _ => cases py <;> simp [eqD, flatO] at hq
  termination_by n => n
end
/-! ### the operators -/
section
variable {X : Cx} {S : Sy} {E : XS} {q : EqI} {j k : Nat}
def rEqQ (q : EqI) (neg : Bool) (n : Nat) : D2 := fun c d _ W Q _ => c.dp ≤ n ∧ kSome (eqD q c d) fun b => Q (.bl (if neg = true then !b else b)) W
theorem od_eqQ {n : Nat} (O : EqO X S q j) (hr : Room k X.A) (hk : j + 1 + n ≤ k) (neg : Bool) : OpD X S E (compareOp (if neg = true then .NotEq else .Eq)) (rEqQ q neg n) := by
  intro pins s σ H F sd W x y c d v u Q2 E2 I rl sr xc rx ry px py h
  obtain ⟨hd, h⟩ := h
  obtain ⟨b, hb, h⟩ := h.inv
  have z := rcP n O neg X.A pins s σ H F W v u x y c d b hd ⟨hr.mono hk, rfl⟩ I rl rx ry px py hb
  have e : compareOp (if neg = true then .NotEq else .Eq) v u = richCompare (if neg = true then .NotEq else .Eq) v u := by cases neg <;> rfl
  rw [e]
  refine thn z fun r s' ⟨hr, H', F', I', e', rl'⟩ => ?_
  subst hr
  exact ⟨.bl _, H', F', .bl _, W, I', rfl, e', rl', .bl _, h⟩
end
end Mv
end
section
set_option Elab.async false
set_option linter.all false
set_option maxRecDepth 100000
set_option maxHeartbeats 4000000
namespace Mv
open PySem PySem.Spec L2
open Evl (Ex ex_l ex_t ex_rd)
open PyProof.Rows
section
variable {X : Cx} {S : Sy} {E : XS} {k n : Nat} {f : Addr} {dds : List D} {sp2 : DSp}

/-! ## the callee's code -/
theorem run_atC {A : Around} {pins : List (Addr × Obj)} {s : Shared} {σ : L2.St} {H F : Hp} {sd : SD} {W : Wd} {us : List Value} {vs : List V} {ds : List D} {Q2 : QD} {E2 : QX} (hK : X.K = S.K) (G : FnD X.prog X.w S X.mg X.base k f n dds sp2) (hr : Room k A) (e0 : Env0 X.prog X.w X.K X.mg X.base A X.stack s H) (tk : Takes X E)
    (I : Inv X pins σ H s) (rl : Rel S F W H) (sr : SRel S F σ sd) (xc : XCv S F E2 E) (r : Vals vs us) (rp : Rps S F vs ds) (h : dfl n dds ds fun ds' => sp2 ds' W Q2 (fun d W' => E2 d sd W')) :
    codeAny (model X.prog X.w) A (.call (.ref f) ⟨us, []⟩) (fun r s' => match r with | .ok (.ret v) => DP X S pins σ F Q2 v s' | .ok _ => False | .error e => X.xe e s') s := by
  obtain ⟨⟨fd, ps, dvs, Fn, hn, hdd, hbd⟩, kp⟩ := G
  obtain ⟨h1, h2, h⟩ := h
  obtain ⟨dv, rv, hb⟩ := hbd (dds.length - (n - ds.length)) (by omega)
  have r2 : Vals (vs ++ dvs.drop (dds.length - (n - ds.length))) (us ++ dv) := r.append rv
  have ldv : dvs.length = dds.length := (hdd F).length
  have lvs : vs.length = ds.length := rp.length
  have hl : (us ++ dv).length = ps.length := by
    rw [← r2.length, List.length_append, List.length_drop, hn, lvs, ldv]
    omega
  have hsp : upSp S sp2 (vs ++ dvs.drop (dds.length - (n - ds.length))) H (tkQ S F Q2) (WE E σ) :=
    ⟨F, W, _, Q2, _, rl, rp.append ((hdd F).drop _), tkQ_cv, fun F' dx vs c fs W' H' e rl' hx rf q => xc F' dx vs c fs σ sd W' H' e rl' (sr.mono e) hx rf q, h⟩
  rw [← hK] at Fn hb
  refine codeAny_mono (Fn.run A X.stack s H ⟨us, []⟩ (us ++ dv) _ _ (WE E σ) hr e0 (hb s us I.kIn hl) r2 hsp) fun r s' hq => ?_
  cases r with
  | error e => exact passAt tk σ pins H s e s' I hq
  | ok fl =>
    cases fl with
    | ret u => exact EP.tk (I.after hq)
    | next => exact False.elim hq
    | brk => exact False.elim hq
    | cont => exact False.elim hq

/-! ## C.m(..): static, class methods -/
structure SMet (K : PySem.W.Frag) (C : Addr) (m : Str) (p g : Addr) : Prop where
  at_ : PySem.W.findCls K (.ref C) (.type "type") m = some (.get (.builtin "staticmethod.__get__") (.ref p) .none (.ref C))
  rc : ∃ rest, PySem.W.recIn K p "staticmethod" = some (.ref g :: rest)
structure SmD (P : Program) (w : World) (S : Sy) (mg : Str → Option Value) (base : Heap) (k : Nat) (C : Addr) (m : Str) (n : Nat) (dds : List D) (sp2 : DSp) : Prop where
  rd : ClX.CRead S.K C (.type "type")
  ex : ∃ p g, SMet S.K C m p g ∧ FnD P w S mg base k g n dds sp2
theorem SmD.mono {P : Program} {w : World} {mg : Str → Option Value} {base : Heap} {j k : Nat} {C : Addr} {m : Str} (G : SmD P w S mg base j C m n dds sp2) (h : j ≤ k) : SmD P w S mg base k C m n dds sp2 := by
  obtain ⟨a, p, g, b, c⟩ := G
  exact ⟨a, p, g, b, c.mono h⟩
structure CmD (P : Program) (w : World) (S : Sy) (mg : Str → Option Value) (base : Heap) (k : Nat) (C : Addr) (m : Str) (n : Nat) (dds : List D) (sp2 : DSp) : Prop where
  rd : ClX.CRead S.K C (.type "type")
  ex : ∃ p g, ClX.CMet S.K C (.type "type") m p g ∧ FnD P w S mg base k g n dds sp2
theorem CmD.mono {P : Program} {w : World} {mg : Str → Option Value} {base : Heap} {j k : Nat} {C : Addr} {m : Str} (G : CmD P w S mg base j C m n dds sp2) (h : j ≤ k) : CmD P w S mg base k C m n dds sp2 := by
  obtain ⟨a, p, g, b, c⟩ := G
  exact ⟨a, p, g, b, c.mono h⟩
/-- the class stands there; the call -/
def dSm (C : Addr) (n : Nat) (dds : List D) (sp2 : DSp) (ta : DE) (t : DA) : DE := fun sd W Q E2 => ta sd W (fun d W1 => d = .ptr C ∧ t sd W1 (fun ds W2 => dfl n dds ds fun ds' => sp2 ds' W2 Q (fun x W' => E2 x sd W')) E2) E2
def dCm (C : Addr) (n : Nat) (dds : List D) (sp2 : DSp) (ta : DE) (t : DA) : DE := fun sd W Q E2 => ta sd W (fun d W1 => d = .ptr C ∧ t sd W1 (fun ds W2 => dfl n dds (.ptr C :: ds) fun ds' => sp2 ds' W2 Q (fun x W' => E2 x sd W')) E2) E2
variable {o e : Expr} {es : List Expr} {m : Str} {apos pos : Pos} {ta : DE} {t : DA} {pl : Sem Bool} {C : Addr}
theorem getmethsm_ok {pins : List (Addr × Obj)} {σ : L2.St} {H : Hp} {s : Shared} {A : Around} {E' : Value → Shared → Prop} {p g : Addr} {Q : Value × List Value → Shared → Prop} (I : Inv X pins σ H s) (r : ClX.CRead X.K C (.type "type")) (c : SMet X.K C m p g) (h : ∀ s', Inv X pins σ H s' → Q (.ref g, []) s') :
    wpAny (model X.prog X.w) A (getMethod (.ref C) m pl) Q E' s := by
  obtain ⟨rest, hp⟩ := c.rc
  refine PySem.W.method_cls I.kIn r.ga (PySem.W.cls_bind I.kIn r.rd c.at_ ?_)
  exact wpAny_call (PySem.W.sm_get (s := { s with toks := s.toks + 1 }) I.kIn hp (PySem.W.handed_on rfl (h _ (I.tok _))))
theorem pd_smeth (hK : X.K = S.K) (tk : Takes X E) (hr : Room k X.A) (G : SmD X.prog X.w S X.mg X.base k C m n dds sp2) (ho : PD X S E o ta) (ha : PAd X S E (e :: es) t)
    (hst : starEach (e :: es) X.env = (false, eval e X.env) :: starEach es X.env := by rfl) (hpl : (backTo pos (starEach es X.env)).any (·.1) = false := by rfl)
    (ht : eval (.Call (.Attribute o m apos) (e :: es) [] pos) X.env = (do
      let ov ← eval o X.env
      standAt apos.atName
      let (f, first) ← holding [ov] (getMethod ov m pl)
      callWith pos f first (backTo pos (starEach (e :: es) X.env)) (backToKw pos (keywordEach [] X.env))) := by rfl) :
    PD X S E (.Call (.Attribute o m apos) (e :: es) [] pos) (dSm C n dds sp2 ta t) := by
  refine ⟨fun pins s σ H F sd W Q2 E2 I rl sr xc h => ?_⟩
  obtain ⟨rd, p, g, c, Gf⟩ := G
  rw [← hK] at rd c
  refine PySem.W.methodCall_KW (pl := pl) (thn (ho.run pins s σ H F sd W _ E2 I rl sr xc h) fun u s1 ⟨x, H1, F1, d, W1, I1, rx, e1, rl1, rp, ed, q⟩ => ?_) ht
  subst ed
  cases rp
  obtain rfl : u = Value.ref C := rx
  refine getmethsm_ok I1 rd c fun s2 I2 => ?_
  refine PySem.W.callWith_K (first := []) (h₀ := X.base) I.ok.mod.kin (by rw [hK]; exact Gf.kp) (thn (ha.run pos pins s2 σ H1 F1 sd W1 _ E2 I2 rl1 (sr.mono e1) (XCv.mono e1 xc) q) fun us s3 ⟨vs2, H2, F2, ds, W2, I3, r2, e2, rl2, rp2, q2⟩ => ⟨I3.kIn, ?_⟩) hst hpl
  exact thn (run_at (us := us) hK Gf hr I3.env0 tk I3 rl2 (sr.mono (e1.trans e2)) (XCv.mono (e1.trans e2) xc) r2 rp2 q2) fun u s' z => z.back (e1.trans e2)
theorem unpinD {p : Addr × Obj} {pins : List (Addr × Obj)} {σ : L2.St} {F : Hp} {Q : QD} {u : Value} {s' : Shared} (h : DP X S (p :: pins) σ F Q u s') : DP X S pins σ F Q u s' := by
  obtain ⟨v, H', F', d, W', I, r⟩ := h
  exact ⟨v, H', F', d, W', ClX.unpin I, r⟩
theorem pd_cmeth (hK : X.K = S.K) (tk : Takes X E) (hr : Room k X.A) (G : CmD X.prog X.w S X.mg X.base k C m n dds sp2) (ho : PD X S E o ta) (ha : PAd X S E (e :: es) t)
    (hst : starEach (e :: es) X.env = (false, eval e X.env) :: starEach es X.env := by rfl) (hpl : (backTo pos (starEach es X.env)).any (·.1) = false := by rfl)
    (ht : eval (.Call (.Attribute o m apos) (e :: es) [] pos) X.env = (do
      let ov ← eval o X.env
      standAt apos.atName
      let (f, first) ← holding [ov] (getMethod ov m pl)
      callWith pos f first (backTo pos (starEach (e :: es) X.env)) (backToKw pos (keywordEach [] X.env))) := by rfl) :
    PD X S E (.Call (.Attribute o m apos) (e :: es) [] pos) (dCm C n dds sp2 ta t) := by
  refine ⟨fun pins s σ H F sd W Q2 E2 I rl sr xc h => ?_⟩
  obtain ⟨rd, p, g, c, Gf⟩ := G
  rw [← hK] at rd c
  refine PySem.W.methodCall_KW (pl := pl) (thn (ho.run pins s σ H F sd W _ E2 I rl sr xc h) fun u s1 ⟨x, H1, F1, d, W1, I1, rx, e1, rl1, rp, ed, q⟩ => ?_) ht
  subst ed
  cases rp
  obtain rfl : u = Value.ref C := rx
  refine ClX.getmethcm_ok I1 rd c fun s2 I2 => ?_
  refine ClX.callwith_cm I2 (ClX.base_none I1 (Nat.le_refl _)) c.fi (thn (ha.run pos _ s2 σ H1 F1 sd W1 _ E2 I2 rl1 (sr.mono e1) (XCv.mono e1 xc) q) fun us s3 ⟨vs2, H2, F2, ds, W2, I3, r2, e2, rl2, rp2, q2⟩ => ⟨⟨ClX.pin_at I3, I3.kIn⟩, ?_⟩) hst hpl
  exact thn (wpAny_call (PySem.W.method_call (ClX.pin_at I3) (run_atC (us := .ref C :: us) (vs := .ref C :: vs2) (ds := .ptr C :: ds) hK Gf hr I3.env0 tk I3 rl2 (sr.mono (e1.trans e2)) (XCv.mono (e1.trans e2) xc) (.cons rfl r2) (.cons (.ptr C) rp2) q2))) fun u s' z => (unpinD z).back (e1.trans e2)
/-- cls(..), the class in a slot -/
theorem pd_makeL {c : Nat} {x : Str} {p : Pos} {i : Nat} (hK : X.K = S.K) (tk : Takes X E) (hr : Room (k + 1) X.A) (G : MkD X.prog X.w S X.mg X.base k c n dds sp2) (ha : PAd X S E (e :: es) t) (hN : X.N[i]? = some x := by rfl) (hv : Vis X.env.scope x := by first | exact Or.inl rfl | exact Or.inr (Or.inl rfl) | exact Or.inr (Or.inr rfl))
    (hdb : (x == ("__debug__" : Str)) = false := by decide) (hcd : (x == ("__classdict__" : Str)) = false := by decide) (he : starEach (e :: es) X.env = (false, eval e X.env) :: starEach es X.env := by rfl) (hpl : (backTo pos (starEach es X.env)).any (·.1) = false := by rfl) :
    PD X S E (.Call (.Name x p) (e :: es) [] pos) (fun sd W Q E2 => sd[i]? = some (some (.ptr (S.ca c))) ∧ dMake c n dds sp2 t sd W Q E2) := by
  refine ⟨fun pins s σ H F sd W Q2 E2 I rl sr xc ⟨hi, h⟩ => ?_⟩
  obtain ⟨v0, hv0, pv⟩ := sr.at_ i _ hi
  cases pv
  refine wpAny_Call_Name_kw (thn ((pe_var (pos := p) hN hv hdb hcd).run pins s σ H (fun v H1 => v = .ref (S.ca c) ∧ H1 = H) I ⟨_, hv0, rfl, rfl⟩) fun u s1 ⟨v, H1, I1, r1, q1⟩ => ?_)
  obtain ⟨rfl, rfl⟩ := q1
  cases r1
  have kp : PySem.W.keepIn X.K (.ref (S.ca c)) = true := by
    obtain ⟨f, M, _⟩ := G
    rw [hK]
    exact M.kp
  refine PySem.W.callWith_K (h₀ := X.base) I.ok.mod.kin kp (thn (ha.run pos pins s1 σ _ F sd W _ E2 I1 rl sr xc h) fun us s1 ⟨vs, H1, F1, ds, W1, I1, r, e1, rl1, rp, q⟩ => ⟨I1.kIn, ?_⟩) he hpl
  exact thn (run_mk hK G hr tk I1 rl1 (sr.mono e1) (XCv.mono e1 xc) r rp q) fun u s' z => z.back e1
end

/-! ## small operators -/
section
variable {X : Cx} {S : Sy} {E : XS} {k : Nat}
def dNeg (t : DE) : DE := fun sd W Q E2 => t sd W (fun d W1 => match d with
  | .int i => Q (.int (-i)) W1
  | _ => False) E2
theorem pd_neg {a : Expr} {ta : DE} {pos : Pos} (ha : PD X S E a ta) : PD X S E (.UnaryOp .USub a pos) (dNeg ta) :=
  PE.pd (pe_un un_neg ha.pe) fun σ H F sd W Q2 E2 rl sr xc q => ⟨F, sd, W, _, E2, rl, sr, fun F1 v d W1 H1 e1 r1 p1 q1 => by
    cases p1 <;> first | exact q1.elim | skip
    exact ⟨_, rfl, tkQ_of e1 r1 (.int _) q1⟩, xc, q⟩
def isNon : D → Bool
  | .non => true
  | _ => false
/-- is None; is not None -/
def rIsN (neg : Bool) : D2 := fun c d _ W Q _ => d = .non ∧ Q (.bl (if neg = true then !isNon c else isNon c)) W
theorem isNon_dec {F : Hp} {x : V} {c : D} (p : Rp S F x c) : decide (x = .non) = isNon c := by
  cases p <;> simp [isNon]
theorem od_isN : OpD X S E (compareOp .Is) (rIsN false) := OpR.od op_isN fun σ H F sd W x y c d Q2 E2 rl sr xc px py ⟨hd, q⟩ => by
  subst hd
  cases py
  exact ⟨rfl, tkQ_of (Ex.refl _) rl (by rw [isNon_dec px]; exact .bl _) q⟩
theorem od_notN : OpD X S E (compareOp .IsNot) (rIsN true) := OpR.od op_notN fun σ H F sd W x y c d Q2 E2 rl sr xc px py ⟨hd, q⟩ => by
  subst hd
  cases py
  exact ⟨rfl, tkQ_of (Ex.refl _) rl (by rw [isNon_dec px]; exact .bl _) q⟩
/-- in, not in: a text in a text -/
def rInS (neg : Bool) : D2 := fun c d _ W Q _ => match c, d with
  | .str i, .str j => Q (.bl (if neg = true then !(!(Builtin.Str.occurrences j i 0 j.length 1).isEmpty) else !(Builtin.Str.occurrences j i 0 j.length 1).isEmpty)) W
  | _, _ => False
theorem od_inS : OpD X S E (compareOp .In) (rInS false) := OpR.od op_in_str fun σ H F sd W x y c d Q2 E2 rl sr xc px py q => by
  cases px <;> first | exact q.elim | skip
  cases py <;> first | exact q.elim | skip
  exact ⟨_, _, rfl, rfl, tkQ_of (Ex.refl _) rl (.bl _) q⟩
theorem od_notInS : OpD X S E (compareOp .NotIn) (rInS true) := OpR.od op_notin_str fun σ H F sd W x y c d Q2 E2 rl sr xc px py q => by
  cases px <;> first | exact q.elim | skip
  cases py <;> first | exact q.elim | skip
  exact ⟨_, _, rfl, rfl, tkQ_of (Ex.refl _) rl (.bl _) q⟩

/-! ### o[i] = v -/
def kLst (W : Wd) (d : D) (q : Addr → List D → Prop) : Prop := match d with
  | .ptr a => (match W a with
    | some (.lst ds) => q a ds
    | _ => False)
  | _ => False
theorem kLst.at {H F : Hp} {W : Wd} {v : V} {d : D} {q : Addr → List D → Prop} (rl : Rel S F W H) (rp : Rp S F v d) (h : kLst W d q) : ∃ a vs ds, v = .ref a ∧ H a = some (.lst vs) ∧ Rps S F vs ds ∧ W a = some (.lst ds) ∧ q a ds := by
  cases rp with
  | ptr a =>
    have h2 : (match W a with | some (.lst ds) => q a ds | _ => False) := h
    cases e : W a with
    | none => rw [e] at h2; exact h2.elim
    | some m =>
      rw [e] at h2
      cases m with
      | lst ds =>
        obtain ⟨_, vs, e1, r1⟩ := rl.obj a _ e
        exact ⟨a, vs, ds, rfl, e1, r1, e, h2⟩
      | _ => exact h2.elim
  | _ => exact h.elim
theorem Rps.set {F : Hp} {v : V} {d : D} (p : Rp S F v d) : ∀ (i : Nat) {vs : List V} {ds : List D}, Rps S F vs ds → Rps S F (vs.set i v) (ds.set i d)
  | _, _, _, .nil => .nil
  | 0, _, _, .cons _ t => .cons p t
  | i + 1, _, _, .cons h t => .cons h (Rps.set p i t)
def gSetL (to ti : DE) : DG := fun d sd W Q => to sd W (fun o W1 => ti sd W1 (fun i W2 => match i with
  | .int k => kLst W2 o fun a ds => kSome (ixN ds.length k) fun j => Q sd (put W2 a (.lst (ds.set j d)))
  | _ => False) E2F) E2F
theorem pgd_setL {o i : Expr} {to ti : DE} {pos : Pos} (ho : PD X S EF o to) (hi : PD X S EF i ti)
    (ha : ∀ v, assign (.Subscript o i pos) X.env v = (do
      let ov ← holding [v] (eval o X.env)
      let iv ← holding [v, ov] (eval i X.env)
      standAt pos
      holding [v, ov, iv] (setItem ov iv v)
      release [v, ov, iv] []) := by intro _; rfl) : PGd X S (.Subscript o i pos) (gSetL to ti) := by
  refine ⟨fun pins s σ H F sd W v d u Q I rl sr rv rp h => ?_⟩
  rw [ha]
  refine wpAny_bind (wpAny_holding (thn (ho.run pins s σ H F sd W _ E2F I rl sr xcF h) fun ov s1 ⟨x, H1, F1, d1, W1, I1, r1, e1, rl1, p1, q1⟩ => ?_))
  refine wpAny_bind (wpAny_holding (thn (hi.run pins s1 σ H1 F1 sd W1 _ E2F I1 rl1 (sr.mono e1) xcF q1) fun iv s2 ⟨y, H2, F2, d2, W2, I2, r2, e2, rl2, p2, q2⟩ => ?_))
  cases p2 <;> first | exact q2.elim | skip
  obtain ⟨a, vs, ds, ex, ea, ru, hw, q2⟩ := kLst.at rl2 (p1.mono e2) q2
  obtain ⟨j, hj, q2⟩ := q2.inv
  subst ex
  have pv := rp.mono (e1.trans e2)
  refine wpAny_bind (wpAny_standAt (wpAny_bind (wpAny_holding (thn (set_list pins s2 σ H2 (.ref a) _ v ov iv u (fun H' => ∃ F' sd' W', Ex F F' ∧ Rel S F' W' H' ∧ SRel S F' σ sd' ∧ Q sd' W') I2 r1 r2 rv ⟨a, vs, _, j, rfl, rfl, ea, by rw [ru.length]; exact hj, F2, sd, _, e1.trans e2, rl2.set (m := .lst (ds.set j d)) hw ⟨_, rfl, Rps.set pv j ru⟩, sr.mono (e1.trans e2), q2⟩) fun _ s3 ⟨H3, I3, F', sd', W', a1, a2, a3, a4⟩ => ?_))))
  exact wpAny_release ⟨σ, H3, F', sd', W', I3, a1, a2, a3, a4⟩
end
end Mv
end
section
set_option Elab.async false
set_option linter.all false
set_option maxRecDepth 100000
set_option maxHeartbeats 4000000
namespace Mv
open PySem PySem.SeqAt
open AutoSeq1 (wpAny_loadPart')
open MeetsSeq MeetsSeq2 MeetsSeq3 SeqRoads2
open GQ (FinOf call_here)
section
variable {prog : Program} {w : World} {A : Around} {R : Result → Shared → Prop}
/-- the list is read anew at each turn -/
def InJ (prog : Program) (w : World) (A : Around) (E : Value → Shared → Prop) (l : Addr) (x : Value) (N : Nat) (I : Nat → Shared → Prop) (J : Shared → Prop) : Prop :=
  ∀ i s, I i s → ∃ (items : Array Value) (n : Nat), s.heap.get? l = some { cls := .type "list", data := .seq items n } ∧ items.size = N ∧
    ∀ (h1 : i < items.size), wpAny (model prog w) A.in1 (eqBool items[i] x) (fun r s' => (r = false ∧ I (i + 1) s') ∨ (r = true ∧ J s')) E s
theorem in_loopJ (l : Addr) (x : Value) (N : Nat) (I : Nat → Shared → Prop) (J : Shared → Prop) (hl : InJ prog w A (fun e s' => R (.error e) s') l x N I J)
    (fin : ∀ s, I N s → R (.ok (.ret (.bool false))) s) (fin1 : ∀ s, J s → R (.ok (.ret (.bool true))) s) (k : Nat) :
    ∀ i : Nat, N - i = k → i ≤ N → ∀ s, I i s →
      wpAny (model prog w) A.in1 (Builtin.«list.__contains__.loop» ⟨[.ref l, x, rawInt i], []⟩) (FinOf prog w A R) (fun e s' => R (.error e) s') s := by
  induction k with
  | zero =>
    intro i hk hi s h
    obtain ⟨items, n, hl1, hs1, _⟩ := hl _ _ h
    have hi' : i = N := by omega
    have hR : R (.ok (.ret (.bool false))) s := fin s (hi' ▸ h)
    obtain ⟨hp, g, d, tk, os⟩ := s
    wp_walk using wpAny_loadPart' hl1
    have hi1 : items[((i : Nat) : Int).toNat]? = none := by simp; omega
    rw [hi1]
    wp_walk
    exact hR
  | succ k ih =>
    intro i hk hi s h
    obtain ⟨items, n, hl1, hs1, turn⟩ := hl _ _ h
    have hlt : i < items.size := by omega
    have ht := turn hlt
    obtain ⟨hp, g, d, tk, os⟩ := s
    wp_walk using wpAny_loadPart' hl1
    have hi1 : items[((i : Nat) : Int).toNat]? = some items[i] := by simp [hlt]
    have hc : ((i : Int) + 1) = ((i + 1 : Nat) : Int) := by omega
    rw [hi1]
    refine wpAny_bind (wpAny_mono ht (fun r s2 h2 => ?_) fun _ _ x => x)
    rcases h2 with ⟨hr, h2⟩ | ⟨hr, h2⟩
    · subst hr
      have hrec := ih (i + 1) (by omega) (by omega) s2 h2
      obtain ⟨hp2, g2, d2, tk2, os2⟩ := s2
      wp_walk
      rw [hc]
      exact ⟨plainId_quiet plain_contains_loop _, codeAny_builtin entry_contains_loop (by
        rw [Around.under_plainId plain_contains_loop _]
        exact hrec)⟩
    · subst hr
      have hf := fin1 s2 h2
      obtain ⟨hp2, g2, d2, tk2, os2⟩ := s2
      wp_walk
      exact hf
theorem list_inJ (l : Addr) (x : Value) (N : Nat) (I : Nat → Shared → Prop) (J : Shared → Prop) (hl : InJ prog w A (fun e s' => R (.error e) s') l x N I J)
    (fin : ∀ s, I N s → R (.ok (.ret (.bool false))) s) (fin1 : ∀ s, J s → R (.ok (.ret (.bool true))) s) {s : Shared} (h : I 0 s) :
    wpAny (model prog w) A.in1 (Builtin.«list.__contains__» ⟨[.ref l, x], []⟩) (FinOf prog w A R) (fun e s' => R (.error e) s') s := by
  obtain ⟨items, n, hl1, hs1, _⟩ := hl _ _ h
  have hrec := in_loopJ (A := A) (R := R) l x N I J hl fin fin1 _ 0 rfl (Nat.zero_le _) s h
  obtain ⟨hp, g, d, tk, os⟩ := s
  wp_walk using wpAny_loadPart' hl1
  exact ⟨plainId_quiet plain_contains_loop _, codeAny_builtin entry_contains_loop (by
    rw [Around.under_plainId plain_contains_loop _]
    exact hrec)⟩
theorem tuple_inJ (l : Addr) (items : Array Value) (n : Nat) (dd : Option Addr) (sl : Array (Option Value)) (x : Value) (I : Nat → Shared → Prop) (J : Shared → Prop)
    (turn : ∀ i (h1 : i < items.size) s, I i s → wpAny (model prog w) A.in1 (eqBool items[i] x) (fun r s' => (r = false ∧ I (i + 1) s') ∨ (r = true ∧ J s')) (fun e s' => R (.error e) s') s)
    (fin : ∀ s, I items.size s → R (.ok (.ret (.bool false))) s) (fin1 : ∀ s, J s → R (.ok (.ret (.bool true))) s)
    {s : Shared} (hl : s.heap.get? l = some { cls := .type "tuple", dict := dd, data := .seq items n, slots := sl }) (h : I 0 s) :
    wpAny (model prog w) A.in1 (Builtin.«tuple.__contains__» ⟨[.ref l, x], []⟩) (FinOf prog w A R) (fun e s' => R (.error e) s') s := by
  have h0 := h
  obtain ⟨hp, g, d, tk, os⟩ := s
  wp_walk using wpAny_loadPart' hl, wpAny_forIn_array _ (fun rest b s' => b.1 = none ∧ ∃ i, rest = items.toList.drop i ∧ i ≤ items.size ∧ I i s') _
  case turn =>
    rintro y rest b s' ⟨hb, i, hz, hi, hI⟩
    have hlt : i < items.toList.length := by
      rcases Nat.lt_or_ge i items.toList.length with h' | h'
      · exact h'
      · rw [List.drop_of_length_le h'] at hz; cases hz
    have h1 : i < items.size := by simpa using hlt
    rw [List.drop_eq_getElem_cons hlt] at hz
    injection hz with hy hrest
    have hy : y = items[i] := by simpa using hy
    subst hy
    refine wpAny_bind (wpAny_mono (turn i h1 s' hI) (fun r s2 q2 => ?_) fun _ _ x => x)
    rcases q2 with ⟨hr, q2⟩ | ⟨hr, q2⟩
    · subst hr
      wp_walk
      exact ⟨rfl, i + 1, hrest, by omega, q2⟩
    · subst hr
      wp_walk
      exact fin1 s2 q2
  case fin =>
    rintro ⟨b1, b2⟩ s' ⟨hb, i, hz, hi, hI⟩
    simp only at hb
    subst hb
    have hi' : i = items.size := by
      rcases Nat.lt_or_ge i items.toList.length with h' | h'
      · rw [List.drop_eq_getElem_cons h'] at hz; cases hz
      · have : items.size ≤ i := by simpa using h'
        omega
    have hR := fin s' (hi' ▸ hI)
    wp_walk
    exact hR
  case h =>
    exact ⟨rfl, 0, by simp, Nat.zero_le _, h0⟩
variable {s : Shared} {E : Value → Shared → Prop}
/-- in, not in: by the container's own slot -/
theorem in_code {T id : String} {B : Builtin} {c x : Value} {Q : Value → Shared → Prop} (neg : Bool) (hT : s.TypeIs c T) (slot : Slot T "__contains__" id)
    (entry : entryFor table id = some B) (args : argsOk id ⟨[c, x], []⟩)
    (h : wpAny (model prog w) A.in1 (B ⟨[c, x], []⟩) (FinOf prog w A (wants (fun v s' => ∃ b, v = .bool b ∧ Q (.bool (if neg = true then !b else b)) s') E)) (fun e s' => wants (fun v s' => ∃ b, v = .bool b ∧ Q (.bool (if neg = true then !b else b)) s') E (.error e) s') s) :
    wpAny (model prog w) A (compareOp (if neg = true then .NotIn else .In) x c) Q E s := by
  cases neg with
  | false =>
    show wpAny _ A (do return .bool (← contains c x)) Q E s
    refine wpAny_bind (wpAny_contains_slot hT slot (wpAny_mono (call_here slot hT entry args h) (fun v s' hv => ?_) fun _ _ e => e))
    obtain ⟨b, rfl, hq⟩ := hv
    exact wpAny_truthy_bool (wpAny_pure hq)
  | true =>
    show wpAny _ A (do return .bool (!(← contains c x))) Q E s
    refine wpAny_bind (wpAny_contains_slot hT slot (wpAny_mono (call_here slot hT entry args h) (fun v s' hv => ?_) fun _ _ e => e))
    obtain ⟨b, rfl, hq⟩ := hv
    exact wpAny_truthy_bool (wpAny_pure hq)
end
end Mv
namespace Mv
open PySem PySem.Spec L2 PyProof.Rows
open Evl (Ex ex_l ex_t ex_rd)
section
variable {X : Cx} {S : Sy} {E : XS} {q : EqI} {j k : Nat}
def anyQ (q : EqI) (x : D) : List D → Option Bool
  | [] => some false
  | d :: ds => (match eqD q d x with
    | some true => some true
    | some false => anyQ q x ds
    | none => none)
def rInQ (q : EqI) (neg : Bool) (n : Nat) : D2 := fun c d _ W Q _ => kSeq W d fun ds => dps ds ≤ n ∧ ds.length ≤ 1000000 ∧ kSome (anyQ q c ds) fun b => Q (.bl (if neg = true then !b else b)) W
def RestA (X : Cx) (S : Sy) (q : EqI) (pins : List (Addr × Obj)) (σ : L2.St) (F : Hp) (W : Wd) (x : D) (ds : List D) (b : Bool) (i : Nat) (s' : Shared) : Prop :=
  Gd X S pins σ F W s' ∧ anyQ q x (ds.drop i) = some b
theorem dps_get {cs : List D} {i : Nat} (hi : i < cs.length) : (cs[i]).dp ≤ dps cs := by
  induction cs generalizing i with
  | nil => simp at hi
  | cons c cs ih =>
    cases i with
    | zero => show c.dp ≤ max c.dp (dps cs); omega
    | succ i =>
      have := ih (i := i) (by simpa using hi)
      show (cs[i]'(by simpa using hi)).dp ≤ max c.dp (dps cs)
      omega
theorem turnA {n : Nat} (O : EqO X S q j) {A : Around} (sb : Sub X (j + 1 + n) A) {pins : List (Addr × Obj)} {σ : L2.St} {F : Hp} {W : Wd} {y : V} {x : D} {u : Value} {ys : List V} {ds : List D} {its : List Value} {b : Bool} (rx : RelV y u) (px : Rp S F y x) (hdp : dps ds ≤ n)
    (i : Nat) (s' : Shared) {H1 F1 : Hp} (I1 : Inv X pins σ H1 s') (e1 : Ex F F1) (rl1 : Rel S F1 W H1) (rd : Rps S F1 ys ds) (r : Vals ys its) (h1 : i < its.toArray.size) (hq : anyQ q x (ds.drop i) = some b) :
    wpAny (model X.prog X.w) A (eqBool its.toArray[i] u) (fun z s2 => (z = false ∧ RestA X S q pins σ F W x ds b (i + 1) s2) ∨ (z = true ∧ Gd X S pins σ F W s2 ∧ b = true)) X.xe s' := by
  have g1 : its[i]? = some its.toArray[i] := by
    have h1' : i < its.length := by simpa using h1
    rw [List.getElem?_eq_getElem h1'] <;> simp
  have k1 : i < ys.length := by rw [r.length]; simpa using h1
  have c1 : i < ds.length := by rw [← rd.length]; exact k1
  obtain ⟨v, hv, rv⟩ := r.get (List.getElem?_eq_getElem k1)
  rw [g1] at hv
  rw [Option.some.inj hv]
  obtain ⟨z, hz, pz⟩ := rd.get (List.getElem?_eq_getElem c1)
  rw [List.getElem?_eq_getElem k1] at hz
  rw [Option.some.inj hz] at rv
  rw [List.drop_eq_getElem_cons c1] at hq
  unfold anyQ at hq
  cases hk : eqD q ds[i] x with
  | none => rw [hk] at hq; cases hq
  | some k =>
    rw [hk] at hq
    refine wpAny_mono (eqP_of O (rcP n O) A pins s' σ H1 F1 W v u z y ds[i] x k (Nat.le_trans (dps_get c1) hdp) sb I1 rl1 rv rx pz (px.mono e1) hk) (fun z s2 ⟨hz, g⟩ => ?_) fun _ _ x => x
    subst hz
    cases z with
    | false => exact .inl ⟨rfl, g.back e1, hq⟩
    | true =>
      have hq' : some true = some b := hq
      cases hq'
      exact .inr ⟨rfl, g.back e1, rfl⟩
theorem od_inQ {n : Nat} (O : EqO X S q j) (hr : Room k X.A) (hk : j + 1 + (n + 1) ≤ k) (neg : Bool) : OpD X S E (compareOp (if neg = true then .NotIn else .In)) (rInQ q neg n) := by
  intro pins s σ H F sd W x y c d v u Q2 E2 I rl sr xc rx ry px py h
  have sb : Sub X (j + 1 + (n + 1)) X.A := ⟨hr.mono hk, rfl⟩
  have fin : ∀ (b b' : Bool) s', b' = b → Q2 (.bl (if neg = true then !b else b)) W → Gd X S pins σ F W s' → DP X S pins σ F Q2 (.bool (if neg = true then !b' else b')) s' := fun b b' s' e q ⟨H', F', I', e', rl'⟩ => by
    subst e
    exact ⟨.bl _, H', F', .bl _, W, I', rfl, e', rl', .bl _, q⟩
  have g0 : Gd X S pins σ F W s := ⟨H, F, I, Ex.refl _, rl⟩
  have lst : ∀ {a : Addr} {ds : List D} {b : Bool}, u = .ref a → (∀ F' H', Ex F F' → Rel S F' W H' → ∃ vs, H' a = some (.lst vs) ∧ Rps S F' vs ds) → dps ds ≤ n → anyQ q c ds = some b → Q2 (.bl (if neg = true then !b else b)) W →
      wpAny (model X.prog X.w) X.A (compareOp (if neg = true then .NotIn else .In) v u) (DP X S pins σ F Q2) X.xe s := fun {a ds b} eu hl hdp hq q2 => by
    subst eu
    obtain ⟨vs, ea, r⟩ := hl F H (Ex.refl _) rl
    obtain ⟨z, its, k0, rv, e⟩ := I.hok a _ ea
    refine in_code neg ⟨_, e, rfl⟩ PySem.F.slot_list_contains PySem.F.entry_list_contains (PySem.F.args_list_contains_2 _ _) ?_
    refine list_inJ (R := wants (fun v s' => ∃ b, v = .bool b ∧ DP X S pins σ F Q2 (.bool (if neg = true then !b else b)) s') X.xe) a v ds.length (RestA X S q pins σ F W c ds b) (fun s' => Gd X S pins σ F W s' ∧ b = true) (fun i s' l => ?_) (fun s' l => ⟨false, rfl, fin b false s' ?_ q2 l.1⟩) (fun s' l => ⟨true, rfl, fin b true s' l.2.symm q2 l.1⟩) ⟨g0, hq⟩
    · obtain ⟨⟨H1, F1, I1, e1, rl1⟩, hq'⟩ := l
      obtain ⟨vs, ea, r⟩ := hl F1 H1 e1 rl1
      obtain ⟨z, its, k0, rv, e⟩ := I1.hok a _ ea
      exact ⟨its.toArray, k0, e, by rw [List.size_toArray, ← rv.length, r.length], fun h1 => turnA O sb.in1 rx px hdp i s' I1 e1 rl1 r rv h1 hq'⟩
    · have l2 := l.2
      rw [List.drop_length] at l2
      simp only [anyQ, Option.some.injEq] at l2
      exact l2
  cases py with
  | ptr a =>
    have h2 : (match W a with | some (.lst ds) => dps ds ≤ n ∧ ds.length ≤ 1000000 ∧ kSome (anyQ q c ds) fun b => Q2 (.bl (if neg = true then !b else b)) W | _ => False) := h
    cases e : W a with
    | none => rw [e] at h2; exact h2.elim
    | some m =>
      rw [e] at h2
      cases m with
      | lst ds =>
        obtain ⟨h3, _, h4⟩ := h2
        obtain ⟨b, hb, h4⟩ := h4.inv
        exact lst ry (fun F' H' e' rl' => by obtain ⟨_, vs, ea, r⟩ := rl'.obj a _ e; exact ⟨vs, ea, r⟩) h3 hb h4
      | _ => exact h2.elim
  | lst hq r =>
    obtain ⟨h3, _, h4⟩ := h
    obtain ⟨b, hb, h4⟩ := h4.inv
    exact lst ry (fun F' H' e' rl' => ⟨_, rl'.sub _ _ (e' _ _ hq), r.mono e'⟩) h3 hb h4
  | @tup a vs ds hq r =>
    obtain ⟨h3, _, h4⟩ := h
    obtain ⟨b, hb, h4⟩ := h4.inv
    obtain rfl : u = Value.ref a := ry
    obtain ⟨its, rv, ht, z⟩ := I.tuple (by rw [O.hK]; exact ex_t rl.sub hq)
    obtain ⟨⟨cls, dd, data, sl⟩, ho, hc, k0, hd⟩ := id ht
    simp only at hc hd
    subst hc hd
    refine in_code neg ⟨_, ho, rfl⟩ PySem.F.slot_tuple_contains PySem.F.entry_tuple_contains (PySem.F.args_tuple_contains_2 _ _) ?_
    refine tuple_inJ (R := wants (fun v s' => ∃ b, v = .bool b ∧ DP X S pins σ F Q2 (.bool (if neg = true then !b else b)) s') X.xe) a its.toArray k0 dd sl v (RestA X S q pins σ F W c ds b) (fun s' => Gd X S pins σ F W s' ∧ b = true) (fun i h1 s' l => ?_) (fun s' l => ⟨false, rfl, fin b false s' ?_ h4 l.1⟩) (fun s' l => ⟨true, rfl, fin b true s' l.2.symm h4 l.1⟩) ho ⟨g0, hb⟩
    · obtain ⟨⟨H1, F1, I1, e1, rl1⟩, hq'⟩ := l
      exact turnA O sb.in1 rx px h3 i s' I1 e1 rl1 (r.mono e1) rv h1 hq'
    · have l2 := l.2
      have : its.toArray.size = ds.length := by rw [List.size_toArray, ← rv.length, r.length]
      rw [this, List.drop_length] at l2
      simp only [anyQ, Option.some.injEq] at l2
      exact l2
  | _ => exact h.elim
end
end Mv
end
section
set_option Elab.async false
set_option linter.all false
set_option maxRecDepth 100000
set_option maxHeartbeats 4000000
namespace Mv
open PySem PySem.Spec L2
open Evl (Ex ex_l ex_t ex_rd)
open PyProof.Rows
section
variable {X : Cx} {S : Sy} {E : XS} {k : Nat}

/-! ## methods of built-in types -/
abbrev DM := D → List D → Wd → QD → Prop
def upM (S : Sy) (r : DM) : V → List V → Hp → VK → Prop := fun v vs H Q => ∃ F W d ds Q2, Rel S F W H ∧ Rp S F v d ∧ Rps S F vs ds ∧ QCv S F Q2 Q ∧ r d ds W Q2
def MetD (X : Cx) (S : Sy) (id : String) (r : DM) : Prop := MtR X id (upM S r)
theorem MetD.of {id : String} {r : V → List V → Hp → VK → Prop} {rd : DM} (h : MtR X id r) (c : ∀ H F W v vs d ds Q2 Q, Rel S F W H → Rp S F v d → Rps S F vs ds → QCv S F Q2 Q → rd d ds W Q2 → r v vs H Q) : MetD X S id rd :=
  fun pins s σ H v vs u us Q I rv rvs ⟨F, W, d, ds, Q2, rl, rp, rps, qc, q⟩ => h pins s σ H v vs u us Q I rv rvs (c H F W v vs d ds Q2 Q rl rp rps qc q)
def tyM (T : String) (W : Wd) (d : D) : Prop := match d with
  | .str _ => T = "str"
  | .lst _ => T = "list"
  | .dK _ => T = "dict"
  | .dT _ => T = "dict"
  | .ptr a => (match W a with
    | some (.lst _) => T = "list"
    | some (.dK _) => T = "dict"
    | some (.dT _) => T = "dict"
    | _ => False)
  | _ => False
theorem tyM.v {K : PySem.W.Frag} {T : String} {H F : Hp} {W : Wd} {v : V} {d : D} (rl : Rel S F W H) (rp : Rp S F v d) (h : tyM T W d) : tyV K T v H := by
  cases rp with
  | str x => exact h
  | lst hq r => exact .inl ⟨h, _, SqL.of (rl.sub _ _ hq)⟩
  | dK hq r => exact .inr (.inr (.inl ⟨h, .inl ⟨_, rl.sub _ _ hq⟩⟩))
  | dT hq r => exact .inr (.inr (.inl ⟨h, .inr ⟨_, rl.sub _ _ hq⟩⟩))
  | ptr a =>
    have h2 : (match W a with | some (.lst _) => T = "list" | some (.dK _) => T = "dict" | some (.dT _) => T = "dict" | _ => False) := h
    cases e : W a with
    | none => rw [e] at h2; exact h2.elim
    | some m =>
      rw [e] at h2
      obtain ⟨_, mo⟩ := rl.obj a m e
      cases m with
      | lst ds => obtain ⟨vs, e1, r1⟩ := mo; exact .inl ⟨h2, _, SqL.of e1⟩
      | dK ds => obtain ⟨vs, e1, r1⟩ := mo; exact .inr (.inr (.inl ⟨h2, .inl ⟨_, e1⟩⟩))
      | dT ds => obtain ⟨vs, e1, r1⟩ := mo; exact .inr (.inr (.inl ⟨h2, .inr ⟨_, e1⟩⟩))
      | ins c fs => exact h2.elim
  | _ => exact h.elim
def dBM (T : String) (r : DM) (to : DE) (t : DA) : DE := fun sd W Q E2 => to sd W (fun d W1 => tyM T W1 d ∧ t sd W1 (fun ds W2 => r d ds W2 Q) E2) E2
variable {o e : Expr} {es : List Expr} {to : DE} {t : DA} {name : Str} {apos cpos : Pos} {T id : String} {r : DM}
theorem pd_bm0 (pa : PlainAttrs T) (slot : Slot T name id) (hty : typeOf (.builtin id) = pure (.type "method_descriptor")) (hm : MetD X S id r) (ho : PD X S E o to)
    (hbase : attributeBase o name X.env (eval o X.env) = eval o X.env := by rfl) (hline : (apos.endLine == cpos.line) = true := by rfl) : PD X S E (.Call (.Attribute o name apos) [] [] cpos) (dBM T r to dNil) :=
  PE.pd (pe_bm0 pa slot hty hm ho.pe hbase hline) fun σ H F sd W Q2 E2 rl sr xc q => ⟨F, sd, W, _, E2, rl, sr, fun F1 v d W1 H1 e1 r1 p1 ⟨h1, q1⟩ =>
    ⟨h1.v r1 p1, F1, W1, d, [], Q2, r1, p1, .nil, fun F2 v d W2 H2 e2 r2 p2 q2 => tkQ_of (e1.trans e2) r2 p2 q2, q1⟩, xc, q⟩
theorem pd_bm (pa : PlainAttrs T) (slot : Slot T name id) (hty : typeOf (.builtin id) = pure (.type "method_descriptor")) (hm : MetD X S id r) (ho : PD X S E o to) (ha : PAd X S E (e :: es) t)
    (hbase : attributeBase o name X.env (eval o X.env) = eval o X.env := by rfl)
    (hfew : ((backTo cpos (starEach (e :: es) X.env)).all (fun x => !x.1) && (backToKw cpos (keywordEach [] X.env)).all (fun x => x.1.isSome)
      && decide ((e :: es).length + ([] : List Keyword).length + (if ([] : List Keyword).isEmpty then 0 else 1) < 30)) = true := by rfl)
    (hline : (apos.endLine == cpos.line) = true := by rfl) (hs : starEach (e :: es) X.env = (false, eval e X.env) :: starEach es X.env := by rfl) (hplain : (backTo cpos (starEach es X.env)).any (·.1) = false := by rfl) :
    PD X S E (.Call (.Attribute o name apos) (e :: es) [] cpos) (dBM T r to t) :=
  PE.pd (pe_bm pa slot hty hm ho.pe ha.pa hbase hfew hline hs hplain) fun σ H F sd W Q2 E2 rl sr xc q => ⟨F, sd, W, _, E2, rl, sr, fun F1 v d W1 H1 e1 r1 p1 ⟨h1, q1⟩ =>
    ⟨h1.v r1 p1, F1, sd, W1, _, E2, r1, sr.mono e1, fun F2 vs ds W2 H2 e2 r2 p2 q2 => ⟨F2, W2, d, ds, Q2, r2, p1.mono e2, p2, fun F3 v d W3 H3 e3 r3 p3 q3 => tkQ_of (e1.trans (e2.trans e3)) r3 p3 q3, q2⟩, XCv.mono e1 xc, q1⟩, xc, q⟩
/-! ### the methods -/
def mPart : DM := fun c ds W Q => match c, ds with
  | .str a, [.str b] => (b.length == 0) = false ∧ a.length ≤ sizeLine ∧ Q (.tup [.str (Txt.partition a b).1, .str (Txt.partition a b).2.1, .str (Txt.partition a b).2.2]) W
  | _, _ => False
theorem me_partition : MetD X S "str.partition" mPart := MetD.of mt_partition fun H F W v vs d ds Q2 Q rl rp rps qc q => by
  cases d <;> first | exact q.elim | skip
  match ds, q with
  | [.str b], q =>
    obtain ⟨u, rfl, p⟩ := rps.one
    cases rp
    cases p
    exact ⟨_, b, rfl, rfl, q.1, q.2.1, fun p hp => qc _ _ _ _ _ (Ex.new (rl.nf hp)) (rl.newF hp) (.tup (SqT.of upd_same) (.cons (.str _) (.cons (.str _) (.cons (.str _) .nil)))) q.2.2⟩
def mAppend : DM := fun c ds W Q => match ds with
  | [x] => kLst W c fun a xs => xs.length ≤ 1000000 ∧ Q .non (put W a (.lst (xs ++ [x])))
  | _ => False
theorem me_append : MetD X S "list.append" mAppend := MetD.of mt_append fun H F W v vs d ds Q2 Q rl rp rps qc q => by
  match ds, q with
  | [x], q =>
    obtain ⟨u, rfl, p⟩ := rps.one
    obtain ⟨a, us, xs, rfl, ea, ru, hw, hz, q⟩ := kLst.at rl rp q
    exact ⟨a, us, u, rfl, rfl, ea, by rw [ru.length, sizeLine_eq]; omega, qc _ _ _ _ _ (Ex.refl _) (rl.set (m := .lst (xs ++ [x])) hw ⟨_, rfl, ru.append (.cons p .nil)⟩) .non q⟩
theorem pd_partition (ho : PD X S E o to) (ha : PAd X S E [e] t) (hbase : attributeBase o "partition" X.env (eval o X.env) = eval o X.env := by rfl)
    (hfew : ((backTo cpos (starEach [e] X.env)).all (fun x => !x.1) && (backToKw cpos (keywordEach [] X.env)).all (fun x => x.1.isSome)
      && decide ([e].length + ([] : List Keyword).length + (if ([] : List Keyword).isEmpty then 0 else 1) < 30)) = true := by rfl)
    (hline : (apos.endLine == cpos.line) = true := by rfl) (hs : starEach [e] X.env = (false, eval e X.env) :: starEach [] X.env := by rfl) : PD X S E (.Call (.Attribute o "partition" apos) [e] [] cpos) (dBM "str" mPart to t) :=
  pd_bm PySem.F.plainAttrs_str PySem.F.slot_str_partition PySem.F.type_str_partition me_partition ho ha hbase hfew hline hs
theorem pd_append (ho : PD X S E o to) (ha : PAd X S E [e] t) (hbase : attributeBase o "append" X.env (eval o X.env) = eval o X.env := by rfl)
    (hfew : ((backTo cpos (starEach [e] X.env)).all (fun x => !x.1) && (backToKw cpos (keywordEach [] X.env)).all (fun x => x.1.isSome)
      && decide ([e].length + ([] : List Keyword).length + (if ([] : List Keyword).isEmpty then 0 else 1) < 30)) = true := by rfl)
    (hline : (apos.endLine == cpos.line) = true := by rfl) (hs : starEach [e] X.env = (false, eval e X.env) :: starEach [] X.env := by rfl) : PD X S E (.Call (.Attribute o "append" apos) [e] [] cpos) (dBM "list" mAppend to t) :=
  pd_bm PySem.F.plainAttrs_list PySem.F.slot_list_append PySem.F.type_list_append me_append ho ha hbase hfew hline hs
/-! ### f-strings -/
def dFmt (te : DE) : DE := fun sd W Q E2 => te sd W (fun d W1 => match d with
  | .str y => y.length ≤ sizeLine ∧ Q (.str y) W1
  | .int i => i.natAbs.log2 < 1920 ∧ Q (.str (toString i)) W1
  | _ => False) E2
theorem pd_fmt {e : Expr} {te : DE} {pos : Pos} (he : PD X S E e te) : PD X S E (.FormattedValue e (-1) none pos) (dFmt te) :=
  PE.pd (pe_fmt he.pe) fun σ H F sd W Q2 E2 rl sr xc q => ⟨F, sd, W, _, E2, rl, sr, fun F1 v d W1 H1 e1 r1 p1 q1 => by
    cases p1 <;> first | exact q1.elim | skip
    · exact .inr ⟨_, rfl, q1.1, tkQ_of e1 r1 (.str _) q1.2⟩
    · exact .inl ⟨_, rfl, q1.1, tkQ_of e1 r1 (.str _) q1.2⟩, xc, q⟩
inductive PJd (X : Cx) (S : Sy) (E : XS) : List Expr → List DE → Prop where
  | nil : PJd X S E [] []
  | cons {e : Expr} {t : DE} {es : List Expr} {ts : List DE} (h : PD X S E e t) (r : PJd X S E es ts) : PJd X S E (e :: es) (t :: ts)
def dJs : List DE → Str → SD → Wd → (Str → Wd → Prop) → QX → Prop
  | [], acc, _, W, Q, _ => Q acc W
  | t :: ts, acc, sd, W, Q, E2 => t sd W (fun d W1 => match d with
    | .str y => (acc ++ y).length ≤ sizeLine ∧ dJs ts (acc ++ y) sd W1 Q E2
    | _ => False) E2
theorem PJd.pj {es : List Expr} {ts : List DE} (h : PJd X S E es ts) : PJ X es (ts.map (upE S E)) := by
  induction h with
  | nil => exact .nil
  | cons h _ ih => exact .cons h.pe ih
theorem dJs_up {σ : L2.St} : ∀ (ts : List DE) (acc : Str) (F : Hp) (sd : SD) (W : Wd) (H : Hp) (Q2 : Str → Wd → Prop) (E2 : QX) (Q : Str → Hp → Prop), Rel S F W H → SRel S F σ sd → XCv S F E2 E → (∀ F' s W' H', Ex F F' → Rel S F' W' H' → Q2 s W' → Q s H') → dJs ts acc sd W Q2 E2 → tJs (ts.map (upE S E)) acc σ H Q
  | [], acc, F, sd, W, H, Q2, E2, Q, rl, sr, xc, qc, q => qc F acc W H (Ex.refl _) rl q
  | t :: ts, acc, F, sd, W, H, Q2, E2, Q, rl, sr, xc, qc, q => ⟨F, sd, W, _, E2, rl, sr, fun F1 v d W1 H1 e1 r1 p1 q1 => by
    cases p1 <;> first | exact q1.elim | skip
    exact ⟨_, rfl, q1.1, dJs_up ts _ F1 sd W1 H1 Q2 E2 Q r1 (sr.mono e1) (XCv.mono e1 xc) (fun F2 s W' H' e2 r q => qc F2 s W' H' (e1.trans e2) r q) q1.2⟩, xc, q⟩
theorem pd_joined {v1 v2 : Expr} {rest : List Expr} {ts : List DE} {pos : Pos} (h : PJd X S E (v1 :: v2 :: rest) ts) : PD X S E (.JoinedStr (v1 :: v2 :: rest) pos) (fun sd W Q E2 => dJs ts Str.empty sd W (fun s W1 => Q (.str s) W1) E2) :=
  PE.pd (pe_joined h.pj) fun σ H F sd W Q2 E2 rl sr xc q => dJs_up ts _ F sd W H _ E2 _ rl sr xc (fun F' s W' H' e r q => tkQ_of e r (.str _) q) q
theorem pd_joined1 {e : Expr} {te : DE} {pos : Pos} (he : PD X S E e te) : PD X S E (.JoinedStr [e] pos) te :=
  ⟨fun pins s σ H F sd W Q2 E2 I rl sr xc h => wpAny_JoinedStr_one (he.run pins s σ H F sd W Q2 E2 I rl sr xc h)⟩
/-! ### all, any of truth values -/
def blsD : List D → Option (List Bool)
  | [] => some []
  | .bl b :: ds => (blsD ds).map (b :: ·)
  | _ => none
theorem blsD_v {F : Hp} : ∀ {ds : List D} {vs : List V} {bs : List Bool}, Rps S F vs ds → blsD ds = some bs → vs = bs.map V.bl
  | [], _, bs, .nil, h => by cases h; rfl
  | .bl b :: ds, _, bs, .cons p r, h => by
    simp only [blsD, Option.map_eq_some_iff] at h
    obtain ⟨cs, h1, h2⟩ := h
    subst h2
    cases p
    rw [blsD_v r h1, List.map_cons]
  | .non :: _, _, _, _, h => by simp [blsD] at h
  | .int _ :: _, _, _, _, h => by simp [blsD] at h
  | .str _ :: _, _, _, _, h => by simp [blsD] at h
  | .ty _ :: _, _, _, _, h => by simp [blsD] at h
  | .ptr _ :: _, _, _, _, h => by simp [blsD] at h
  | .tup _ :: _, _, _, _, h => by simp [blsD] at h
  | .lst _ :: _, _, _, _, h => by simp [blsD] at h
  | .dK _ :: _, _, _, _, h => by simp [blsD] at h
  | .dT _ :: _, _, _, _, h => by simp [blsD] at h
  | .ins _ _ :: _, _, _, _, h => by simp [blsD] at h
  | .exn _ _ :: _, _, _, _, h => by simp [blsD] at h
  | .frl _ :: _, _, _, _, h => by simp [blsD] at h
def rAllD (f : List Bool → Bool) : DC := fun ds W Q => match ds with
  | [.lst xs] => kSome (blsD xs) fun bs => Q (.bl (f bs)) W
  | _ => False
theorem cl_all (hc : X.calm = true) : CalD X S (.builtin "all") (rAllD fun bs => bs.all _root_.id) := CalD.of (cr_all hc) fun H F W vs ds Q2 Q rl rp qc q => by
  match ds, q with
  | [.lst xs], q =>
    obtain ⟨v, rfl, p⟩ := rp.one
    obtain ⟨bs, hb, q⟩ := q.inv
    cases p with
    | lst hq r =>
      have := blsD_v r hb
      subst this
      exact ⟨_, bs, rfl, SqL.of (rl.sub _ _ hq), qc _ _ _ _ _ (Ex.refl _) rl (.bl _) q⟩
theorem cl_any (hc : X.calm = true) : CalD X S (.builtin "any") (rAllD fun bs => bs.any _root_.id) := CalD.of (cr_any hc) fun H F W vs ds Q2 Q rl rp qc q => by
  match ds, q with
  | [.lst xs], q =>
    obtain ⟨v, rfl, p⟩ := rp.one
    obtain ⟨bs, hb, q⟩ := q.inv
    cases p with
    | lst hq r =>
      have := blsD_v r hb
      subst this
      exact ⟨_, bs, rfl, SqL.of (rl.sub _ _ hq), qc _ _ _ _ _ (Ex.refl _) rl (.bl _) q⟩
end
end Mv
end
section
set_option Elab.async false
set_option linter.all false
set_option maxRecDepth 100000
set_option maxHeartbeats 4000000
namespace Mv
open PySem PySem.Spec L2
open Evl (Ex ex_l ex_t ex_rd)
open PyProof.Rows
/-! ## operators by the data -/
def Mts.none : Mts := ⟨[], fun _ => 0, fun _ => [], fun _ _ _ _ _ => False⟩
structure OwnOp (X : Cx) (S : Sy) (k : Nat) (op : Operator) (M MR : Mts) : Prop where
  ok : M.ok X S k (PySem.dunder op.info.2)
  fa : ∀ c, c ∈ M.l → OwnF S c op.info.2
  okR : MR.ok X S k (dunderR op.info.2)
  faR : ∀ c, c ∈ MR.l → OwnRF S c op.info.2
structure OwnCm (X : Cx) (S : Sy) (k : Nat) (op : CmpOp) (M MR : Mts) : Prop where
  ok : M.ok X S k (cmpInfo op).2.1
  fa : ∀ c, c ∈ M.l → ∀ d W, rhsIS c d W → ∃ t, tyD S W d = some t ∧ PySem.W.notFirst S.K (S.ca c) t = true
  okR : MR.ok X S k (cmpInfo op).2.2
  faR : ∀ c, c ∈ MR.l → PySem.W.subIn S.K (.ref (S.ca c)) (.type "int") = some false
theorem OwnOp.none {X : Cx} {S : Sy} {k : Nat} {op : Operator} : OwnOp X S k op .none .none := ⟨fun _ h => (nomatch h), fun _ h => (nomatch h), fun _ h => (nomatch h), fun _ h => (nomatch h)⟩
theorem OwnCm.none {X : Cx} {S : Sy} {k : Nat} {op : CmpOp} : OwnCm X S k op .none .none := ⟨fun _ h => (nomatch h), fun _ h => (nomatch h), fun _ h => (nomatch h), fun _ h => (nomatch h)⟩
section
variable {X : Cx} {S : Sy} {E : XS} {k : Nat} {M MR : Mts}
def rCatLD : D2 := fun c d _ W Q _ => match c, d with
  | .lst a, .lst b => a.length + b.length ≤ 1000000 ∧ Q (.lst (a ++ b)) W
  | _, _ => False
theorem od_catL : OpD X S E (binaryOp .Add) rCatLD := OpR.od op_cat fun σ H F sd W x y c d Q2 E2 rl sr xc px py q => by
  cases px with
  | lst h1 r1 =>
    cases py with
    | lst h2 r2 =>
      exact ⟨_, _, _, _, rfl, rfl, rl.sub _ _ h1, rl.sub _ _ h2, by rw [r1.length, r2.length, sizeLine_eq]; have := q.1; omega, fun p hp => tkQ_of (Ex.new (rl.nf hp)) (rl.newF hp) (.lst upd_same ((r1.append r2).mono (Ex.new (rl.nf hp)))) q.2⟩
    | _ => exact q.elim
  | _ => cases py <;> exact q.elim
def rCatTD : D2 := fun c d _ W Q _ => match c, d with
  | .tup a, .tup b => a ≠ [] ∧ b ≠ [] ∧ a.length + b.length ≤ 1000000 ∧ Q (.tup (a ++ b)) W
  | _, _ => False
theorem od_catT (hK : X.K = S.K) : OpD X S E (binaryOp .Add) rCatTD := OpR.od op_catT fun σ H F sd W x y c d Q2 E2 rl sr xc px py q => by
  cases px with
  | tup h1 r1 =>
    cases py with
    | tup h2 r2 =>
      obtain ⟨n1, n2, hz, q⟩ := q
      refine ⟨_, _, _, _, rfl, rfl, by rw [hK]; exact ex_t rl.sub h1, by rw [hK]; exact ex_t rl.sub h2, fun e => ?_, by rw [r1.length, r2.length, sizeLine_eq]; omega, fun e => ?_, fun _ p hp => tkQ_of (Ex.new (rl.nf hp)) (rl.newF hp) (.tup (SqT.of upd_same) ((r1.append r2).mono (Ex.new (rl.nf hp)))) q⟩
      · subst e; cases r1; exact n1 rfl
      · subst e; cases r2; exact (n2 rfl).elim
    | _ => exact q.elim
  | _ => cases py <;> exact q.elim
def tAdd (M MR : Mts) : D2 := fun c d sd W Q E2 => match c, d with
  | .int i, .int j => Q (.int (i + j)) W
  | .str i, .str j => i.length + j.length ≤ sizeLine ∧ Q (.str (i ++ j)) W
  | .lst a, .lst b => a.length + b.length ≤ 1000000 ∧ Q (.lst (a ++ b)) W
  | .tup a, .tup b => a ≠ [] ∧ b ≠ [] ∧ a.length + b.length ≤ 1000000 ∧ Q (.tup (a ++ b)) W
  | .int i, d => rOwnR MR isInt (.int i) d sd W Q E2
  | c, d => rOwn M rhsIS c d sd W Q E2
theorem od_add (hK : X.K = S.K) (tk : Takes X E) (hr : Room (k + 1) X.A) (O : OwnOp X S k .Add M MR) : OpD X S E (binaryOp .Add) (tAdd M MR) :=
  ((od_int0 op_add).or (od_catS.or (od_catL.or ((od_catT hK).or ((op_ownR (op := .Add) PySem.F.slot_int_add PySem.F.entry_int_add (fun _ _ => PySem.F.args_int_add_2 _ _) dec_add hK tk hr O.okR rfl O.faR).or (op_own hK tk hr O.ok rfl O.fa)))))).imp fun c d sd W Q E2 q => by
    cases c with
    | int i => cases d with
      | int j => exact .inl ⟨trivial, q⟩
      | _ => exact .inr (.inr (.inr (.inr (.inl q))))
    | str i => cases d with
      | str j => exact .inr (.inl q)
      | _ => exact .inr (.inr (.inr (.inr (.inr q))))
    | lst i => cases d with
      | lst j => exact .inr (.inr (.inl q))
      | _ => exact .inr (.inr (.inr (.inr (.inr q))))
    | tup i => cases d with
      | tup j => exact .inr (.inr (.inr (.inl q)))
      | _ => exact .inr (.inr (.inr (.inr (.inr q))))
    | _ => cases d <;> exact .inr (.inr (.inr (.inr (.inr q))))
def tSub (M MR : Mts) : D2 := fun c d sd W Q E2 => match c, d with
  | .int i, .int j => Q (.int (i - j)) W
  | .int i, d => rOwnR MR isInt (.int i) d sd W Q E2
  | c, d => rOwn M rhsIS c d sd W Q E2
theorem od_sub (hK : X.K = S.K) (tk : Takes X E) (hr : Room (k + 1) X.A) (O : OwnOp X S k .Sub M MR) : OpD X S E (binaryOp .Sub) (tSub M MR) :=
  ((od_int0 op_sub).or ((op_ownR (op := .Sub) PySem.F.slot_int_sub PySem.F.entry_int_sub (fun _ _ => PySem.F.args_int_sub_2 _ _) dec_sub hK tk hr O.okR rfl O.faR).or (op_own hK tk hr O.ok rfl O.fa))).imp fun c d sd W Q E2 q => by
    cases c with
    | int i => cases d with
      | int j => exact .inl ⟨trivial, q⟩
      | _ => exact .inr (.inl q)
    | _ => cases d <;> exact .inr (.inr q)
/-- list * int -/
def rRepD : D2 := fun c d _ W Q _ => match c, d with
  | .lst a, .int n => -(2 ^ 63) ≤ n ∧ n < 2 ^ 63 ∧ a.length * n.toNat ≤ 1000000 ∧ Q (.lst (List.replicate n.toNat a).flatten) W
  | _, _ => False
theorem Rps.rep {F : Hp} {vs : List V} {ds : List D} (r : Rps S F vs ds) : ∀ n : Nat, Rps S F (List.replicate n vs).flatten (List.replicate n ds).flatten
  | 0 => .nil
  | n + 1 => by
    rw [List.replicate_succ, List.replicate_succ, List.flatten_cons, List.flatten_cons]
    exact r.append (Rps.rep r n)
theorem od_rep : OpD X S E (binaryOp .Mult) rRepD := OpR.od op_rep fun σ H F sd W x y c d Q2 E2 rl sr xc px py q => by
  cases px with
  | lst h1 r1 =>
    cases py with
    | int n =>
      obtain ⟨q1, q2, q3, q⟩ := q
      exact ⟨_, _, _, rfl, rfl, rl.sub _ _ h1, q1, q2, by rw [r1.length, sizeLine_eq]; omega, fun p hp => tkQ_of (Ex.new (rl.nf hp)) (rl.newF hp) (.lst upd_same ((Rps.rep r1 _).mono (Ex.new (rl.nf hp)))) q⟩
    | _ => exact q.elim
  | _ => cases py <;> exact q.elim
def tMul (M MR : Mts) : D2 := fun c d sd W Q E2 => match c, d with
  | .int i, .int j => (CMulW i j ∨ CMul i j) ∧ Q (.int (i * j)) W
  | .lst a, .int n => -(2 ^ 63) ≤ n ∧ n < 2 ^ 63 ∧ a.length * n.toNat ≤ 1000000 ∧ Q (.lst (List.replicate n.toNat a).flatten) W
  | .int i, d => rOwnR MR isInt (.int i) d sd W Q E2
  | c, d => rOwn M rhsIS c d sd W Q E2
theorem od_mul (hK : X.K = S.K) (tk : Takes X E) (hr : Room (k + 1) X.A) (O : OwnOp X S k .Mult M MR) : OpD X S E (binaryOp .Mult) (tMul M MR) :=
  ((od_int (opI (C := fun i j => CMulW i j ∨ CMul i j) fun _ _ _ _ _ _ _ hc q => mul_int q (hc.elim CMulW.ok CMul.ok))).or (od_rep.or ((op_ownR (op := .Mult) PySem.F.slot_int_mul PySem.F.entry_int_mul (fun _ _ => PySem.F.args_int_mul_2 _ _) dec_mul hK tk hr O.okR rfl O.faR).or (op_own hK tk hr O.ok rfl O.fa)))).imp fun c d sd W Q E2 q => by
    cases c with
    | int i => cases d with
      | int j => exact .inl q
      | _ => exact .inr (.inr (.inl q))
    | lst i => cases d with
      | int j => exact .inr (.inl q)
      | _ => exact .inr (.inr (.inr q))
    | _ => cases d <;> exact .inr (.inr (.inr q))
def tFdiv (M : Mts) : D2 := fun c d sd W Q E2 => match c, d with
  | .int i, .int j => CDivW i j ∧ Q (.int (i / j)) W
  | c, d => rOwn M rhsIS c d sd W Q E2
theorem od_fdiv (hK : X.K = S.K) (tk : Takes X E) (hr : Room (k + 1) X.A) (O : OwnOp X S k .FloorDiv M .none) : OpD X S E (binaryOp .FloorDiv) (tFdiv M) :=
  ((od_int op_fdivW).or (op_own hK tk hr O.ok rfl O.fa)).imp fun c d sd W Q E2 q => by
    cases c with
    | int i => cases d with
      | int j => exact .inl q
      | _ => exact .inr q
    | _ => cases d <;> exact .inr q
def tMod (M : Mts) : D2 := fun c d sd W Q E2 => match c, d with
  | .int i, .int j => 0 < j ∧ Q (.int (i % j)) W
  | c, d => rOwn M rhsIS c d sd W Q E2
theorem od_mod (hK : X.K = S.K) (tk : Takes X E) (hr : Room (k + 1) X.A) (O : OwnOp X S k .Mod M .none) : OpD X S E (binaryOp .Mod) (tMod M) :=
  ((od_int op_mod).or (op_own hK tk hr O.ok rfl O.fa)).imp fun c d sd W Q E2 q => by
    cases c with
    | int i => cases d with
      | int j => exact .inl q
      | _ => exact .inr q
    | _ => cases d <;> exact .inr q
def tPow : D2 := rInt2 CPow fun i j => .int (i ^ j.toNat)
theorem od_pow : OpD X S E (binaryOp .Pow) tPow := od_int op_pow
def tCm (M MR : Mts) (g : Int → Int → Bool) : D2 := fun c d sd W Q E2 => match c, d with
  | .int i, .int j => Q (.bl (g i j)) W
  | .int i, d => rOwnR MR isInt (.int i) d sd W Q E2
  | c, d => rOwn M rhsIS c d sd W Q E2
theorem tCm_or {g : Int → Int → Bool} {op : CmpOp} (h1 : OpD X S E (compareOp op) (rInt2 (fun _ _ => True) fun i j => .bl (g i j))) (h2 : OpD X S E (compareOp op) (rOwnR MR isInt)) (h3 : OpD X S E (compareOp op) (rOwn M rhsIS)) : OpD X S E (compareOp op) (tCm M MR g) :=
  (h1.or (h2.or h3)).imp fun c d sd W Q E2 q => by
    cases c with
    | int i => cases d with
      | int j => exact .inl ⟨trivial, q⟩
      | _ => exact .inr (.inl q)
    | _ => cases d <;> exact .inr (.inr q)
theorem od_lt (hK : X.K = S.K) (tk : Takes X E) (hr : Room (k + 1) X.A) (O : OwnCm X S k .Lt M MR) : OpD X S E (compareOp .Lt) (tCm M MR fun i j => decide (i < j)) :=
  tCm_or (od_cmp0 op_lt) (op_ownCR (fun _ _ => rfl) PySem.F.slot_int_lt PySem.F.entry_int_lt (fun _ _ => PySem.F.args_int_lt_2 _ _) dec_lt hK tk hr O.okR rfl O.faR) (op_ownC (fun _ _ => rfl) hK tk hr O.ok rfl O.fa)
theorem od_le (hK : X.K = S.K) (tk : Takes X E) (hr : Room (k + 1) X.A) (O : OwnCm X S k .LtE M MR) : OpD X S E (compareOp .LtE) (tCm M MR fun i j => decide (i ≤ j)) :=
  tCm_or (od_cmp0 op_le) (op_ownCR (fun _ _ => rfl) PySem.F.slot_int_le PySem.F.entry_int_le (fun _ _ => PySem.F.args_int_le_2 _ _) dec_le hK tk hr O.okR rfl O.faR) (op_ownC (fun _ _ => rfl) hK tk hr O.ok rfl O.fa)
theorem od_gt (hK : X.K = S.K) (tk : Takes X E) (hr : Room (k + 1) X.A) (O : OwnCm X S k .Gt M MR) : OpD X S E (compareOp .Gt) (tCm M MR fun i j => decide (j < i)) :=
  tCm_or (od_cmp0 op_gt) (op_ownCR (fun _ _ => rfl) PySem.F.slot_int_gt PySem.F.entry_int_gt (fun _ _ => PySem.F.args_int_gt_2 _ _) dec_gt hK tk hr O.okR rfl O.faR) (op_ownC (fun _ _ => rfl) hK tk hr O.ok rfl O.fa)
theorem od_ge (hK : X.K = S.K) (tk : Takes X E) (hr : Room (k + 1) X.A) (O : OwnCm X S k .GtE M MR) : OpD X S E (compareOp .GtE) (tCm M MR fun i j => decide (j ≤ i)) :=
  tCm_or (od_cmp0 op_ge) (op_ownCR (fun _ _ => rfl) PySem.F.slot_int_ge PySem.F.entry_int_ge (fun _ _ => PySem.F.args_int_ge_2 _ _) dec_ge hK tk hr O.okR rfl O.faR) (op_ownC (fun _ _ => rfl) hK tk hr O.ok rfl O.fa)
/-! ### in: a text in a text, a thing in a list or tuple -/
def tIn (q : EqI) (neg : Bool) (n : Nat) : D2 := fun c d sd W Q E2 => match d with
  | .str _ => rInS neg c d sd W Q E2
  | _ => rInQ q neg n c d sd W Q E2
theorem od_in {q : EqI} {j n : Nat} (O : EqO X S q j) (hr : Room k X.A) (hk : j + 1 + (n + 1) ≤ k) : OpD X S E (compareOp .In) (tIn q false n) :=
  (od_inS.or (od_inQ (n := n) O hr hk false)).imp fun c d sd W Q E2 z => by
    cases d <;> first | exact .inl z | exact .inr z
theorem od_notIn {q : EqI} {j n : Nat} (O : EqO X S q j) (hr : Room k X.A) (hk : j + 1 + (n + 1) ≤ k) : OpD X S E (compareOp .NotIn) (tIn q true n) :=
  (od_notInS.or (od_inQ (n := n) O hr hk true)).imp fun c d sd W Q E2 z => by
    cases d <;> first | exact .inl z | exact .inr z
theorem od_eq {q : EqI} {j n : Nat} (O : EqO X S q j) (hr : Room k X.A) (hk : j + 1 + n ≤ k) : OpD X S E (compareOp .Eq) (rEqQ q false n) := od_eqQ O hr hk false
theorem od_ne {q : EqI} {j n : Nat} (O : EqO X S q j) (hr : Room k X.A) (hk : j + 1 + n ≤ k) : OpD X S E (compareOp .NotEq) (rEqQ q true n) := od_eqQ O hr hk true
/-! ### - and abs: ints, own instances -/
def dNegO (M : Mts) (t : DE) : DE := fun sd W Q E2 => t sd W (fun d W1 => match d with
  | .int i => Q (.int (-i)) W1
  | d => kIns W1 d fun c _ => c ∈ M.l ∧ dfl (M.n c) (M.dd c) [d] fun ds' => M.sp c ds' W1 Q (fun x W' => E2 x sd W')) E2
theorem pd_negD {a : Expr} {ta : DE} {pos : Pos} (hK : X.K = S.K) (tk : Takes X E) (hr : Room (k + 1) X.A) (hM : M.ok X S k "__neg__") (ha : PD X S E a ta) : PD X S E (.UnaryOp .USub a pos) (dNegO M ta) :=
  ⟨fun pins s σ H F sd W Q2 E2 I rl sr xc h => PyProof.Rows.UnaryOp_ (thn (ha.run pins s σ H F sd W _ E2 I rl sr xc h) fun v s1 ⟨x, H1, F1, d, W1, I1, r1, e1, rl1, p1, q1⟩ => by
    cases hd : d with
    | int i =>
      subst hd
      cases p1
      exact thn (un_neg pins s1 σ H1 _ v (tkQ S F1 Q2) I1 r1 ⟨i, rfl, tkQ_of (Ex.refl _) rl1 (.int _) q1⟩) fun u s' z => (EP.tk z).back e1
    | _ =>
      subst hd
      obtain ⟨a, dx, vs, j, fs, ex, ea, rf, hj, hsp⟩ := kIns.at rl1 p1 q1
      subst ex
      obtain rfl : v = Value.ref a := r1
      obtain ⟨cl, f, mt, G⟩ := hM j hj
      rw [← hK] at cl mt
      obtain ⟨mA, O, _⟩ := ins_get I1.hok ea
      obtain ⟨od, J, _⟩ := O.look
      obtain ⟨m0, hFr⟩ := I1.fr
      refine PySem.W.ksp_neg hFr I1.ok.mod.kin J mt.at_ mt.fn ?_
      exact thn (run_at (us := [.ref a]) (vs := [.ref a]) hK G (hr.mono (Nat.le_succ _)) I1.env0 tk I1 rl1 (sr.mono e1) (XCv.mono e1 xc) (.cons rfl .nil) (.cons p1 .nil) hsp) fun u s' z => z.back e1)⟩
end
/-! ## facts as Bools -/
open He (ba ga ma eqO eqO_ok)
section
variable {S : Sy}
def ownFB (K : PySem.W.Frag) (C : Addr) (nm : String) : Bool := PySem.W.selfFirst K C && ((match PySem.W.findIn K (.ref C) (dunderR nm) with
    | some none => true
    | some (some (.ref _)) => true
    | _ => false) && ((PySem.W.findIn K (.type "int") (PySem.dunder nm)).isSome && ((PySem.W.findIn K (.type "int") (dunderR nm)).isSome && decide (PySem.W.subIn K (.type "int") (.ref C) = some false))))
theorem ownFB_ok {c : Nat} {nm : String} (h : ownFB S.K (S.ca c) nm = true) : OwnF S c nm := by
  obtain ⟨h1, h⟩ := ba h
  obtain ⟨h2, h⟩ := ba h
  obtain ⟨h3, h⟩ := ba h
  obtain ⟨h4, h5⟩ := ba h
  refine ⟨h1, ?_, ?_, of_decide_eq_true h5⟩
  · split at h2
    · rename_i e; exact ⟨_, e, .inl rfl⟩
    · rename_i g e; exact ⟨_, e, .inr ⟨g, rfl⟩⟩
    · cases h2
  · obtain ⟨fo, e1⟩ := Option.isSome_iff_exists.mp h3
    obtain ⟨ro, e2⟩ := Option.isSome_iff_exists.mp h4
    exact ⟨fo, ro, e1, e2⟩
def ownRB (K : PySem.W.Frag) (C : Addr) (nm : String) : Bool := PySem.W.selfFirst K C && (decide (PySem.W.subIn K (.ref C) (.type "int") = some false) && ((match PySem.W.findIn K (.type "int") (PySem.dunder nm), PySem.W.findIn K (.type "int") (dunderR nm) with
    | some fo, some ro => (fo.isSome && !isSeqSlot fo) || (ro.isSome && !isSeqSlot ro)
    | _, _ => false) && (match PySem.W.findIn K (.ref C) (PySem.dunder nm) with
    | some (some (.ref _)) => true
    | _ => false)))
theorem ownRB_ok {c : Nat} {nm : String} (h : ownRB S.K (S.ca c) nm = true) : OwnRF S c nm := by
  obtain ⟨h1, h⟩ := ba h
  obtain ⟨h2, h⟩ := ba h
  obtain ⟨h3, h4⟩ := ba h
  refine ⟨h1, of_decide_eq_true h2, ?_, ?_⟩
  · split at h3
    · rename_i fo ro e1 e2; exact ⟨fo, ro, e1, e2, h3⟩
    · cases h3
  · split at h4
    · rename_i g e; exact ⟨g, e⟩
    · cases h4
end
end Mv
end
section
set_option Elab.async false
set_option linter.all false
set_option maxRecDepth 100000
set_option maxHeartbeats 4000000
namespace Mv
open PySem PySem.Spec L2
open Evl (Ex ex_l ex_t ex_rd)
open PyProof.Rows
section
variable {X : Cx} {S : Sy} {E : XS} {k : Nat}
/-- a built-in type as a value -/
theorem pd_ty {x : Str} {n : String} {pos : Pos} (hm : X.mg x = none) (hg : Gl X x := by rfl) (hv : bootBuiltins x = some (.type n) := by kernel_rfl) (hn : x ≠ "__name__" := by decide) (hd : (x == ("__debug__" : Str)) = false := by decide) : PD X S E (.Name x pos) (dC (.ty n)) :=
  PE.pd (pe_bltn hg hm hv (v := .ty n) rfl hn hd) fun _ _ _ _ _ _ _ r _ _ q => tkQ_of (Ex.refl _) r (.ty _) q
/-- a text of the module -/
theorem pd_gstr {x z : Str} {pos : Pos} (hm : ∃ t, X.mg x = some (.str z t)) (hg : Gl X x := by rfl) (hd : (x == ("__debug__" : Str)) = false := by decide) : PD X S E (.Name x pos) (dC (.str z)) := by
  obtain ⟨t, hm⟩ := hm
  exact pd_glob (v := .str z) hg hm ⟨t, rfl⟩ (fun _ => .str z) hd
theorem pd_gint {x : Str} {z : Int} {pos : Pos} (hm : ∃ t, X.mg x = some (.int z t)) (hg : Gl X x := by rfl) (hd : (x == ("__debug__" : Str)) = false := by decide) : PD X S E (.Name x pos) (dC (.int z)) := by
  obtain ⟨t, hm⟩ := hm
  exact pd_glob (v := .int z) hg hm ⟨t, rfl⟩ (fun _ => .int z) hd
/-- an object of the module: a class, a def -/
theorem pd_gref {x : Str} {a : Addr} {pos : Pos} (hm : X.mg x = some (.ref a)) (hg : Gl X x := by rfl) (hd : (x == ("__debug__" : Str)) = false := by decide) : PD X S E (.Name x pos) (dC (.ptr a)) :=
  pd_glob (v := .ref a) hg hm rfl (fun _ => .ptr a) hd
/-- a, b, c = x, y, z -/
def dPar3 (i j l : Nat) (t : DA) : DS := fun D sd W E2 => t sd W (fun ds W1 => match ds with
  | [c, d, e] => D.nx (((sd.set i (some c)).set j (some d)).set l (some e)) W1
  | _ => False) E2
theorem psd_par3 {i j l : Nat} {x y z : Str} {a b c : Expr} {t : DA} {pos px py pz pt : Pos} {kt k2 pt2} (hc : X.calm = true) (hN : X.N.Nodup) (ha : PAd X S E [a, b, c] t) (hi : X.N[i]? = some x := by rfl) (hj : X.N[j]? = some y := by rfl) (hl : X.N[l]? = some z := by rfl) (hij : i ≠ j := by decide) (hil : i ≠ l := by decide) (hjl : j ≠ l := by decide)
    (hx : X.env.scope.names.lookup x = some .local := by rfl) (hy : X.env.scope.names.lookup y = some .local := by rfl) (hz : X.env.scope.names.lookup z = some .local := by rfl)
    (hw : swappedStores [.Tuple [.Name x px, .Name y py, .Name z pz] kt pt] (.Tuple [a, b, c] k2 pt2) X.env = pure (some [x, y, z]) := by rfl)
    (hs : swapsWithSole [.Tuple [.Name x px, .Name y py, .Name z pz] kt pt] (.Tuple [a, b, c] k2 pt2) pos.line X.env = pure false := by rfl) :
    PSd X S E (.Assign [.Tuple [.Name x px, .Name y py, .Name z pz] kt pt] (.Tuple [a, b, c] k2 pt2) pos) (dPar3 i j l t) :=
  PS.pd (ps_par3 hc hN hi hj hl hij hil hjl hx hy hz ha.pa hw hs) fun σ H F sd W D2 E2 rl sr xc h => ⟨F, sd, W, _, E2, rl, sr, fun F1 vs ds W1 H1 e1 r1 p1 q1 => by
    match ds, q1, p1 with
    | [c, d, e], q1, .cons p1 (.cons p2 (.cons p3 .nil)) =>
      exact ⟨_, _, _, rfl, F1, _, W1, e1, r1, (((sr.mono e1).set p1).set p2).set p3, q1⟩, xc, h⟩
end
/-! ## the names -/
theorem mem_lk {α β : Type} [BEq α] [LawfulBEq α] {a : α} {b : β} : ∀ {l : List (α × β)}, l.lookup a = some b → (a, b) ∈ l
  | [], h => by cases h
  | (x, y) :: l, h => by
    simp only [List.lookup] at h
    split at h
    · rename_i e
      cases h
      rw [eq_of_beq e]
      exact List.mem_cons_self
    · exact List.mem_cons_of_mem _ (mem_lk h)
/-- fields by numbers -/
def fldN : List Str := (["parts", "alone", "at", "below", "best", "book", "bounds", "budget", "can_fit", "columns", "cost_scale", "costs", "done", "feeding", "firsts", "frame", "giver", "goal", "head", "kept_book", "kept_done", "kept_firsts", "kept_sums", "key", "lap", "last", "limit", "limits", "line", "line_prices", "lines", "low", "most", "moves", "name", "number", "open_column", "order", "own_book", "own_budget", "own_firsts", "pair", "pair_prices", "pairs", "part", "question", "rails", "row", "rows", "scales", "share", "shares", "start", "steps", "sums", "tail", "taker", "text", "times", "unit", "unknowns", "usable", "used", "value", "weights", "what", "word", "years", "MOVES", "WORD", "all_limits", "bottom", "got", "many", "own", "top", "width"] : List String).map Str.ofString
def tabN (i : Nat) : Str := if h : i < fldN.length then fldN[i] else ⟨#[0, i]⟩
theorem tab_ne {l : List Str} (hl : l.all (fun s => s.cps[0]? != some 0) = true) {i : Nat} (h : i < l.length) (j : Nat) : l[i] ≠ (⟨#[0, j]⟩ : Str) := by
  intro e
  have := List.all_eq_true.mp hl l[i] (List.getElem_mem h)
  rw [e] at this
  simp at this
def tab : Tab where
  nm := tabN
  inj := fun i j h => by
    have hl : fldN.all (fun s => s.cps[0]? != some 0) = true := by decide +kernel
    have nd : fldN.Nodup := by decide +kernel
    unfold tabN at h
    by_cases hi : i < fldN.length
    · by_cases hj : j < fldN.length
      · rw [dif_pos hi, dif_pos hj] at h
        exact (List.getElem_inj nd).mp h
      · rw [dif_pos hi, dif_neg hj] at h
        exact absurd h (tab_ne hl hi j)
    · by_cases hj : j < fldN.length
      · rw [dif_neg hi, dif_pos hj] at h
        exact absurd h.symm (tab_ne hl hj i)
      · rw [dif_neg hi, dif_neg hj] at h
        have := congrArg (fun s : Str => s.cps[1]?) h
        simpa using this
theorem tab_m {m : Str} (h1 : fldN.contains m = false) (h2 : (m.cps[0]? != some 0) = true) : ∀ i, tab.nm i ≠ m := by
  intro i e
  have e : tabN i = m := e
  unfold tabN at e
  by_cases hi : i < fldN.length
  · rw [dif_pos hi] at e
    have : m ∈ fldN := by rw [← e]; exact List.getElem_mem hi
    rw [List.contains_eq_mem] at h1
    simp [this] at h1
  · rw [dif_neg hi] at e
    rw [← e] at h2
    simp at h2
/-- the classes that a text has: number, name -/
abbrev Cn := List (Nat × Str)
open He (ga ma)
def caK (cn : Cn) (K : PySem.W.Frag) (i : Nat) : Addr := match cn.lookup i with
  | some x => ga K x
  | none => 1099511627776 + i
def cnB (cn : Cn) (K : PySem.W.Frag) : Bool := decide ((cn.map fun p => ga K p.2).Nodup) && (decide ((cn.map (·.1)).Nodup) && cn.all fun p => decide (ga K p.2 < 1099511627776))
theorem caK_inj {cn : Cn} {K : PySem.W.Frag} (h : cnB cn K = true) (i j : Nat) (e : caK cn K i = caK cn K j) : i = j := by
  obtain ⟨h1, h⟩ := He.ba h
  obtain ⟨h2, h3⟩ := He.ba h
  have h1 := of_decide_eq_true h1
  have lt : ∀ {i x}, cn.lookup i = some x → ga K x < 1099511627776 := fun {i x} hx => of_decide_eq_true (List.all_eq_true.mp h3 (i, x) (mem_lk hx))
  unfold caK at e
  cases hi : cn.lookup i with
  | none =>
    cases hj : cn.lookup j with
    | none => rw [hi, hj] at e; simpa using e
    | some y =>
      rw [hi, hj] at e
      have l1 : (ga K y : Nat) < 1099511627776 := lt hj
      have e1 : (1099511627776 + i : Nat) = (ga K y : Nat) := e
      have l2 : (1099511627776 + i : Nat) < 1099511627776 := by rw [e1]; exact l1
      exact absurd l2 (by omega)
  | some x =>
    cases hj : cn.lookup j with
    | none =>
      rw [hi, hj] at e
      have l1 : (ga K x : Nat) < 1099511627776 := lt hi
      have e1 : (ga K x : Nat) = (1099511627776 + j : Nat) := e
      have l2 : (1099511627776 + j : Nat) < 1099511627776 := by rw [← e1]; exact l1
      exact absurd l2 (by omega)
    | some y =>
      rw [hi, hj] at e
      simp only at e
      have m1 := mem_lk hi
      have m2 := mem_lk hj
      have : (i, x) = (j, y) := by
        obtain ⟨a, ha, ea⟩ := List.mem_iff_getElem.mp m1
        obtain ⟨b, hb, eb⟩ := List.mem_iff_getElem.mp m2
        have : a = b := by
          refine (List.getElem_inj (h₀ := by simpa using ha) (h₁ := by simpa using hb) h1).mp ?_
          simp only [List.getElem_map, ea, eb]
          exact e
        subst this
        rw [ea] at eb
        exact eb
      exact congrArg Prod.fst this
/-- what the layer leans on, of a text's classes -/
def syK (cn : Cn) (cl : List Nat) (K : PySem.W.Frag) (h : cnB cn K = true) (T : List (Addr × Str) := []) : Sy := ⟨K, tab, caK cn K, caK_inj h, cl, T⟩

/-! ## the head: defs, facts -/
open He5 (DefA wf fnA)
def obsM (mf : List (PySem.W.Frag → Bool)) (fn : List DefA) (K : PySem.W.Frag) : He.AlD := ((mf.all fun f => f K) && fn.all fun d => d.ok K, fn.map fun d => fnA K (d.at_ K))
def SaysM (mf : List (PySem.W.Frag → Bool)) (fn : List DefA) (K : PySem.W.Frag) : Prop := obsM mf fn K = He5.valA fn
def obsMG (n : Nat) (mf : List (PySem.W.Frag → Bool)) (fn : List DefA) (g : Addr → Option Obj) : He.AlD := obsM mf fn (He.frG g (He5.asA g n))
def hookM (n : Nat) (mf : List (PySem.W.Frag → Bool)) (fn : List DefA) : PySem.W.Hook where
  α := He.AlD
  obs := fun s => obsMG n mf fn s.heap.get?
  val := fun _ => He5.valA fn
  says := fun _ h => ∃ K : PySem.W.Frag, K.In h ∧ SaysM mf fn K
  of := fun _ _ e => ⟨_, He.frG_in, e⟩
  keeps := fun _ _ _ ⟨K, hK, c⟩ k => ⟨K, PySem.W.Frag.In.keeps hK k, c⟩
theorem obsMG_eq {n : Nat} {mf : List (PySem.W.Frag → Bool)} {fn : List DefA} {g : Addr → Option Obj} {s : Shared} (h : ∀ a, g a = s.heap.get? a) : obsMG n mf fn g = (hookM n mf fn).obs s := by
  have e : g = s.heap.get? := funext h
  rw [e] <;> rfl
section
variable {mf : List (PySem.W.Frag → Bool)} {fn : List DefA} {K : PySem.W.Frag}
theorem SaysM.fact (c : SaysM mf fn K) (i : Nat) {f : PySem.W.Frag → Bool} (h : mf[i]? = some f := by rfl) : f K = true := by
  have c1 := (He.ba (show ((mf.all fun f => f K) && fn.all fun d => d.ok K) = true from congrArg (fun z : He.AlD => z.1) c)).1
  exact List.all_eq_true.mp c1 f (List.mem_of_getElem? h)
theorem SaysM.def_ (c : SaysM mf fn K) (i : Nat) {d : DefA} (h : fn[i]? = some d := by rfl) : ∃ fd, L2.FunD K d.name d.qual d.params d.body d.scope (d.dvs K) (d.kws K) (d.at_ K) fd := by
  have c2 := (He.ba (show ((mf.all fun f => f K) && fn.all fun d => d.ok K) = true from congrArg (fun z : He.AlD => z.1) c)).2
  have e : fn.map (fun d => fnA K (d.at_ K)) = fn.map DefA.val := congrArg (fun z : He.AlD => z.2) c
  have e2 : (fn.map fun d => fnA K (d.at_ K))[i]? = (fn.map DefA.val)[i]? := by rw [e]
  rw [List.getElem?_map, List.getElem?_map, h] at e2
  exact DefA.funD (Option.some.inj e2) (List.all_eq_true.mp c2 d (List.mem_of_getElem? h))
end
/-! ### more facts -/
section
variable {K : PySem.W.Frag}
def propB (K : PySem.W.Frag) (C : Addr) (f : Str) : Bool := He.eqO (PySem.W.findIn K (.ref C) f) (some (some (.ref (ma K C f)))) && (He.eqO (PySem.W.specialIn K (.ref (ma K C f)) "__get__") (some (some (.builtin "property.__get__"))) && (decide (PySem.W.takesIn K (.ref (ma K C f)) = some true) &&
  (match PySem.W.recIn K (ma K C f) "property" with
    | some (.ref _ :: _) => true
    | _ => false)))
theorem propB_ok {C : Addr} {f : Str} (h : propB K C f = true) : PropOf K C f (ma K C f) (wf K C "property" f) := by
  obtain ⟨h1, h⟩ := He.ba h
  obtain ⟨h2, h⟩ := He.ba h
  obtain ⟨h3, h4⟩ := He.ba h
  refine ⟨He.eqO_ok h1, He.eqO_ok h2, of_decide_eq_true h3, ?_⟩
  unfold wf
  split at h4
  · rename_i g r e
    exact ⟨r, by rw [e]⟩
  · cases h4
def creadB (K : PySem.W.Frag) (C : Addr) : Bool := PySem.W.readsIn K C (.type "type") && He.eqO (PySem.W.specialIn K (.ref C) "__getattribute__") (some (some (.builtin "type.__getattribute__")))
theorem creadB_ok {C : Addr} (h : creadB K C = true) : ClX.CRead K C (.type "type") := ⟨(He.ba h).1, He.eqO_ok (He.ba h).2⟩
theorem smet_of {C : Addr} {m : Str} (h : He5.wrapB K C "staticmethod" "staticmethod.__get__" m = true) : SMet K C m (ma K C m) (wf K C "staticmethod" m) :=
  ⟨(He5.wrapB_ok h).1, (He5.wrapB_ok h).2⟩
def kitGB (K : PySem.W.Frag) : Bool := He.eqO (PySem.W.specialIn K (.builtin "object.__class__") "__get__") (some (some (.builtin "getset_descriptor.__get__"))) && decide (PySem.W.takesIn K (.builtin "object.__class__") = some true)
theorem kitGB_ok (h : kitGB K = true) : KitG K := ⟨He.eqO_ok (He.ba h).1, of_decide_eq_true (He.ba h).2⟩
/-- a class as it is plainly -/
def clsB (K : PySem.W.Frag) (C : Addr) : Bool := PySem.W.plainGet K C Str.empty && (PySem.W.hasDictIn K C && (PySem.W.plainOver K C && He.eqO (PySem.W.findIn K (.ref C) "__setattr__") (some (some (.builtin "object.__setattr__")))))
theorem clsB_ok {C : Addr} (h : clsB K C = true) : Cls K C := by
  obtain ⟨h1, h⟩ := He.ba h
  obtain ⟨h2, h⟩ := He.ba h
  obtain ⟨h3, h4⟩ := He.ba h
  exact ⟨h1, h2, h3, He.eqO_ok h4⟩
def kitFB (K : PySem.W.Frag) (C : Addr) : Bool := clsB K C && (He.eqO (PySem.W.findIn K (.ref C) "__class__") (some (some (.builtin "object.__class__"))) && decide (PySem.W.mroIn K C (.type "object") = some true))
theorem kitFB_ok {C : Addr} (h : kitFB K C = true) : KitF K C := by
  obtain ⟨h1, h⟩ := He.ba h
  obtain ⟨h2, h3⟩ := He.ba h
  exact ⟨clsB_ok h1, He.eqO_ok h2, of_decide_eq_true h3⟩
def methB (K : PySem.W.Frag) (C : Addr) (m : Str) : Bool := He.eqO (PySem.W.findIn K (.ref C) m) (some (some (.ref (ma K C m)))) && (PySem.W.isFn K (.ref (ma K C m)) && PySem.W.keepIn K (.ref (ma K C m)))
theorem methB_ok {C : Addr} {m : Str} (h : methB K C m = true) : Meth K C m (ma K C m) := by
  obtain ⟨h1, h⟩ := He.ba h
  obtain ⟨h2, h3⟩ := He.ba h
  exact ⟨He.eqO_ok h1, h2, h3⟩
def mkB (K : PySem.W.Frag) (C : Addr) : Bool := PySem.W.makesIn K C && (He.eqO (PySem.W.findIn K (.ref C) "__init__") (some (some (.ref (ma K C "__init__")))) && (PySem.W.isFn K (.ref (ma K C "__init__")) && PySem.W.keepIn K (.ref C)))
theorem mkB_ok {C : Addr} (h : mkB K C = true) : Mk K C (ma K C "__init__") := by
  obtain ⟨h1, h⟩ := He.ba h
  obtain ⟨h2, h⟩ := He.ba h
  obtain ⟨h3, h4⟩ := He.ba h
  exact ⟨h1, He.eqO_ok h2, h3, h4⟩
/-- isinstance's answers -/
def tkA (ca : Nat → Addr) : TK → Value
  | .non => .type "NoneType"
  | .bl => .type "bool"
  | .int => .type "int"
  | .str => .type "str"
  | .tup => .type "tuple"
  | .lst => .type "list"
  | .dct => .type "dict"
  | .own c => .ref (ca c)
def kinds0 : List TK := [.non, .bl, .int, .str, .tup, .lst, .dct]
def isiB (K : PySem.W.Frag) (ca : Nat → Addr) (cl : List Nat) (u : Value) (f : TK → Option Bool) : Bool := kitGB K && ((cl.all fun c => kitFB K (ca c)) && (kinds0 ++ cl.map TK.own).all fun t => match f t with
  | some b => decide (PySem.W.kitOne K (tkA ca t) u = some b)
  | none => true)
theorem isiB_ok {S : Sy} {u : Value} {f : TK → Option Bool} (h : isiB S.K S.ca S.cl u f = true) (hf : ∀ c, f (.own c) ≠ none → c ∈ S.cl) : IsiF S u f := by
  obtain ⟨h1, h⟩ := He.ba h
  obtain ⟨h2, h3⟩ := He.ba h
  refine ⟨kitGB_ok h1, fun t b e => ?_⟩
  have mem : t ∈ kinds0 ++ S.cl.map TK.own := by
    cases t <;> first | exact List.mem_append_left _ (by decide) | skip
    rename_i c
    exact List.mem_append_right _ (List.mem_map_of_mem (hf c (by rw [e]; simp)))
  have z := List.all_eq_true.mp h3 t mem
  rw [e] at z
  refine ⟨?_, fun c ec => ?_⟩
  · have := of_decide_eq_true z
    cases t <;> exact this
  · subst ec
    exact kitFB_ok (List.all_eq_true.mp h2 c (hf c (by rw [e]; simp)))
end
/-- the tables: int; one built-in type; an own class with its heirs -/
def isiInt (cl : List Nat) : TK → Option Bool
  | .bl => some true
  | .int => some true
  | .own c => if c ∈ cl then some false else none
  | _ => some false
def isiTy (k : TK) (cl : List Nat) : TK → Option Bool
  | .own c => if c ∈ cl then some false else none
  | t => some (decide (t = k))
def isiOwn (hs : List Nat) (cl : List Nat) : TK → Option Bool
  | .own c => if c ∈ cl then some (hs.contains c) else none
  | _ => some false
theorem isiInt_own {cl : List Nat} (c : Nat) (h : isiInt cl (.own c) ≠ none) : c ∈ cl := by
  unfold isiInt at h
  split at h <;> first | assumption | skip
  all_goals simp_all
theorem isiTy_own {k : TK} {cl : List Nat} (c : Nat) (h : isiTy k cl (.own c) ≠ none) : c ∈ cl := by
  simp only [isiTy] at h
  split at h <;> first | assumption | simp_all
theorem isiOwn_own {hs cl : List Nat} (c : Nat) (h : isiOwn hs cl (.own c) ≠ none) : c ∈ cl := by
  simp only [isiOwn] at h
  split at h <;> first | assumption | simp_all
/-- no other kind goes first in a comparison -/
def nfB (K : PySem.W.Frag) (ca : Nat → Addr) (cl : List Nat) (c : Nat) : Bool := (kinds0.all fun t => PySem.W.notFirst K (ca c) (tkA ca t)) && cl.all fun j => PySem.W.notFirst K (ca c) (.ref (ca j))
theorem nfB_ok {S : Sy} {c : Nat} (h : nfB S.K S.ca S.cl c = true) {W : Wd} {d : D} {t : TK} (e : tkD W d = some t) (ho : ∀ j, t = .own j → j ∈ S.cl) : ∃ v, tyD S W d = some v ∧ PySem.W.notFirst S.K (S.ca c) v = true := by
  obtain ⟨h1, h2⟩ := He.ba h
  have k0 : ∀ t, t ∈ kinds0 → PySem.W.notFirst S.K (S.ca c) (tkA S.ca t) = true := fun t ht => List.all_eq_true.mp h1 t ht
  have ko : ∀ j, j ∈ S.cl → PySem.W.notFirst S.K (S.ca c) (.ref (S.ca j)) = true := fun j hj => List.all_eq_true.mp h2 j hj
  cases d with
  | non => exact ⟨_, rfl, k0 .non (by decide)⟩
  | bl b => exact ⟨_, rfl, k0 .bl (by decide)⟩
  | int b => exact ⟨_, rfl, k0 .int (by decide)⟩
  | str b => exact ⟨_, rfl, k0 .str (by decide)⟩
  | tup b => exact ⟨_, rfl, k0 .tup (by decide)⟩
  | lst b => exact ⟨_, rfl, k0 .lst (by decide)⟩
  | dK b => exact ⟨_, rfl, k0 .dct (by decide)⟩
  | dT b => exact ⟨_, rfl, k0 .dct (by decide)⟩
  | ins j fs => cases e; exact ⟨_, rfl, ko j (ho j rfl)⟩
  | ptr a =>
    cases ea : W a with
    | none => simp only [tkD, ea] at e; cases e
    | some m =>
      simp only [tkD, ea] at e
      cases m with
      | lst ds => exact ⟨_, by simp only [tyD, ea]; rfl, k0 .lst (by decide)⟩
      | dK ds => exact ⟨_, by simp only [tyD, ea]; rfl, k0 .dct (by decide)⟩
      | dT ds => exact ⟨_, by simp only [tyD, ea]; rfl, k0 .dct (by decide)⟩
      | ins j fs => cases e; exact ⟨_, by simp only [tyD, ea], ko j (ho j rfl)⟩
  | _ => cases e
/-- a def without defaults -/
theorem fnD_mk {P : Program} {w : World} {S : Sy} {mg : Str → Option Value} {base : Heap} {x qual : Str} {params : Arguments} {body : List Stmt} {scope : Scope} {kws : List (Str × V)} {f : Addr} {fd : FuncData} {ps : List Str} {k : Nat} {sp2 : DSp}
    (Fd : FunD S.K x qual params body scope [] kws f fd) (F : FnOk P w S.K mg base (L2.CX P w) k f fd ps (upSp S sp2))
    (hb : ∀ (kV doc pm : Value) (an : Option Addr) (cdv ct : Value) (us : List Value), us.length = ps.length → bindArgs (PySem.W.fnOf x qual params body scope .none kV doc pm an cdv ct) ⟨us, []⟩ = pure (ps.zip us)) : FnD P w S mg base k f ps.length [] sp2 :=
  ⟨⟨fd, ps, [], F, rfl, fun _ => .nil, fun j hj => ⟨[], by simp only [List.drop_nil]; exact .nil, Fd.bindsN hb⟩⟩, Fd.kp⟩
/-- with one default -/
theorem fnD_mk1 {P : Program} {w : World} {S : Sy} {mg : Str → Option Value} {base : Heap} {x qual : Str} {params : Arguments} {body : List Stmt} {scope : Scope} {dvs : List V} {dds : List D} {kws : List (Str × V)} {f : Addr} {fd : FuncData} {ps : List Str} {k : Nat} {sp2 : DSp}
    (Fd : FunD S.K x qual params body scope dvs kws f fd) (F : FnOk P w S.K mg base (L2.CX P w) k f fd ps (upSp S sp2)) (hn : dvs ≠ []) (hle : dvs.length ≤ ps.length) (hd : ∀ F, Rps S F dvs dds)
    (hb : ∀ j, j ≤ dvs.length → ∀ (T : Addr) (kV doc pm : Value) (an : Option Addr) (cdv ct : Value) (us its : List Value), us.length = ps.length - (dvs.length - j) → its.length = dvs.length →
      ∃ k, bindArgs (PySem.W.fnOf x qual params body scope (.ref T) kV doc pm an cdv ct) ⟨us, []⟩ = seqItems? (.ref T) >>= k ∧ k (some its.toArray) = pure (ps.zip (us ++ its.drop j))) : FnD P w S mg base k f ps.length dds sp2 :=
  ⟨⟨fd, ps, dvs, F, rfl, hd, fun j hj => Fd.binds1 (ps.length - (dvs.length - j)) j hn (by have := (hd (fun _ => none)).length; omega) (hb j (by have := (hd (fun _ => none)).length; omega))⟩, Fd.kp⟩
end Mv
end
section
set_option Elab.async false
set_option linter.all false
set_option maxRecDepth 100000
set_option maxHeartbeats 4000000
namespace Mv
open PySem PySem.Spec L2
open Evl (Ex ex_l ex_t ex_rd)
open PyProof.Rows PySem.Calls
section
variable {prog : Program} {w : World} {A : Around} {E : Value → Shared → Prop} {s : Shared} {K : PySem.W.Frag} {x C f : Addr} {ox : Obj} {od : Option Obj}
theorem abs_K {Q : Value → Shared → Prop} (X : K.In s.heap) (I : PySem.W.InstAt s.heap x ox C od) (hs : PySem.W.findIn K (.ref C) "__abs__" = some (some (.ref f))) (hf : PySem.W.isFn K (.ref f) = true)
    (h : wpAny (model prog w) A.in1 (call (.ref f) [.ref x]) Q E s) : wpAny (model prog w) A (call (.builtin "abs") [.ref x]) Q E s := by
  refine Calls.call_function_entry kind_abs plain_abs entry_abs (args_abs _) ?_
  unfold Builtin.«abs»
  refine wpAny_bind (m := oneArg "abs" _) (wpAny_pure ?_)
  exact wpAny_bind (m := callSpecial? (.ref x) (Str.ofString "__abs__")) (PySem.W.special_fn X I hs (beq_iff_eq.mp hf) (wpAny_mono h (fun r s' hr => wpAny_pure ⟨r, rfl, hr⟩) fun _ _ y => y))
end
section
variable {X : Cx} {S : Sy} {E : XS} {k : Nat}
def isOwn (W : Wd) (d : D) : Bool := match d with
  | .ins _ _ => true
  | .ptr a => (match W a with
    | some (.ins _ _) => true
    | _ => false)
  | _ => false
/-- f(x): an own instance's method, or what the built-in does -/
def dB1 (M : Mts) (post : D → Option D) (r : DC) (te : DE) : DE := fun sd W Q E2 => te sd W (fun d W1 => if isOwn W1 d = true then kIns W1 d fun c _ => c ∈ M.l ∧ dfl (M.n c) (M.dd c) [d] fun ds' => M.sp c ds' W1 (fun y W2 => kSome (post y) fun z => Q z W2) (fun x W' => E2 x sd W') else r [d] W1 Q) E2
def isStr : D → Option D
  | .str s => some (.str s)
  | _ => none
theorem own_arg {M : Mts} {m : Str} {f : Value} {r : DC} {post : D → Option D} (hK : X.K = S.K) (tk : Takes X E) (hr : Room (k + 2) X.A) (hM : M.ok X S k m) (hc : CalD X S f r)
    (hown : ∀ (s : Shared) (a : Addr) (ox : Obj) (C g : Addr) (od : Option Obj) (Q : Value → Shared → Prop), X.K.In s.heap → PySem.W.InstAt s.heap a ox C od → PySem.W.findIn X.K (.ref C) m = some (some (.ref g)) → PySem.W.isFn X.K (.ref g) = true →
      (∀ A, Room k A → A.frames = X.A.frames → wpAny (model X.prog X.w) A (call (.ref g) [.ref a]) (fun v s' => Q v s' ∧ ((∀ x t, v ≠ .str x t) → post = some)) X.xe s) → wpAny (model X.prog X.w) X.A (call f [.ref a]) Q X.xe s)
    {pins : List (Addr × Obj)} {s : Shared} {σ : L2.St} {H F : Hp} {sd : SD} {W : Wd} {v : V} {d : D} {u : Value} {Q2 : QD} {E2 : QX} (I : Inv X pins σ H s) (rl : Rel S F W H) (sr : SRel S F σ sd) (xc : XCv S F E2 E) (rv : RelV v u) (rp : Rp S F v d)
    (hpost : ∀ y z, post y = some z → y = z) (hstr : post = some ∨ post = isStr)
    (q : if isOwn W d = true then kIns W d fun c _ => c ∈ M.l ∧ dfl (M.n c) (M.dd c) [d] fun ds' => M.sp c ds' W (fun y W2 => kSome (post y) fun z => Q2 z W2) (fun x W' => E2 x sd W') else r [d] W Q2) :
    wpAny (model X.prog X.w) X.A (call f [u]) (DP X S pins σ F Q2) X.xe s := by
  by_cases ho : isOwn W d = true
  · rw [if_pos ho] at q
    obtain ⟨a, dx, vs, j, fs, ex, ea, rf, hj, hsp⟩ := kIns.at rl rp q
    subst ex
    obtain rfl : u = Value.ref a := rv
    obtain ⟨cl, g, mt, G⟩ := hM j hj
    rw [← hK] at cl mt
    obtain ⟨mA, O, _⟩ := ins_get I.hok ea
    obtain ⟨od, J, _⟩ := O.look
    refine hown s a _ _ g (some od) _ I.kIn J mt.at_ mt.fn fun A hA hfr => ?_
    have e0 : Env0 X.prog X.w X.K X.mg X.base A X.stack s H := by
      have e := I.env0
      exact ⟨by rw [hfr]; exact e.frames, e.mod, e.bs, e.bsz, e.funs, e.frf, e.hok, e.bare⟩
    refine thn (run_at (us := [.ref a]) (vs := [.ref a]) (ds := [d]) hK G hA e0 tk I rl sr xc (.cons rfl .nil) (.cons rp .nil) hsp) fun v s' ⟨y, H', F', d', W', I', rv', e', rl', rp', q'⟩ => ?_
    obtain ⟨z, hz, q'⟩ := q'.inv
    have := hpost _ _ hz
    subst this
    refine ⟨⟨y, H', F', d', W', I', rv', e', rl', rp', q'⟩, fun hn => ?_⟩
    rcases hstr with h | h
    · exact h
    · subst h
      cases rp' <;> first | (simp [isStr] at hz; done) | skip
      obtain ⟨t, rfl⟩ := rv'
      exact absurd rfl (hn _ _)
  · rw [if_neg ho] at q
    exact thn (hc pins s σ H [v] [u] (tkQ S F Q2) I (.cons rv .nil) ⟨F, W, [d], Q2, rl, .cons rp .nil, tkQ_cv, q⟩) fun u s' z => EP.tk z
theorem Room.in2 {A : Around} (r : Room (k + 2) A) : Room k A.in1.in1 := r.in1.in1
/-- what follows one argument -/
abbrev G1 (M : Mts) (post : D → Option D) (r : DC) (Q2 : QD) (E2 : QX) (sd : SD) (ds : List D) (W1 : Wd) : Prop := match ds with
  | [d] => if isOwn W1 d = true then kIns W1 d fun c _ => c ∈ M.l ∧ dfl (M.n c) (M.dd c) [d] fun ds' => M.sp c ds' W1 (fun y W2 => kSome (post y) fun z => Q2 z W2) (fun x W' => E2 x sd W') else r [d] W1 Q2
  | _ => False
/-- abs(e) -/
theorem pd_abs {e : Expr} {te : DE} {M : Mts} {p pos : Pos} (hK : X.K = S.K) (tk : Takes X E) (hr : Room (k + 2) X.A) (hM : M.ok X S k "__abs__") (he : PD X S E e te) (hm : X.mg "abs" = none) (hg : Gl X "abs" := by rfl)
    (hs : starEach [e] X.env = (false, eval e X.env) :: starEach [] X.env := by rfl) (hpl : (backTo pos (starEach [] X.env)).any (·.1) = false := by rfl) : PD X S E (.Call (.Name "abs" p) [e] [] pos) (dB1 M some rAbsD te) := by
  refine ⟨fun pins s σ H F sd W Q2 E2 I rl sr xc h => ?_⟩
  refine wpAny_Call_Name_kw (ld_blt I hg hm (show bootBuiltins "abs" = some (.builtin "abs") by kernel_rfl) ?_ (by decide) (by decide))
  refine PyProof.Rows.callWith_builtin1 (thn ((pad_cons he pad_nil hs).run pos pins s σ H F sd W (G1 M some rAbsD Q2 E2 sd) E2 I rl sr xc h) fun us s1 ⟨vs, H1, F1, ds, W1, I1, rv, e1, rl1, rp, q⟩ => ?_) hs hpl
  match ds, q, rp with
  | [d], q, rp =>
    obtain ⟨x, rfl, px⟩ := rp.one
    obtain ⟨u, rfl, ru⟩ := vals1 rv
    refine thn (own_arg (post := some) hK tk hr hM cl_abs (fun s a ox C g od Q X0 J h1 h2 h3 => ?_) I1 rl1 (sr.mono e1) (XCv.mono e1 xc) ru px (fun y z e => Option.some.inj e) (.inl rfl) q) fun u s' z => z.back e1
    refine abs_K X0 J h1 h2 (thn (h3 X.A.in1 ?_ rfl) fun v s' z => z.1)
    exact (hr.mono (by omega)).in1
/-- str(e) -/
theorem pd_str1 {e : Expr} {te : DE} {M : Mts} {p pos : Pos} (hK : X.K = S.K) (tk : Takes X E) (hr : Room (k + 2) X.A) (hM : M.ok X S k "__str__") (he : PD X S E e te) (hm : X.mg "str" = none) (hg : Gl X "str" := by rfl)
    (hs : starEach [e] X.env = (false, eval e X.env) :: starEach [] X.env := by rfl) (hpl : (backTo pos (starEach [] X.env)).any (·.1) = false := by rfl) : PD X S E (.Call (.Name "str" p) [e] [] pos) (dB1 M isStr rStrD te) := by
  refine ⟨fun pins s σ H F sd W Q2 E2 I rl sr xc h => ?_⟩
  refine wpAny_Call_Name_kw (ld_blt I hg hm (show bootBuiltins "str" = some (.type "str") by kernel_rfl) ?_ (by decide) (by decide))
  refine PyProof.Rows.callWith_type1 (thn ((pad_cons he pad_nil hs).run pos pins s σ H F sd W (G1 M isStr rStrD Q2 E2 sd) E2 I rl sr xc h) fun us s1 ⟨vs, H1, F1, ds, W1, I1, rv, e1, rl1, rp, q⟩ => ?_) hs hpl
  match ds, q, rp with
  | [d], q, rp =>
    obtain ⟨x, rfl, px⟩ := rp.one
    obtain ⟨u, rfl, ru⟩ := vals1 rv
    refine thn (own_arg (post := isStr) hK tk hr hM cl_str (fun s a ox C g od Q X0 J h1 h2 h3 => ?_) I1 rl1 (sr.mono e1) (XCv.mono e1 xc) ru px (fun y z e => ?_) (.inr rfl) q) fun u s' z => z.back e1
    · refine PySem.W.kso_call (Nat.lt_of_le_of_lt (Nat.le_refl _) hr.in1.in1.units0) X0 J h1 h2 (thn (h3 X.A.in1.in1 hr.in1.in1 rfl) fun v s' z => ?_)
      cases v <;> first | exact z.1 | exact absurd (congrFun (z.2 (fun _ _ => nofun)) .non) (by simp [isStr])
    · cases y <;> simp [isStr] at e
      exact e ▸ rfl
/-- {e} of an f-string -/
def dFmtO (M : Mts) (te : DE) : DE := fun sd W Q E2 => te sd W (fun d W1 => if isOwn W1 d = true then kIns W1 d fun c _ => c ∈ M.l ∧ dfl (M.n c) (M.dd c) [d] fun ds' => M.sp c ds' W1 (fun y W2 => kSome (isStr y) fun z => Q z W2) (fun x W' => E2 x sd W') else (match d with
  | .str y => y.length ≤ sizeLine ∧ Q (.str y) W1
  | .int i => i.natAbs.log2 < 1920 ∧ Q (.str (toString i)) W1
  | _ => False)) E2
end
end Mv
end
section
set_option Elab.async false
set_option linter.all false
set_option maxRecDepth 100000
set_option maxHeartbeats 4000000
namespace Mv
open PySem PySem.Spec L2

/-! ## amounts: numbers as data -/
def partsD (q : Rat) : D := .tup [.int q.num, .int q.den]
def amt (q : Rat) : D := .ins 0 [(0, partsD q)]
def amQ : D → Option Rat
  | .ins 0 [(0, .tup [.int n, .int d])] => if (mkRat n d.toNat).num = n ∧ ((mkRat n d.toNat).den : Int) = d then some (mkRat n d.toNat) else none
  | _ => none
theorem amQ_amt (q : Rat) : amQ (amt q) = some q := by
  have e : mkRat q.num ((q.den : Int)).toNat = q := by
    rw [Int.toNat_natCast]
    exact Rat.mkRat_self q
  show (if (mkRat q.num ((q.den : Int)).toNat).num = q.num ∧ ((mkRat q.num ((q.den : Int)).toNat).den : Int) = (q.den : Int) then some (mkRat q.num ((q.den : Int)).toNat) else none) = some q
  rw [e, if_pos ⟨rfl, rfl⟩]
theorem amQ_some {d : D} {q : Rat} (h : amQ d = some q) : d = amt q := by
  unfold amQ at h
  split at h
  · rename_i n dd
    split at h
    · rename_i hc
      cases h
      show D.ins 0 [(0, .tup [.int n, .int dd])] = .ins 0 [(0, .tup [.int (mkRat n dd.toNat).num, .int ((mkRat n dd.toNat).den : Int)])]
      rw [hc.1, hc.2]
    · cases h
  · cases h
def toQ : D → Option Rat
  | .int i => some i
  | d => amQ d
theorem toQ_amt (q : Rat) : toQ (amt q) = some q := amQ_amt q
theorem toQ_int (i : Int) : toQ (.int i) = some (i : Rat) := rfl
theorem toQ_some {d : D} {q : Rat} (h : toQ d = some q) : (∃ i : Int, d = .int i ∧ q = i) ∨ d = amt q := by
  cases d with
  | int i => cases h; exact .inl ⟨i, rfl, rfl⟩
  | _ => exact .inr (amQ_some h)
theorem amt_pf (q : Rat) : (amt q).pf = true := rfl
/-- sizes that the operators take -/
def Sm (i : Int) : Prop := i.natAbs < 2 ^ 4400
def Bg (i : Int) : Prop := i.natAbs < 2 ^ 8990
def SZ (q : Rat) : Prop := Sm q.num ∧ Sm q.den
/-- == of an amount -/
def qA (cl : List Nat) : EqI := fun n c d => if n = 0 ∧ 0 ∈ cl then (match amQ c with
  | some p => (match toQ d with
    | some q => some (decide (p = q))
    | none => (match d with
      | .ins j _ => if cl.contains j && (j != 0 && d.pf) then some false else none
      | .non => some false
      | .bl _ => some false
      | .str _ => some false
      | .tup ds => if pfs ds then some false else none
      | .lst ds => if pfs ds then some false else none
      | _ => none))
  | none => none) else none
def qN : EqI := fun _ _ _ => none
theorem qA_amt {cl : List Nat} (h0 : 0 ∈ cl) (p q : Rat) : qA cl 0 (amt p) (amt q) = some (decide (p = q)) := by
  simp only [qA, amQ_amt, toQ_amt, h0, and_self, if_true]
theorem qA_int {cl : List Nat} (h0 : 0 ∈ cl) (p : Rat) (i : Int) : qA cl 0 (amt p) (.int i) = some (decide (p = i)) := by
  simp only [qA, amQ_amt, toQ_int, h0, and_self, if_true]
theorem eqD_amt {cl : List Nat} (h0 : 0 ∈ cl) (p q : Rat) : eqD (qA cl) (amt p) (amt q) = some (decide (p = q)) := by
  show (if ownR (amt q) = true then qA cl 0 (amt p) (amt q) else none) = _
  rw [if_pos (show ownR (amt q) = true from rfl), qA_amt h0]
theorem eqD_amt_int {cl : List Nat} (h0 : 0 ∈ cl) (p : Rat) (i : Int) : eqD (qA cl) (amt p) (.int i) = some (decide (p = i)) := by
  show (if ownR (.int i) = true then qA cl 0 (amt p) (.int i) else none) = _
  rw [if_pos (show ownR (.int i) = true from rfl), qA_int h0]
theorem eqD_int_amt {cl : List Nat} (h0 : 0 ∈ cl) (p : Rat) (i : Int) : eqD (qA cl) (.int i) (amt p) = some (decide (p = i)) := by
  show qA cl 0 (amt p) (.int i) = _
  rw [qA_int h0]
theorem qA_inv {cl : List Nat} {n : Nat} {c d : D} {b : Bool} (h : qA cl n c d = some b) : (n = 0 ∧ 0 ∈ cl) ∧ ∃ p, c = amt p ∧ ((∃ q, toQ d = some q ∧ b = decide (p = q)) ∨ (toQ d = none ∧ b = false ∧ d.pf = true ∧ ∃ t, tkD (fun _ => none) d = some t ∧ ∀ j, t = .own j → j ∈ cl ∧ j ≠ 0)) := by
  unfold qA at h
  by_cases hn : n = 0 ∧ 0 ∈ cl
  · rw [if_pos hn] at h
    refine ⟨hn, ?_⟩
    cases hc : amQ c with
    | none => rw [hc] at h; cases h
    | some p =>
      rw [hc] at h
      refine ⟨p, amQ_some hc, ?_⟩
      cases hd : toQ d with
      | some q =>
        rw [hd] at h
        dsimp only at h
        cases h
        exact .inl ⟨q, rfl, rfl⟩
      | none =>
        rw [hd] at h
        dsimp only at h
        refine .inr ⟨rfl, ?_⟩
        cases d with
        | ins j fs =>
          dsimp only at h
          split at h
          · rename_i hj
            simp only [Bool.and_eq_true, bne_iff_ne] at hj
            cases h
            exact ⟨rfl, hj.2.2, _, rfl, fun i e => by cases e; exact ⟨by simpa using hj.1, hj.2.1⟩⟩
          · cases h
        | non => cases h; exact ⟨rfl, rfl, _, rfl, fun j e => (by cases e)⟩
        | bl b => cases h; exact ⟨rfl, rfl, _, rfl, fun j e => (by cases e)⟩
        | str b => cases h; exact ⟨rfl, rfl, _, rfl, fun j e => (by cases e)⟩
        | tup ds =>
          dsimp only at h
          split at h
          · rename_i hp
            cases h; exact ⟨rfl, hp, _, rfl, fun j e => (by cases e)⟩
          · cases h
        | lst ds =>
          dsimp only at h
          split at h
          · rename_i hp
            cases h; exact ⟨rfl, hp, _, rfl, fun j e => (by cases e)⟩
          · cases h
        | _ => cases h
  · rw [if_neg hn] at h; cases h
/-! ### promises -/
def kQ (d : D) (q : Rat → Prop) : Prop := kSome (toQ d) q
/-- a kind that is known; if of the class Amount, one in lowest terms -/
def knD (S : Sy) (W : Wd) (d : D) : Prop := (∃ t, tkD W d = some t ∧ ∀ j, t = .own j → j ∈ S.cl) ∧ (kIns W d (fun c _ => c = 0) → ∃ q, d = amt q)
def isIntD : D → Bool
  | .int _ => true
  | _ => false
theorem isIntD_tk {W : Wd} {d : D} {t : TK} (h : tkD W d = some t) : isIntD d = decide (t = .int) := by
  cases d with
  | ptr a =>
    cases e : W a with
    | none => simp only [tkD, e] at h; cases h
    | some m => simp only [tkD, e] at h; cases m <;> (cases h; rfl)
  | ty n => cases h
  | exn c f => cases h
  | frl c => cases h
  | lam f c q F0 => cases h
  | _ => cases h; rfl
def sp_is_integer (S : Sy) : DSp := fun ds W Q _ => match ds with
  | [d] => (∃ t, tkD W d = some t ∧ ∀ j, t = .own j → j ∈ S.cl) ∧ Q (.bl (isIntD d)) W
  | _ => False
def sp_common_divisor (S : Sy) : DSp := fun ds W Q _ => match ds with
  | [.int a, .int b] => 0 ≤ a ∧ 0 ≤ b ∧ Q (.int (Int.gcd a b)) W
  | _ => False
def sp_lowest (S : Sy) : DSp := fun ds W Q _ => match ds with
  | [.int t, .int b] => b ≠ 0 ∧ Bg b ∧ Q (partsD (Rat.divInt t b)) W
  | _ => False
def sp_parts_of (S : Sy) : DSp := fun ds W Q _ => match ds with
  | [d] => knD S W d ∧ 0 ∈ S.cl ∧ Q (match toQ d with
    | some q => partsD q
    | none => .non) W
  | _ => False
/-- BadAmount with its part -/
def badA (s : Str) : D := .exn 3 [(44, .str s)]
/-- a value of a kind that isinstance knows -/
def knT (S : Sy) (W : Wd) (d : D) : Prop := ∃ t, tkD W d = some t ∧ ∀ j, t = .own j → j ∈ S.cl
def intD : D → Option Int
  | .int i => some i
  | _ => none
def sp_Amount_init (S : Sy) : DSp := fun ds W Q E => match ds with
  | [.ptr p, t, b] => W p = some (.ins 0 []) ∧ knT S W t ∧ knT S W b ∧ (match intD t with
    | none => E (badA "top") W
    | some t => (match intD b with
      | none => E (badA "bottom") W
      | some b => if b = 0 then E (badA "bottom") W else Bg b ∧ Q .non (put W p (.ins 0 [(0, partsD (Rat.divInt t b))]))))
  | _ => False
def sp_Amount_top (S : Sy) : DSp := fun ds W Q _ => match ds with
  | [d] => kSome (amQ d) fun q => Q (.int q.num) W
  | _ => False
def sp_Amount_bottom (S : Sy) : DSp := fun ds W Q _ => match ds with
  | [d] => kSome (amQ d) fun q => Q (.int q.den) W
  | _ => False
def sp_Amount_of (S : Sy) : DSp := fun ds W Q E => match ds with
  | [d] => knD S W d ∧ 0 ∈ S.cl ∧ (match toQ d with
    | some q => Q (amt q) W
    | none => E (badA "value") W)
  | _ => False
def spBin (f : Rat → Rat → Rat) : DSp := fun ds W Q _ => match ds with
  | [c, d] => kSome (amQ c) fun p => kQ d fun q => SZ p ∧ SZ q ∧ Q (amt (f p q)) W
  | _ => False
def spCm (g : Rat → Rat → Bool) : DSp := fun ds W Q _ => match ds with
  | [c, d] => kSome (amQ c) fun p => kQ d fun q => SZ p ∧ SZ q ∧ Q (.bl (g p q)) W
  | _ => False
def sp_Amount_add (S : Sy) : DSp := fun ds W Q E => 0 ∈ S.cl ∧ spBin (fun p q => p + q) ds W Q E
def sp_Amount_radd (S : Sy) : DSp := fun ds W Q E => 0 ∈ S.cl ∧ spBin (fun p q => q + p) ds W Q E
def sp_Amount_sub (S : Sy) : DSp := fun ds W Q E => 0 ∈ S.cl ∧ spBin (fun p q => p - q) ds W Q E
def sp_Amount_rsub (S : Sy) : DSp := fun ds W Q E => 0 ∈ S.cl ∧ spBin (fun p q => q - p) ds W Q E
def sp_Amount_mul (S : Sy) : DSp := fun ds W Q E => 0 ∈ S.cl ∧ spBin (fun p q => p * q) ds W Q E
def sp_Amount_rmul (S : Sy) : DSp := fun ds W Q E => 0 ∈ S.cl ∧ spBin (fun p q => q * p) ds W Q E
def sp_Amount_over (S : Sy) : DSp := fun ds W Q E => 0 ∈ S.cl ∧ (match ds with
  | [c, d] => kSome (amQ c) fun p => kQ d fun q => if q = 0 then E (badA "other") W else SZ p ∧ SZ q ∧ Q (amt (p / q)) W
  | _ => False)
def spUn (f : Rat → Rat) : DSp := fun ds W Q _ => match ds with
  | [c] => kSome (amQ c) fun p => SZ p ∧ Q (amt (f p)) W
  | _ => False
def sp_Amount_neg (S : Sy) : DSp := fun ds W Q E => 0 ∈ S.cl ∧ spUn (fun p => -p) ds W Q E
def absQ (p : Rat) : Rat := if p < 0 then -p else p
def sp_Amount_abs (S : Sy) : DSp := fun ds W Q E => 0 ∈ S.cl ∧ spUn absQ ds W Q E
def sp_times_of (S : Sy) : DSp := fun ds W Q E => match ds with
  | [.tup [.int a, .int b], .tup [.int c, .int d]] => if c ≤ 0 then E (badA "other") W else 0 < b ∧ 0 < d ∧ Sm a ∧ Sm b ∧ Sm c ∧ Sm d ∧ Q (.int (a * d / (b * c))) W
  | _ => False
def flQ (p q : Rat) : Int := p.num * q.den / (p.den * q.num)
def sp_Amount_floordiv (S : Sy) : DSp := fun ds W Q E => 0 ∈ S.cl ∧ (match ds with
  | [c, d] => kSome (amQ c) fun p => kQ d fun q => if q ≤ 0 then E (badA "other") W else SZ p ∧ SZ q ∧ Q (.int (flQ p q)) W
  | _ => False)
def sp_Amount_mod (S : Sy) : DSp := fun ds W Q E => 0 ∈ S.cl ∧ (match ds with
  | [c, d] => kSome (amQ c) fun p => kQ d fun q => if q ≤ 0 then E (badA "other") W else SZ p ∧ SZ q ∧ Q (amt (p - flQ p q * q)) W
  | _ => False)
def sp_Amount_bool (S : Sy) : DSp := fun ds W Q _ => match ds with
  | [c] => kSome (amQ c) fun p => Q (.bl (decide (p ≠ 0))) W
  | _ => False
def sp_Amount_eq (S : Sy) : DSp := spEqO (qA S.cl)
def sp_Amount_lt (S : Sy) : DSp := fun ds W Q E => 0 ∈ S.cl ∧ spCm (fun p q => decide (p < q)) ds W Q E
def sp_Amount_le (S : Sy) : DSp := fun ds W Q E => 0 ∈ S.cl ∧ spCm (fun p q => decide (p ≤ q)) ds W Q E
def sp_Amount_gt (S : Sy) : DSp := fun ds W Q E => 0 ∈ S.cl ∧ spCm (fun p q => decide (q < p)) ds W Q E
def sp_Amount_ge (S : Sy) : DSp := fun ds W Q E => 0 ∈ S.cl ∧ spCm (fun p q => decide (q ≤ p)) ds W Q E
/-- the text of an amount -/
def qStr (q : Rat) : Str := if q.den = 1 then toString q.num else (toString q.num : Str) ++ "/" ++ (toString (q.den : Int) : Str)
/-- the texts are short enough -/
def SZs (q : Rat) : Prop := q.num.natAbs < 2 ^ 1900 ∧ q.den < 2 ^ 1900
def sp_Amount_str (S : Sy) : DSp := fun ds W Q _ => match ds with
  | [c] => kSome (amQ c) fun p => SZs p ∧ Q (.str (qStr p)) W
  | _ => False
def qsD : List D → Option (List Rat)
  | [] => some []
  | d :: ds => (match toQ d, qsD ds with
    | some q, some r => some (q :: r)
    | _, _ => none)
def sumQ (qs : List Rat) : Rat := qs.foldl (· + ·) 0
def sp_Amount_total (S : Sy) : DSp := fun ds W Q _ => 0 ∈ S.cl ∧ (match ds with
  | [d] => kSeq W d fun xs => kSome (qsD xs) fun qs => (∀ i, SZ (sumQ (qs.take i))) ∧ (∀ q ∈ qs, SZ q) ∧ Q (amt (sumQ qs)) W
  | _ => False)
def leastQ : List Rat → Rat
  | [] => 0
  | q :: qs => qs.foldl (fun a v => if v < a then v else a) q
def mostQ : List Rat → Rat
  | [] => 0
  | q :: qs => qs.foldl (fun a v => if a < v then v else a) q
def sp_Amount_least (S : Sy) : DSp := fun ds W Q _ => 0 ∈ S.cl ∧ (match ds with
  | [d] => kSeq W d fun xs => kSome (qsD xs) fun qs => qs ≠ [] ∧ (∀ q ∈ qs, SZ q) ∧ Q (amt (leastQ qs)) W
  | _ => False)
def sp_Amount_greatest (S : Sy) : DSp := fun ds W Q _ => 0 ∈ S.cl ∧ (match ds with
  | [d] => kSeq W d fun xs => kSome (qsD xs) fun qs => qs ≠ [] ∧ (∀ q ∈ qs, SZ q) ∧ Q (amt (mostQ qs)) W
  | _ => False)
/-! ### what the operators ask -/
theorem cm_rhs {S : Sy} {c : Nat} (h : nfB S.K S.ca S.cl c = true) (hc : c ∈ S.cl) (d : D) (W : Wd) (hr : rhsIS c d W) : ∃ t, tyD S W d = some t ∧ PySem.W.notFirst S.K (S.ca c) t = true := by
  cases d with
  | int i => exact nfB_ok h (t := .int) rfl fun j e => (by cases e)
  | ins j fs =>
    obtain rfl : j = c := hr
    exact nfB_ok h (t := .own j) rfl fun i e => by cases e; exact hc
  | ptr a =>
    have h3 : (match W a with | some (.ins c' _) => c' = c | _ => False) := hr
    cases e : W a with
    | none => rw [e] at h3; exact h3.elim
    | some m =>
      rw [e] at h3
      cases m with
      | ins c' _ =>
        obtain rfl : c' = c := h3
        exact nfB_ok h (t := .own c') (by simp only [tkD, e]) fun i e => by cases e; exact hc
      | _ => exact h3.elim
  | _ => exact hr.elim
theorem eqo_amt {X : Cx} {S : Sy} {j : Nat} (hK : X.K = S.K) (h0 : 0 ∈ S.cl) (me : MtD X.prog X.w S X.mg X.base j 0 "__eq__" 2 [] (sp_Amount_eq S)) (nf : nfB S.K S.ca S.cl 0 = true) (mo : PySem.W.mroIn S.K (S.ca 0) (.type "object") = some true)
    (ne : PySem.W.findIn S.K (.ref (S.ca 0)) "__ne__" = some (some (.builtin "object.__ne__"))) (sb : ∀ T, T ∈ leftTs → PySem.W.subIn S.K (.ref (S.ca 0)) (.type T) = some false) : EqO X S (qA S.cl) j := by
  refine ⟨hK, fun n fs d b h => ?_, fun n fs d b h => ?_, fun n fs d b h => ?_⟩
  · obtain ⟨_, p, hp, h⟩ := qA_inv h
    rw [hp]
    refine ⟨rfl, ?_⟩
    rcases h with ⟨q, hq, hb⟩ | ⟨hn, hb, hp, _⟩
    · rcases toQ_some hq with ⟨i, rfl, e⟩ | rfl
      · exact ⟨rfl, fun e => (by cases e)⟩
      · refine ⟨rfl, fun e => ?_⟩
        have := congrArg amQ e
        rw [amQ_amt, amQ_amt] at this
        rw [hb]
        exact decide_eq_true (Option.some.inj this)
    · exact ⟨hp, fun e => by rw [← e, toQ_amt] at hn; cases hn⟩
  · obtain ⟨⟨rfl, _⟩, _⟩ := qA_inv h
    exact me
  · obtain ⟨⟨rfl, _⟩, p, hp, h⟩ := qA_inv h
    refine ⟨?_, mo, ne, sb⟩
    rcases h with ⟨q, hq, hb⟩ | ⟨hn, hb, hp, t, ht, ho⟩
    · rcases toQ_some hq with ⟨i, rfl, e⟩ | rfl
      · exact nfB_ok nf (t := .int) rfl fun j e => (by cases e)
      · exact nfB_ok nf (t := .own 0) rfl fun i e => by cases e; exact h0
    · exact nfB_ok nf ht fun j e => (ho j e).1
/-! ### tables -/
abbrev mt1 (n : Nat) (sp : Sy → DSp) (S : Sy) : Mts := ⟨[0], fun _ => n, fun _ => [], fun _ => sp S⟩
def mAdd := mt1 2 sp_Amount_add
def mRadd := mt1 2 sp_Amount_radd
def mSub := mt1 2 sp_Amount_sub
def mRsub := mt1 2 sp_Amount_rsub
def mMul := mt1 2 sp_Amount_mul
def mRmul := mt1 2 sp_Amount_rmul
def mFdv := mt1 2 sp_Amount_floordiv
def mMod := mt1 2 sp_Amount_mod
def mLt := mt1 2 sp_Amount_lt
def mLe := mt1 2 sp_Amount_le
def mGt := mt1 2 sp_Amount_gt
def mGe := mt1 2 sp_Amount_ge
def mNeg := mt1 1 sp_Amount_neg
def mAbs := mt1 1 sp_Amount_abs
def mStr := mt1 1 sp_Amount_str
def mOver := mt1 2 sp_Amount_over
def a_parts (S : Sy) : Ats := ⟨[0], [], fun _ _ _ _ _ => False⟩
def a_top (S : Sy) : Ats := ⟨[], [0], fun _ => sp_Amount_top S⟩
def a_bottom (S : Sy) : Ats := ⟨[], [0], fun _ => sp_Amount_bottom S⟩
end Mv
end
section
set_option Elab.async false
set_option linter.all false
set_option maxRecDepth 100000
set_option maxHeartbeats 4000000
namespace Mv
open PySem PySem.Spec L2
/-! ## the readings' equations, outermost first -/
section
variable {D : DEnds} {sd : SD} {W : Wd} {Q : QD} {E : QX} {QA : List Mv.D → Wd → Prop} {QB : Bool → Wd → Prop} {QS : SD → Wd → Prop} {S : Sy}
theorem dSeq_e {t u : DS} : dSeq t u D sd W E = t { D with nx := fun sd' W' => u D sd' W' E } sd W E := rfl
theorem dNext_e : dNext D sd W E = D.nx sd W := rfl
theorem dBreak_e : dBreak D sd W E = D.bk sd W := rfl
theorem dCont_e : dCont D sd W E = D.ct sd W := rfl
theorem dNever_e : dNever D sd W E = False := rfl
theorem dRet_e {t : DE} : dRet t D sd W E = t sd W D.rt E := rfl
theorem dRetN_e : dRetN D sd W E = D.rt .non W := rfl
theorem dDrop_e {t : DE} : dDrop t D sd W E = t sd W (fun _ W1 => D.nx sd W1) E := rfl
theorem dIfS_e {c : DT} {t u : DS} : dIfS c t u D sd W E = c sd W (fun b W1 => if b = true then t D sd W1 E else u D sd W1 E) E := rfl
theorem dAsg_e {t : DE} {g : DG} : dAsg t g D sd W E = t sd W (fun d W1 => g d sd W1 D.nx) E := rfl
theorem dPar_e {i j : Nat} {t : DA} : dPar i j t D sd W E = t sd W (fun ds W1 => match ds with
  | [c, d] => D.nx ((sd.set i (some c)).set j (some d)) W1
  | _ => False) E := rfl
theorem dPar3_e {i j l : Nat} {t : DA} : dPar3 i j l t D sd W E = t sd W (fun ds W1 => match ds with
  | [c, d, e] => D.nx (((sd.set i (some c)).set j (some d)).set l (some e)) W1
  | _ => False) E := rfl
theorem gN_e {i : Nat} {d : Mv.D} : gN i d sd W QS = QS (sd.set i (some d)) W := rfl
theorem gTp_e {n : Nat} {t : DGs} {ds : List Mv.D} : gTp n t (.tup ds) sd W QS = (ds.length = n ∧ t ds sd W QS) := rfl
theorem gNs_e {t : DG} {u : DGs} {d : Mv.D} {r : List Mv.D} : gNs t u (d :: r) sd W QS = t d sd W (fun sd' W' => u r sd' W' QS) := rfl
theorem gN0_e : gN0 [] sd W QS = QS sd W := rfl
theorem dVar_e {i : Nat} : dVar i sd W Q E = ∃ d, sd[i]? = some (some d) ∧ Q d W := rfl
theorem dC_e {d : Mv.D} : dC d sd W Q E = Q d W := rfl
theorem dCB_e {r : DC} {t : DA} : dCB r t sd W Q E = t sd W (fun ds W1 => r ds W1 Q) E := rfl
theorem dCons_e {t : DE} {u : DA} : dCons t u sd W QA E = t sd W (fun d W1 => u sd W1 (fun ds W2 => QA (d :: ds) W2) E) E := rfl
theorem dNil_e : dNil sd W QA E = QA [] W := rfl
theorem dTup_e {t : DA} : dTup t sd W Q E = t sd W (fun ds W1 => ds.length ≤ 1000 ∧ Q (.tup ds) W1) E := rfl
theorem dLst_e {t : DA} : dLst t sd W Q E = t sd W (fun ds W1 => ds.length ≤ 1000 ∧ Q (.lst ds) W1) E := rfl
theorem dLstM_e {t : DA} : dLstM t sd W Q E = t sd W (fun ds W1 => ds.length ≤ 1000 ∧ ∀ p, W1 p = none → Q (.ptr p) (put W1 p (.lst ds))) E := rfl
theorem dOp_e {r : D2} {a b : DE} : dOp r a b sd W Q E = a sd W (fun c W1 => b sd W1 (fun d W2 => r c d sd W2 Q E) E) E := rfl
theorem dTst_e {t : DE} : dTst t sd W QB E = t sd W (fun d W1 => kTru W1 d fun b => QB b W1) E := rfl
theorem dTbl_e {t : DE} : dTbl t sd W QB E = t sd W (fun d W1 => kBl d fun b => QB b W1) E := rfl
theorem dNot_e {t : DT} : dNot t sd W QB E = t sd W (fun b W1 => QB (!b) W1) E := rfl
theorem dAnd_e {t u : DT} : dAnd t u sd W QB E = t sd W (fun b W1 => if b = true then u sd W1 QB E else QB false W1) E := rfl
theorem dOr_e {t u : DT} : dOr t u sd W QB E = t sd W (fun b W1 => if b = true then QB true W1 else u sd W1 QB E) E := rfl
theorem dAndV_e {t u : DE} : dAndV t u sd W Q E = t sd W (fun d W1 => kBl d fun b => if b = true then u sd W1 Q E else Q (.bl false) W1) E := rfl
theorem dOrV_e {t u : DE} : dOrV t u sd W Q E = t sd W (fun d W1 => kBl d fun b => if b = true then Q (.bl true) W1 else u sd W1 Q E) E := rfl
theorem dNotV_e {t : DE} : dNotV t sd W Q E = t sd W (fun d W1 => kTru W1 d fun b => Q (.bl (!b)) W1) E := rfl
theorem dIf_e {c : DT} {t u : DE} : dIf c t u sd W Q E = c sd W (fun b W1 => if b = true then t sd W1 Q E else u sd W1 Q E) E := rfl
theorem dCall_e {n : Nat} {dd : List Mv.D} {sp : DSp} {t : DA} : dCall n dd sp t sd W Q E = t sd W (fun ds W1 => dfl n dd ds fun ds' => sp ds' W1 Q (fun d W' => E d sd W')) E := rfl
theorem dSm_e {C : Addr} {n : Nat} {dd : List Mv.D} {sp : DSp} {ta : DE} {t : DA} : dSm C n dd sp ta t sd W Q E = ta sd W (fun d W1 => d = .ptr C ∧ t sd W1 (fun ds W2 => dfl n dd ds fun ds' => sp ds' W2 Q (fun x W' => E x sd W')) E) E := rfl
theorem dCm_e {C : Addr} {n : Nat} {dd : List Mv.D} {sp : DSp} {ta : DE} {t : DA} : dCm C n dd sp ta t sd W Q E = ta sd W (fun d W1 => d = .ptr C ∧ t sd W1 (fun ds W2 => dfl n dd (.ptr C :: ds) fun ds' => sp ds' W2 Q (fun x W' => E x sd W')) E) E := rfl
theorem dMeth_e {M : Mts} {ta : DE} {t : DA} : dMeth M ta t sd W Q E = ta sd W (fun d W1 => kIns W1 d fun c _ => c ∈ M.l ∧ t sd W1 (fun ds W2 => dfl (M.n c) (M.dd c) (d :: ds) fun ds' => M.sp c ds' W2 Q (fun x W' => E x sd W')) E) E := rfl
theorem dfl_e0 {n : Nat} {ds : List Mv.D} {k : List Mv.D → Prop} : dfl n [] ds k = (ds.length ≤ n ∧ n ≤ ds.length + 0 ∧ k (ds ++ [])) := by simp [dfl]
theorem dAttr_e {M : Ats} {i : Nat} {ta : DE} : dAttr M i ta sd W Q E = ta sd W (fun d W1 => kIns W1 d fun c fs => (c ∈ M.fl ∧ match fs.lookup i with
  | some x => Q x W1
  | none => False) ∨ (c ∈ M.pr ∧ M.sp c [d] W1 Q (fun _ _ => False))) E := rfl
theorem dFor_e {ti : DI} {g : DG} {tb : DS} : dFor ti g tb D sd W E = ti sd W (fun l W1 => loopD l.ok g tb D E l.items sd W1) E := rfl
theorem iSq_e {t : DE} {QL : LiD → Wd → Prop} : iSq t sd W QL E = t sd W (fun d W1 => kLi W1 d fun l => QL l W1) E := rfl
theorem iRng1_e {t : DA} {QL : LiD → Wd → Prop} : iRng1d t sd W QL E = t sd W (fun ds W1 => match ds with
  | [.int j] => -(2 ^ 62) ≤ j ∧ j < 2 ^ 62 ∧ QL ⟨rngD 0 j.toNat, none⟩ W1
  | _ => False) E := rfl
theorem dNeg_e {t : DE} : dNeg t sd W Q E = t sd W (fun d W1 => match d with
  | .int i => Q (.int (-i)) W1
  | _ => False) E := rfl
theorem dNegO_e {M : Mts} {t : DE} : dNegO M t sd W Q E = t sd W (fun d W1 => match d with
  | .int i => Q (.int (-i)) W1
  | d => kIns W1 d fun c _ => c ∈ M.l ∧ dfl (M.n c) (M.dd c) [d] fun ds' => M.sp c ds' W1 Q (fun x W' => E x sd W')) E := rfl
theorem dFld_e {l : List Nat} {i : Nat} {ta t : DE} : dFld l i ta t D sd W E = t sd W (fun y W1 => ta sd W1 (fun d W2 => match d with
  | .ptr a => (match W2 a with
    | some (.ins c fs) => c ∈ l ∧ fs.length ≤ 100 ∧ D.nx sd (put W2 a (.ins c (putN i y fs)))
    | _ => False)
  | _ => False) E) E := rfl
theorem dLc_e {ti : DI} {g : DG} {tt : DT} {te : DE} {vs : List Nat} : dLc ti g tt te vs sd W Q E = ti sd W (fun l W1 => ∀ p, W1 p = none → compD p l.ok g tt te (wipeD sd vs) (fun acc W2 => Q (.lst acc) (cut W2 p)) l.items [] (put W1 p (.lst []))) E := rfl
theorem dBM_e {T : String} {r : DM} {to : DE} {t : DA} : dBM T r to t sd W Q E = to sd W (fun d W1 => tyM T W1 d ∧ t sd W1 (fun ds W2 => r d ds W2 Q) E) E := rfl
theorem dFmt_e {t : DE} : dFmt t sd W Q E = t sd W (fun d W1 => match d with
  | .str y => y.length ≤ sizeLine ∧ Q (.str y) W1
  | .int i => i.natAbs.log2 < 1920 ∧ Q (.str (toString i)) W1
  | _ => False) E := rfl
theorem dB1_e {M : Mts} {post : Mv.D → Option Mv.D} {r : DC} {t : DE} : dB1 M post r t sd W Q E = t sd W (fun d W1 => if isOwn W1 d = true then kIns W1 d fun c _ => c ∈ M.l ∧ dfl (M.n c) (M.dd c) [d] fun ds' => M.sp c ds' W1 (fun y W2 => kSome (post y) fun z => Q z W2) (fun x W' => E x sd W') else r [d] W1 Q) E := rfl
theorem dSl_e {te : DE} {tl th : DO} : dSl te tl th sd W Q E = te sd W (fun c W1 => tl sd W1 (fun lo W2 => th sd W2 (fun hi W3 => match c with
  | .str z => z.length ≤ sizeLine ∧ Q (.str (cutS z lo hi)) W3
  | .lst ds => Q (.lst (cutD ds lo hi)) W3
  | .frl ds => Q (.lst (cutD ds lo hi)) W3
  | .tup ds => ¬ (HT.sIx ds.length 0 lo = 0 ∧ HT.sIx ds.length ds.length hi = ds.length) ∧ Q (.tup (cutD ds lo hi)) W3
  | .ptr a => (match W3 a with
    | some (.lst ds) => Q (.lst (cutD ds lo hi)) W3
    | _ => False)
  | _ => False) E) E) E := rfl
theorem dPart_e {t : DE} {QO : Option Int → Wd → Prop} : dPart t sd W QO E = t sd W (fun d W1 => match d with
  | .int i => QO (some i) W1
  | _ => False) E := rfl
theorem dNoPart_e {QO : Option Int → Wd → Prop} : dNoPart sd W QO E = QO none W := rfl
theorem gSetL_e {to ti : DE} {d : Mv.D} : gSetL to ti d sd W QS = to sd W (fun o W1 => ti sd W1 (fun i W2 => match i with
  | .int k => kLst W2 o fun a ds => kSome (ixN ds.length k) fun j => QS sd (put W2 a (.lst (ds.set j d)))
  | _ => False) E2F) E2F := rfl
theorem tMul_ii {M MR : Mts} {a b : Int} : Mv.tMul M MR (.int a) (.int b) sd W Q E = ((CMulW a b ∨ CMul a b) ∧ Q (.int (a * b)) W) := rfl
theorem tAdd_ii {M MR : Mts} {a b : Int} : Mv.tAdd M MR (.int a) (.int b) sd W Q E = Q (.int (a + b)) W := rfl
theorem tSub_ii {M MR : Mts} {a b : Int} : Mv.tSub M MR (.int a) (.int b) sd W Q E = Q (.int (a - b)) W := rfl
theorem tFdiv_ii {M : Mts} {a b : Int} : tFdiv M (.int a) (.int b) sd W Q E = (CDivW a b ∧ Q (.int (a / b)) W) := rfl
theorem tMod_ii {M : Mts} {a b : Int} : tMod M (.int a) (.int b) sd W Q E = (0 < b ∧ Q (.int (a % b)) W) := rfl
theorem tPow_ii {a b : Int} : tPow (.int a) (.int b) sd W Q E = (CPow a b ∧ Q (.int (a ^ b.toNat)) W) := rfl
theorem tCm_ii {M MR : Mts} {g : Int → Int → Bool} {a b : Int} : tCm M MR g (.int a) (.int b) sd W Q E = Q (.bl (g a b)) W := rfl
theorem ix0 {a b : Mv.D} : atI [a, b] (0 : Int) = some a := rfl
theorem ix1 {a b : Mv.D} : atI [a, b] (1 : Int) = some b := rfl
theorem kIns_amt {p : Rat} {k : Nat → List (Nat × Mv.D) → Prop} : kIns W (amt p) k = k 0 [(0, partsD p)] := rfl
theorem aP {p : Rat} {i : Nat} (h : sd[i]? = some (some (amt p))) (q : Q (partsD p) W) : dAttr (a_parts S) 0 (dVar i) sd W Q E := ⟨_, h, .inl ⟨List.mem_singleton.mpr rfl, q⟩⟩
theorem rdA {p : Rat} {r : SD} : dAttr (a_parts S) 0 (dVar 0) (some (amt p) :: r) W Q E = Q (partsD p) W := by
  simp [dAttr_e, dVar_e, kIns_amt, a_parts, List.lookup]
theorem rdP0 {p : Rat} {r : SD} : dOp tIx (dAttr (a_parts S) 0 (dVar 0)) (dC (.int 0)) (some (amt p) :: r) W Q E = Q (.int p.num) W := by
  rw [dOp_e, rdA]
  rfl
theorem rdP1 {p : Rat} {r : SD} : dOp tIx (dAttr (a_parts S) 0 (dVar 0)) (dC (.int 1)) (some (amt p) :: r) W Q E = Q (.int p.den) W := by
  rw [dOp_e, rdA]
  rfl
theorem rdV0 {x y : Option Mv.D} {p : Rat} {r : SD} : dOp tIx (dVar 2) (dC (.int 0)) (x :: y :: some (partsD p) :: r) W Q E = Q (.int p.num) W := by
  simp only [dOp_e, dVar_e, List.getElem?_cons_succ, List.getElem?_cons_zero, Option.some.injEq, exists_eq_left', dC_e]
  rfl
theorem rdV1 {x y : Option Mv.D} {p : Rat} {r : SD} : dOp tIx (dVar 2) (dC (.int 1)) (x :: y :: some (partsD p) :: r) W Q E = Q (.int p.den) W := by
  simp only [dOp_e, dVar_e, List.getElem?_cons_succ, List.getElem?_cons_zero, Option.some.injEq, exists_eq_left', dC_e]
  rfl
theorem dOpMul_e {M MR : Mts} {a b : DE} : dOp (Mv.tMul M MR) a b sd W Q E = a sd W (fun c W1 => b sd W1 (fun d W2 => (Mv.tMul M MR) c d sd W2 Q E) E) E := rfl
theorem dOpAdd_e {M MR : Mts} {a b : DE} : dOp (Mv.tAdd M MR) a b sd W Q E = a sd W (fun c W1 => b sd W1 (fun d W2 => (Mv.tAdd M MR) c d sd W2 Q E) E) E := rfl
theorem dOpSub_e {M MR : Mts} {a b : DE} : dOp (Mv.tSub M MR) a b sd W Q E = a sd W (fun c W1 => b sd W1 (fun d W2 => (Mv.tSub M MR) c d sd W2 Q E) E) E := rfl
theorem dOpFdv_e {M : Mts} {a b : DE} : dOp (tFdiv M) a b sd W Q E = a sd W (fun c W1 => b sd W1 (fun d W2 => (tFdiv M) c d sd W2 Q E) E) E := rfl
theorem dOpMod_e {M : Mts} {a b : DE} : dOp (tMod M) a b sd W Q E = a sd W (fun c W1 => b sd W1 (fun d W2 => (tMod M) c d sd W2 Q E) E) E := rfl
theorem dOpPow_e  {a b : DE} : dOp (tPow) a b sd W Q E = a sd W (fun c W1 => b sd W1 (fun d W2 => (tPow) c d sd W2 Q E) E) E := rfl
theorem dOpCm_e {M MR : Mts} {g : Int → Int → Bool} {a b : DE} : dOp (tCm M MR g) a b sd W Q E = a sd W (fun c W1 => b sd W1 (fun d W2 => (tCm M MR g) c d sd W2 Q E) E) E := rfl
theorem dOpEq_e {q : EqI} {n : Bool} {m : Nat} {a b : DE} : dOp (rEqQ q n m) a b sd W Q E = a sd W (fun c W1 => b sd W1 (fun d W2 => (rEqQ q n m) c d sd W2 Q E) E) E := rfl
theorem dOpIn_e {q : EqI} {n : Bool} {m : Nat} {a b : DE} : dOp (tIn q n m) a b sd W Q E = a sd W (fun c W1 => b sd W1 (fun d W2 => (tIn q n m) c d sd W2 Q E) E) E := rfl
theorem dOpIs_e {n : Bool} {a b : DE} : dOp (rIsN n) a b sd W Q E = a sd W (fun c W1 => b sd W1 (fun d W2 => (rIsN n) c d sd W2 Q E) E) E := rfl
theorem rIsN_f {c : Mv.D} : rIsN false c .non sd W Q E = Q (.bl (isNon c)) W := by simp [rIsN]
theorem rIsN_t {c : Mv.D} : rIsN true c .non sd W Q E = Q (.bl (!isNon c)) W := by simp [rIsN]
theorem isNon_non : isNon .non = true := rfl
theorem isNon_int {i : Int} : isNon (.int i) = false := rfl
theorem isNon_str {i : Str} : isNon (.str i) = false := rfl
theorem isNon_tup {l : List Mv.D} : isNon (.tup l) = false := rfl
theorem isNon_lst {l : List Mv.D} : isNon (.lst l) = false := rfl
theorem isNon_parts {p : Rat} : isNon (partsD p) = false := rfl
theorem isNon_amt {p : Rat} : isNon (amt p) = false := rfl
end
end Mv
end
section
set_option Elab.async false
set_option linter.all false
set_option maxRecDepth 100000
set_option maxHeartbeats 4000000
namespace Mv
open PySem PySem.Spec L2 PyProof.Rows
/-! ## what the laws draw from: cells, count, what is left -/
def penM (cs : List Int) (k g : Int) : M := .lst [.lst (cs.map D.int), .int k, .int g]
/-- a pen stands at p -/
def PenAt (W : Wd) (p : Addr) (cs : List Int) (k g : Int) : Prop := W p = some (penM cs k g) ∧ cs.length ≤ 63 ∧ 0 ≤ k ∧ k ≤ 100000
def spPen (n : Nat) (post : List D → (D → Prop) → Prop) : DSp := fun ds W Q _ => match ds with
  | .ptr p :: r => ∃ cs k g, PenAt W p cs k g ∧ k + n ≤ 100000 ∧ post r fun d => ∀ k' g' : Int, k ≤ k' → k' ≤ k + n → Q d (put W p (penM cs k' g'))
  | _ => False
def sp__law_pen (S : Sy) : DSp := fun ds W Q _ => ∃ ns : List Int, ds = [.frl (ns.map D.int)] ∧ ∀ p cs, W p = none → cs.length ≤ 63 → Q (.ptr p) (put W p (penM cs 0 0))
def sp__law_draw (S : Sy) : DSp := spPen 1 fun r q => match r with
  | [.int many] => 0 < many ∧ Bg many ∧ ∀ x : Int, 0 ≤ x → x < many → q (.int x)
  | _ => False
def sp__law_pick (S : Sy) : DSp := spPen 1 fun r q => match r with
  | [.lst xs] => xs ≠ [] ∧ xs.length ≤ 1000000 ∧ ∀ x, x ∈ xs → q x
  | [.tup xs] => xs ≠ [] ∧ xs.length ≤ 1000000 ∧ ∀ x, x ∈ xs → q x
  | _ => False
/-! ## the law itself: True at every script -/
def sp_law (S : Sy) : DSp := fun ds W Q _ => 0 ∈ S.cl ∧ ∃ ns : List Int, ds = [.frl (ns.map D.int)] ∧ ns.length ≤ 63 ∧ ∀ W', Q (.bl true) W'
theorem rps_ints {S : Sy} {F : Hp} : ∀ ns : List Int, Rps S F (ns.map V.int) (ns.map D.int)
  | [] => .nil
  | n :: ns => .cons (.int n) (rps_ints ns)
/-- the tracked heap without its tables -/
def strip (H : Hp) : Hp := fun b => match H b with
  | some (.tbl _) => none
  | o => o
theorem strip_sub {H : Hp} {b : Addr} {o : HO} (h : strip H b = some o) : H b = some o := by
  unfold strip at h
  split at h
  · cases h
  · exact h
theorem strip_nt {H : Hp} (b : Addr) (ps : Array Value) : strip H b ≠ some (.tbl ps) := fun h => by
  have e := strip_sub h
  unfold strip at h
  rw [e] at h
  cases h
theorem strip_at {H : Hp} {b : Addr} {o : HO} (h : H b = some o) (n : ∀ ps, o ≠ .tbl ps) : strip H b = some o := by
  unfold strip
  rw [h]
  split
  · rename_i ps e
    exact absurd (Option.some.inj e) (n ps)
  · rfl
theorem strip_l {K : PySem.W.Frag} {H : Hp} {a : Addr} {xs : List V} (h : SqL K H a xs) : SqL K (strip H) a xs := by
  rcases h with (h | ⟨o, h⟩) | h
  · exact .inl (.inl (strip_at h fun _ z => (by cases z)))
  · exact .inl (.inr ⟨o, strip_at h fun _ z => (by cases z)⟩)
  · exact .inr h
theorem law_start {S : Sy} {H : Hp} {a : Addr} {ns : List Int} (h0 : 0 ∈ S.cl) (hl : ns.length ≤ 63) (hS : SqL S.K H a (ns.map V.int)) (hT : LamX.Tabs S.T H := by intro _ h; cases h) : upSp S (sp_law S) [.ref a] H (fun v _ => v = .bl true) (fun _ _ _ => False) := by
  refine ⟨strip H, fun _ => none, [.frl (ns.map D.int)], fun d _ => d = .bl true, fun _ _ => False, ⟨fun _ _ h => strip_sub h, fun _ _ h => (by cases h), hT, strip_nt⟩, .cons (.frl (strip_l hS) (rps_ints ns)) .nil, fun F' v d W' H' e r p q => ?_, fun _ _ _ _ _ _ _ _ _ _ _ z => z, h0, ns, rfl, hl, fun _ => rfl⟩
  subst q
  cases p
  rfl
theorem walk_ofM {l : PySem.W.OpenLaw} {n k : Nat} {q : Program} {loose : List Str} {XP : (Str → Option Value) → Heap → Prop} {YP : World → Heap → Prop} {d : DefRec} {x : Str}
    (hn : l.most = some n) (hn2 : n ≤ sizeLine) (hdf : d.params.defaults = []) (hr : Room k callerA)
    (F : ∀ (w : World) (mg : Str → Option Value) (fa : Addr) (h : Heap), YP w h → h.Ns mainGlobals mg → mg d.name = some (.ref fa) →
      ∃ (K : PySem.W.Frag) (fd : FuncData) (sp : Sp), K.In h ∧ (∀ (s : Shared) (u : Value), BindsTo s fd ⟨[u], []⟩ [(x, u)]) ∧
        (∀ (H : Hp) (a : Addr) (ns : List Int), ns.length ≤ n → SqL K H a (ns.map V.int) → sp [.ref a] H (fun v _ => v = .bl true) fun _ _ _ => False) ∧
        ∀ base : Heap, K.In base → base.Ns mainGlobals mg → FnOk l.prog w K mg base (L2.CX l.prog w) k fa fd [x] sp) :
    PySem.W.WalkO q loose XP YP l.row.toRowW d [] (fun f vs => PySem.call f vs) := by
  refine Att.attach_callB hn hdf fun w s₀ s₁ mg mb fa o pm cd doc a vs ns G Y ho hd hcd hmg hobj hints hlen hbits hg => ?_
  obtain ⟨K, fd, sp, KX, hb, hsp, hF⟩ := F w mg fa _ Y G.T.g hmg
  refine law_call KX G.T.g G.T.b G.T.builtins G.T.nolimit hg hobj hints (Nat.le_trans hlen hn2) hr hF hb (fun H hO hS => hsp H a ns hlen hS) fun H e s' h => ?_
  obtain ⟨_, _, _, _, _, _, _, _, _, _, _, _, w⟩ := h
  exact w
end Mv
end
section
set_option Elab.async false
set_option linter.all false
set_option maxRecDepth 100000
set_option maxHeartbeats 4000000
namespace Mv
open PySem PySem.Spec L2 PyProof.Rows
/-! ## promises of defs that are only called where nothing is being shown (repr of a list looks for itself among the callers) -/
def Qt (A : Around) : Prop := A.guards = some []
theorem Qt.deeper {A : Around} (h : Qt A) (e : Env) : Qt (A.deeper e) := by
  unfold Qt at *
  simp only [Around.deeper]
  exact h
structure FnG (P : Program) (w : World) (K : PySem.W.Frag) (mg : Str → Option Value) (base : Heap) (k : Nat) (f : Addr) (fd : FuncData) (ps : List Str) (sp : Sp) : Prop where
  len : ∀ vs H Q E, sp vs H Q E → vs.length = ps.length
  go : ∀ (A : Around) (outer : List Env) (s : Shared) (H : Hp) (ar : Args) (us : List Value) (vs : List V) (Q : VK) (E : XK), Qt A → Room k A → Env0 P w K mg base A outer s H → BindsTo s fd ar (ps.zip us) → Vals vs us → sp vs H Q E →
    codeAny (model P w) A (.call (.ref f) ar) (CR (L2.CX P w) outer P w H s Q E) s
theorem FnG.mono {P : Program} {w : World} {K : PySem.W.Frag} {mg : Str → Option Value} {base : Heap} {j k : Nat} {f : Addr} {fd : FuncData} {ps : List Str} {sp : Sp} (F : FnG P w K mg base j f fd ps sp) (h : j ≤ k) : FnG P w K mg base k f fd ps sp :=
  ⟨F.len, fun A outer s H ar us vs Q E g hr => F.go A outer s H ar us vs Q E g (hr.mono h)⟩
theorem FnG.of {P : Program} {w : World} {K : PySem.W.Frag} {mg : Str → Option Value} {base : Heap} {k : Nat} {f : Addr} {fd : FuncData} {ps : List Str} {sp : Sp} (F : FnOk P w K mg base (L2.CX P w) k f fd ps sp) : FnG P w K mg base k f fd ps sp :=
  ⟨F.len, fun A outer s H ar us vs Q E _ => F.run A outer s H ar us vs Q E⟩
/-- THE RULE for such a def -/
theorem fnG_of {P : Program} {w : World} {S : Sy} {mg : Str → Option Value} {base : Heap} {x qual : Str} {params : Arguments} {body : List Stmt} {scope : Scope} {dvs : List V} {kws : List (Str × V)} {f : Addr} {fd : FuncData} {N ps : List Str} {k : Nat} {sp2 : DSp} {t : DS}
    (Fd : FunD S.K x qual params body scope dvs kws f fd) (Sc : FnScope N ps scope) (len : ∀ ds W Q E, sp2 ds W Q E → ds.length = ps.length)
    (hbody : ∀ (cdv : Value) (A : Around) (outer : List Env) (s : Shared) (H : Hp) (E : XK), Qt A → Room k (A.deeper (envOfC qual scope s.heap.objs.size f cdv)) →
      Takes (cxOf (L2.CX P w) P w S.K mg base N qual scope f cdv A outer s H E) (fun cls d _ H => E cls d H) → PBd (cxOf (L2.CX P w) P w S.K mg base N qual scope f cdv A outer s H E) S (fun cls d _ H => E cls d H) body t)
    (hD : ∀ ds W Q2 E2, sp2 ds W Q2 E2 → t { nx := fun _ W => Q2 .non W, rt := Q2 } (startD N ds) W (fun x _ W => E2 x W)) : FnG P w S.K mg base (k + 1) f fd ps (upSp S sp2) := by
  obtain ⟨oc, od, dV, kV, doc, pm, an, cdv, ct, osl, rfl, there, hasCode, _, _⟩ := Fd.ex
  have same : ∀ vs H Q E, upSp S sp2 vs H Q E → vs.length = ps.length := by
    rintro vs H Q E ⟨F, W, ds, Q2, E2, _, rp, _, _, q⟩
    exact rp.length.trans (len _ _ _ _ q)
  constructor
  · exact same
  intro A outer s H ar us vs Q E gd room at0 bnd rel pr
  have lv := same _ _ _ _ pr
  have kept : ∀ b o, base.get? b = some o → s.heap.get? b = some o := fun b o z => (at0.bs b o z).1
  have inK : S.K.In s.heap := at0.mod.kin.keeps kept
  have noLim : s.heap.NoLimit := at0.mod.nolimit.keeps kept
  refine codeAny_call_function room.depth (inK _ _ there) rfl Sc.co Sc.gen rfl (PySem.W.codeRec_of inK hasCode) (bnd _ _ _ _ ?_)
  refine wpAny_newFunctionEnv_cells Sc.kind (fun y hy => ?_) fun env e1 s1 made => ?_
  · have own := (List.of_mem_zip (show (y.1, y.2) ∈ ps.zip us from hy)).1
    rcases Sc.par y.1 own with z | z
    · exact Or.inl z
    · exact Or.inr ⟨z, PySem.W.cellsFrom_some _ _ _ (Or.inl z)⟩
  · rw [e1] at made ⊢
    refine ⟨noLim.keeps made.toInCall.keep, codeAny_func ?_⟩
    have begun : Inv (cxOf (L2.CX P w) P w S.K mg base N qual scope f cdv A outer s H E) [] (start N vs) H s1 := inv_start Sc room.hd at0 lv rel made
    have tk : Takes (cxOf (L2.CX P w) P w S.K mg base N qual scope f cdv A outer s H E) (fun cls d _ H => E cls d H) := takes_of rfl rfl rfl rfl
    obtain ⟨F, W, ds, Q2, E2, rl, rp, qc, xc, q⟩ := pr
    have done := (hbody cdv A outer s H E gd (room.deeper _) tk).pss.run [] s1 (start N vs) H { nx := fun _ H' => Q .non H', rt := Q } begun
      ⟨F, startD N ds, W, _, _, rl, start_rel rp, ⟨fun F' σ' sd' W' H' e r sr q => qc F' .non .non W' H' e r .non q, fun F' v d W' H' e r p q => qc F' v d W' H' e r p q, fun _ _ _ _ _ _ _ _ z => (z : False).elim, fun _ _ _ _ _ _ _ _ z => (z : False).elim⟩,
        fun F' dx vs c fs σ' sd' W' H' e r sr hx rf q => xc F' dx vs c fs W' H' e r hx rf q, hD ds W Q2 E2 q⟩
    refine wpAny_mono done (fun fl s' z => ?_) fun _ _ z => z
    match fl, z with
    | .ret u, ⟨v, _, H', J, rv, q⟩ => exact ⟨v, H', J.os, J.bare, J.base, J.hok, rv, q⟩
    | .next, ⟨_, H', J, q⟩ => exact ⟨.non, H', J.os, J.bare, J.base, J.hok, rfl, q⟩
    | .brk, ⟨_, _, _, q⟩ => exact q.elim
    | .cont, ⟨_, _, _, q⟩ => exact q.elim
theorem no_dict {h : Heap} {H : Hp} {a b : Addr} {vs : List Value} {o : Obj} {es : Array DictEntry} {n : Nat} (ha : h.get? a = some { cls := .type "list", data := .seq vs.toArray }) (one : ∀ b, H b ≠ none → b = a) (e : h.get? b = some o) (d : o.data = .dict es n) : H b = none := by
  refine Classical.byContradiction fun z => ?_
  have := one b z
  rw [this, ha] at e
  rw [← Option.some.inj e] at d
  cases d
/-- the law is called -/
theorem law_go {P : Program} {w : World} {K : PySem.W.Frag} {mg mb : Str → Option Value} {k : Nat} {fa a : Addr} {fd : FuncData} {x : Str} {sp : Sp} {s : Shared} {vs : List Value} {ns : List Int}
    (kin : K.In s.heap) (gl : s.heap.Ns mainGlobals mg) (bl : s.heap.Ns builtinsNs mb) (bb : ∀ x : Str, x ≠ "__name__" → mb x = bootBuiltins x) (lim : s.heap.NoLimit) (gens : s.gens = #[])
    (ha : s.heap.get? a = some { cls := .type "list", data := .seq vs.toArray }) (hi : IntsAre vs ns) (hl : ns.length ≤ sizeLine) (room : Room k callerA)
    (F : ∀ base : Heap, K.In base → base.Ns mainGlobals mg → FnG P w K mg base k fa fd [x] sp) (bnd : ∀ (s : Shared) (u : Value), BindsTo s fd ⟨[u], []⟩ [(x, u)])
    (hsp : ∀ H : Hp, SqL K H a (ns.map V.int) → sp [.ref a] H (fun v _ => v = .bl true) fun _ _ _ => False) :
    codeAny (model P w) callerA (.call (.ref fa) ⟨[.ref a], []⟩) (fun r s' => r = .ok (.ret (.bool true)) ∧ OldK s.heap s'.heap ∧ s'.os = s.os ∧ AllBare s'.gens) s := by
  have rv := vals_ints hi
  obtain ⟨H, only, sq, hok, one, hK⟩ : ∃ H : Hp, (∀ b, H b = none ∨ ∃ o xs, H b = some (.frz o (.lst xs))) ∧ SqL K H a (ns.map V.int) ∧ HOk P w H s.heap ∧ (∀ b, H b ≠ none → b = a) ∧ (H a ≠ none → K.lookup a = none) := by
    cases hk : K.lookup a with
    | some o =>
      have e := kin a o hk
      rw [ha] at e
      cases e
      exact ⟨fun _ => none, fun _ => Or.inl rfl, Or.inr ⟨_, vs.toArray, _, hk, rfl, rfl, rfl, by rw [List.size_toArray, hi.length]; exact hl, by simpa using rv⟩, fun b u z => (by cases (show (none : Option HO) = some u from z)), fun b z => absurd rfl z, fun z => absurd rfl z⟩
    | none =>
      have at1 : (fun b => if b = a then some (HO.frz { cls := .type "list", data := .seq vs.toArray } (.lst (ns.map V.int))) else none) a = some (HO.frz { cls := .type "list", data := .seq vs.toArray } (.lst (ns.map V.int))) := if_pos rfl
      refine ⟨fun b => if b = a then some (.frz { cls := .type "list", data := .seq vs.toArray } (.lst (ns.map V.int))) else none, fun b => ?_, Or.inl (Or.inr ⟨_, at1⟩), fun b u z => ?_, fun b z => ?_, fun _ => rfl⟩
      · by_cases hb : b = a
        · exact Or.inr ⟨_, _, if_pos hb⟩
        · exact Or.inl (if_neg hb)
      · by_cases hb : b = a
        · subst hb
          have z' := at1.symm.trans z
          cases z'
          exact ⟨ha, by rw [List.length_map]; exact hl, vs, _, rv, ha⟩
        · have z' := (if_neg hb).symm.trans z
          cases z'
      · refine Classical.byContradiction fun hb => ?_
        exact z (if_neg hb)
  have low : ∀ {b : Addr} {o : Obj}, s.heap.get? b = some o → H b = none → (hidT s.heap H).get? b = some o := fun e n => hidT_get e n
  have lowN : ∀ {b : Addr} {m : Str → Option Value}, s.heap.Ns b m → (hidT s.heap H).Ns b m := by
    rintro b m ⟨o, es, n, e, d, r⟩
    exact ⟨o, es, n, low e (no_dict ha one e d), d, r⟩
  have lowK : K.In (hidT s.heap H) := fun b o e => by
    refine low (kin b o e) (Classical.byContradiction fun z => ?_)
    have eb := one b z
    subst eb
    rw [hK z] at e
    cases e
  obtain ⟨mc, l1, l2⟩ := lim
  have env : Env0 P w K mg (hidT s.heap H) callerA [] s H :=
    ⟨rfl, ⟨lowK, lowN gl, ⟨mb, lowN bl, bb⟩, ⟨mc, lowN l1, l2⟩⟩, fun b o e => of_hidT e, Nat.le_of_eq (hidT_size _ _), trivial, fun b hb => absurd (show b ∈ ([] : List Addr) from hb) (by simp), hok, .of_eq gens⟩
  refine codeAny_mono ((F _ lowK (lowN gl)).go callerA [] s H ⟨[.ref a], []⟩ [.ref a] [.ref a] _ _ rfl room env (bnd s (.ref a)) (.cons rfl .nil) (hsp H sq)) fun r s' z => ?_
  match r, z with
  | .error e, z =>
    obtain ⟨_, _, _, _, _, _, _, _, _, _, _, _, w⟩ := z
    exact w.elim
  | .ok (.ret u), ⟨v, H', os, bare, un, hok', rel, q⟩ =>
    have q : v = .bl true := q
    subst q
    have rel : u = Value.bool true := rel
    subst rel
    refine ⟨rfl, OldK.of_keep fun b o e => ?_, os, bare⟩
    rcases only b with z | ⟨ob, xs, z⟩
    · exact un.keep b o e z (fun z => absurd (show b ∈ ([] : List Addr) from z) (by simp)) (by simp)
    · have g1 := (hok b _ z).1
      have g2 := (hok' b _ (un.frzs b ob _ z)).1
      rw [e] at g1
      cases g1
      exact g2
theorem walk_goM {l : PySem.W.OpenLaw} {n k : Nat} {q : Program} {loose : List Str} {XP : (Str → Option Value) → Heap → Prop} {YP : World → Heap → Prop} {d : DefRec} {x : Str}
    (hn : l.most = some n) (hn2 : n ≤ sizeLine) (hdf : d.params.defaults = []) (hr : Room k callerA)
    (F : ∀ (w : World) (mg : Str → Option Value) (fa : Addr) (h : Heap), YP w h → h.Ns mainGlobals mg → mg d.name = some (.ref fa) →
      ∃ (K : PySem.W.Frag) (fd : FuncData) (sp : Sp), K.In h ∧ (∀ (s : Shared) (u : Value), BindsTo s fd ⟨[u], []⟩ [(x, u)]) ∧
        (∀ (H : Hp) (a : Addr) (ns : List Int), ns.length ≤ n → SqL K H a (ns.map V.int) → sp [.ref a] H (fun v _ => v = .bl true) fun _ _ _ => False) ∧
        ∀ base : Heap, K.In base → base.Ns mainGlobals mg → FnG l.prog w K mg base k fa fd [x] sp) :
    PySem.W.WalkO q loose XP YP l.row.toRowW d [] (fun f vs => PySem.call f vs) := by
  refine Att.attach_callB hn hdf fun w s₀ s₁ mg mb fa o pm cd doc a vs ns G Y ho hd hcd hmg hobj hints hlen hbits hg => ?_
  obtain ⟨K, fd, sp, KX, hb, hsp, hF⟩ := F w mg fa _ Y G.T.g hmg
  exact law_go KX G.T.g G.T.b G.T.builtins G.T.nolimit hg hobj hints (Nat.le_trans hlen hn2) hr hF hb fun H hS => hsp H a ns hlen hS
end Mv
end
section
set_option Elab.async false
set_option linter.all false
set_option maxRecDepth 100000
set_option maxHeartbeats 4000000
namespace Mv
open PySem PySem.Spec L2 PyProof.Rows
open Evl (Ex ex_l ex_t ex_rd)
/-! ## repr of data: None, bools, integers, texts, tuples and lists of them -/
mutual
def pyD : D → Option PyData
  | .non => some .none
  | .bl b => some (.bool b)
  | .int i => some (.int i)
  | .str s => some (.str s)
  | .tup ds => (pyDs ds).map .tuple
  | .lst ds => (pyDs ds).map .list
  | _ => none
def pyDs : List D → Option (List PyData)
  | [] => some []
  | d :: ds => (match pyD d, pyDs ds with
    | some x, some xs => some (x :: xs)
    | _, _ => none)
end
section
variable {X : Cx} {S : Sy} {pins : List (Addr × Obj)} {σ : L2.St} {H F : Hp} {W : Wd} {s : Shared}
theorem list_data {X : Cx} {pins : List (Addr × Obj)} {σ : L2.St} {H : Hp} {s : Shared} {a : Addr} {vs : List V} (I : Inv X pins σ H s) (h : H a = some (.lst vs)) : ∃ (its : List Value) (o : Obj) (n : Nat), Vals vs its ∧ s.heap.get? a = some o ∧ o.cls = .type "list" ∧ o.data = .seq its.toArray n := by
  obtain ⟨_, its, n, r, e⟩ := I.hok a _ h
  exact ⟨its, _, n, r, e, rfl, rfl⟩
mutual
theorem rp_reads (hK : X.K = S.K) (I : Inv X pins σ H s) (rl : Rel S F W H) : ∀ {v : V} {d : D} {u : Value} {p : PyData}, Rp S F v d → RelV v u → pyD d = some p → p.hasDict = false ∧ ∃ as, Reads s.heap u p as
  | _, _, _, _, .non, r, e => by cases e; cases r; exact ⟨rfl, _, .none⟩
  | _, _, _, _, .bl b, r, e => by cases e; cases r; exact ⟨rfl, _, .bool b⟩
  | _, _, _, _, .int i, r, e => by cases e; obtain ⟨t, rfl⟩ := r; exact ⟨rfl, _, .int i t⟩
  | _, _, _, _, .str i, r, e => by cases e; obtain ⟨t, rfl⟩ := r; exact ⟨rfl, _, .str i t⟩
  | _, _, _, _, .ty n, r, e => by cases e
  | _, _, _, _, .ptr n, r, e => by cases e
  | _, _, _, _, .frl _ _, r, e => by cases e
  | _, _, _, _, .dK _ _, r, e => by cases e
  | _, _, _, _, .dT _ _, r, e => by cases e
  | _, _, _, _, .ins _ _, r, e => by cases e
  | _, _, _, _, .tup (ds := ds) hq rs, r, e => by
    have r : _ = Value.ref _ := r
    subst r
    cases hx : pyDs ds with
    | none => simp only [pyD, hx] at e; cases e
    | some xs =>
      simp only [pyD, hx] at e
      cases e
      obtain ⟨its, rv, ⟨o, e1, e2, n, e3⟩, _⟩ := I.tuple (by rw [hK]; exact ex_t rl.sub hq)
      obtain ⟨nd, as, ra⟩ := rps_reads hK I rl rs rv hx
      refine ⟨by simp only [PyData.hasDict]; exact nd, as, ?_⟩
      refine .tuple e1 e2 e3 ?_
      simpa using ra
  | _, _, _, _, .lst (a := aa) (ds := ds) hq rs, r, e => by
    have r : _ = Value.ref _ := r
    subst r
    cases hx : pyDs ds with
    | none => simp only [pyD, hx] at e; cases e
    | some xs =>
      simp only [pyD, hx] at e
      cases e
      obtain ⟨its, o, n, rv, e1, e2, e3⟩ := list_data I (rl.sub _ _ hq)
      obtain ⟨nd, as, ra⟩ := rps_reads hK I rl rs rv hx
      refine ⟨by simp only [PyData.hasDict]; exact nd, aa :: as, ?_⟩
      refine .list e1 e2 e3 ?_
      simpa using ra
theorem rps_reads (hK : X.K = S.K) (I : Inv X pins σ H s) (rl : Rel S F W H) : ∀ {vs : List V} {ds : List D} {us : List Value} {ps : List PyData}, Rps S F vs ds → Vals vs us → pyDs ds = some ps → PyData.hasDictAll ps = false ∧ ∃ as, ReadsAll s.heap us ps as
  | _, _, _, _, .nil, r, e => by cases e; cases r; exact ⟨rfl, _, .nil⟩
  | _, _, _, _, .cons (d := d) (ds := ds) q qs, r, e => by
    cases hd : pyD d with
    | none => simp only [pyDs, hd] at e; cases e
    | some x =>
      cases hds : pyDs ds with
      | none => simp only [pyDs, hd, hds] at e; cases e
      | some xs =>
        simp only [pyDs, hd, hds] at e
        cases e
        cases r with
        | cons r rs =>
          obtain ⟨n1, as, r1⟩ := rp_reads hK I rl q r hd
          obtain ⟨n2, bs, r2⟩ := rps_reads hK I rl qs rs hds
          refine ⟨by simp only [PyData.hasDictAll, n1, n2]; rfl, as ++ bs, .cons r1 r2⟩
end
/-- what repr tells -/
def rRepr : DC := fun ds W Q => match ds with
  | [d] => kSome (pyD d) fun p => p.showable = true ∧ p.shown.length ≤ sizeLine ∧ p.depth ≤ 60 ∧ Q (.str p.shown) W
  | _ => False
theorem cl_repr {k : Nat} (hK : X.K = S.K) (g : Qt X.A) (hr : Room k X.A) : CalD X S (.builtin "repr") rRepr := by
  intro pins s σ H vs us Q I rv ⟨F, W, ds, Q2, rl, rp, qc, q⟩
  match ds, q with
  | [d], q =>
    obtain ⟨p, hp, hs, hz, hd, q⟩ := q.inv
    obtain ⟨v, rfl, rq⟩ := rp.one
    cases rv with
    | cons r1 r2 =>
      cases r2
      rename_i u
      obtain ⟨nd, as, rd⟩ := rp_reads hK I rl rq r1 hp
      have un := hr.un
      cases rd with
      | none => exact P.repr_of_none ⟨.str _, H, I.tok _, ⟨_, rfl⟩, qc F _ _ W H (fun _ _ h => h) rl (.str _) q⟩
      | bool b => exact P.repr_of_bool ⟨.str _, H, I.tok _, ⟨_, rfl⟩, qc F _ _ W H (fun _ _ h => h) rl (.str _) q⟩
      | int i t => exact P.repr_of_int (by simpa [PyData.showable] using hs) ⟨.str _, H, I.tok _, ⟨_, rfl⟩, qc F _ _ W H (fun _ _ h => h) rl (.str _) q⟩
      | str x t => exact P.repr_of_str ⟨.str _, H, I.tok _, ⟨_, rfl⟩, qc F _ _ W H (fun _ _ h => h) rl (.str _) q⟩ hz
      | list h1 h2 h3 h4 =>
        exact repr_of_reads' (.list h1 h2 h3 h4) hs (PyData.noDict_hsm nd) g (by omega) (fun _ _ e => e) (fun h' t tk hk => ⟨.str _, H, I.kept hk, ⟨_, rfl⟩, qc F _ _ W H (fun _ _ h => h) rl (.str _) q⟩) hz
      | tuple h1 h2 h3 h4 =>
        exact repr_of_reads' (.tuple h1 h2 h3 h4) hs (PyData.noDict_hsm nd) g (by omega) (fun _ _ e => e) (fun h' t tk hk => ⟨.str _, H, I.kept hk, ⟨_, rfl⟩, qc F _ _ W H (fun _ _ h => h) rl (.str _) q⟩) hz
      | dict h1 h2 h3 h4 h5 => simp only [PyData.hasDict] at nd; cases nd
end
end Mv
end
section
set_option Elab.async false
set_option linter.all false
set_option maxRecDepth 100000
set_option maxHeartbeats 4000000
namespace Mv
open PySem PySem.Spec L2 PyProof.Rows
/-! ## calls of a def at a place -/
def GoAt (P : Program) (w : World) (K : PySem.W.Frag) (mg : Str → Option Value) (base : Heap) (A : Around) (f : Addr) (fd : FuncData) (ps : List Str) (sp : Sp) : Prop :=
  ∀ (outer : List Env) (s : Shared) (H : Hp) (ar : Args) (us : List Value) (vs : List V) (Q : VK) (E : XK), Env0 P w K mg base A outer s H → BindsTo s fd ar (ps.zip us) → Vals vs us → sp vs H Q E →
    codeAny (model P w) A (.call (.ref f) ar) (CR (L2.CX P w) outer P w H s Q E) s
structure FnDG (P : Program) (w : World) (S : Sy) (mg : Str → Option Value) (base : Heap) (k : Nat) (f : Addr) (n : Nat) (dds : List D) (sp2 : DSp) : Prop where
  ex : ∃ (fd : FuncData) (ps : List Str) (dvs : List V), FnG P w S.K mg base k f fd ps (upSp S sp2) ∧ ps.length = n ∧ (∀ F, Rps S F dvs dds) ∧ ∀ j, j ≤ dds.length → ∃ dv, Vals (dvs.drop j) dv ∧ Binds S.K fd ps dv
  kp : PySem.W.keepIn S.K (.ref f) = true
theorem FnDG.mono {P : Program} {w : World} {S : Sy} {mg : Str → Option Value} {base : Heap} {j k : Nat} {f : Addr} {n : Nat} {dds : List D} {sp2 : DSp} (G : FnDG P w S mg base j f n dds sp2) (h : j ≤ k) : FnDG P w S mg base k f n dds sp2 := by
  obtain ⟨⟨fd, ps, dvs, a, b, c, d⟩, e⟩ := G
  exact ⟨⟨fd, ps, dvs, a.mono h, b, c, d⟩, e⟩
section
variable {X : Cx} {S : Sy} {E : XS} {k : Nat} {f : Addr} {n : Nat} {dds : List D} {sp2 : DSp}
theorem run_go {A : Around} {fd : FuncData} {ps : List Str} {ar : Args} {pins : List (Addr × Obj)} {s : Shared} {σ : L2.St} {H F : Hp} {sd : SD} {W : Wd} {us : List Value} {vs : List V} {ds : List D} {Q2 : QD} {E2 : QX} (hK : X.K = S.K) (G : GoAt X.prog X.w S.K X.mg X.base A f fd ps (upSp S sp2))
    (e0 : Env0 X.prog X.w X.K X.mg X.base A X.stack s H) (tk : Takes X E) (bn : BindsTo s fd ar (ps.zip us))
    (I : Inv X pins σ H s) (rl : Rel S F W H) (sr : SRel S F σ sd) (xc : XCv S F E2 E) (r : Vals vs us) (rp : Rps S F vs ds) (h : sp2 ds W Q2 (fun d W' => E2 d sd W')) :
    codeAny (model X.prog X.w) A (.call (.ref f) ar) (fun r s' => match r with
      | .ok (.ret u) => DP X S pins σ F Q2 u s'
      | .ok _ => False
      | .error e => X.xe e s') s := by
  have hsp : upSp S sp2 vs H (tkQ S F Q2) (WE E σ) :=
    ⟨F, W, _, Q2, _, rl, rp, tkQ_cv, fun F' dx vs c fs W' H' e rl' hx rf q => xc F' dx vs c fs σ sd W' H' e rl' (sr.mono e) hx rf q, h⟩
  rw [hK] at e0
  refine codeAny_mono (G X.stack s H ar us vs _ (WE E σ) e0 bn r hsp) fun r s' hq => ?_
  match r, hq with
  | .error e, hq => exact passAt tk σ pins H s e s' I hq
  | .ok (.ret u), hq => exact EP.tk (I.after hq)
theorem call_go {A : Around} {us : List Value} {kw : List (Str × Value)} {D : Value → Shared → Prop} {Z : Value → Shared → Prop} {s : Shared} (h : codeAny (model X.prog X.w) A (.call (.ref f) ⟨us, kw⟩) (fun r s' => match r with
      | .ok (.ret u) => D u s'
      | .ok _ => False
      | .error e => Z e s') s) : wpAny (model X.prog X.w) A (call (.ref f) us kw) D Z s := by
  refine wpAny_call (codeAny_mono h fun r s' z => ?_)
  match r, z with
  | .error e, z => exact z
  | .ok (.ret u), z => exact z
theorem run_atG {A : Around} {pins : List (Addr × Obj)} {s : Shared} {σ : L2.St} {H F : Hp} {sd : SD} {W : Wd} {us : List Value} {vs : List V} {ds : List D} {Q2 : QD} {E2 : QX} (hK : X.K = S.K) (G : FnDG X.prog X.w S X.mg X.base k f n dds sp2) (gd : Qt A) (hr : Room k A) (e0 : Env0 X.prog X.w X.K X.mg X.base A X.stack s H) (tk : Takes X E)
    (I : Inv X pins σ H s) (rl : Rel S F W H) (sr : SRel S F σ sd) (xc : XCv S F E2 E) (r : Vals vs us) (rp : Rps S F vs ds) (h : dfl n dds ds fun ds' => sp2 ds' W Q2 (fun d W' => E2 d sd W')) :
    wpAny (model X.prog X.w) A (call (.ref f) us) (DP X S pins σ F Q2) X.xe s := by
  obtain ⟨⟨fd, ps, dvs, Fn, hn, hdd, hbd⟩, kp⟩ := G
  obtain ⟨h1, h2, h⟩ := h
  obtain ⟨dv, rv, hb⟩ := hbd (dds.length - (n - ds.length)) (by omega)
  have r2 : Vals (vs ++ dvs.drop (dds.length - (n - ds.length))) (us ++ dv) := r.append rv
  have ldv : dvs.length = dds.length := (hdd F).length
  have lvs : vs.length = ds.length := rp.length
  have hl : (us ++ dv).length = ps.length := by
    rw [← r2.length, List.length_append, List.length_drop, hn, lvs, ldv]
    omega
  have kin : S.K.In s.heap := by rw [← hK]; exact I.kIn
  exact call_go (run_go (ar := ⟨us, []⟩) hK (fun outer s H ar us vs Q E e0 bn r sp => Fn.go A outer s H ar us vs Q E gd hr e0 bn r sp) e0 tk (hb s us kin hl) I rl sr xc r2 (rp.append ((hdd F).drop _)) h)
/-- f(e, ..), f shows data -/
theorem pd_callG {x : Str} {p pos : Pos} {e : Expr} {es : List Expr} {t : DA} (hK : X.K = S.K) (tk : Takes X E) (gd : Qt X.A) (hr : Room k X.A) (G : FnDG X.prog X.w S X.mg X.base k f n dds sp2) (hm : X.mg x = some (.ref f)) (ha : PAd X S E (e :: es) t) (hg : Gl X x := by rfl)
    (hdb : (x == ("__debug__" : Str)) = false := by decide) (he : starEach (e :: es) X.env = (false, eval e X.env) :: starEach es X.env := by rfl) (hpl : (backTo pos (starEach es X.env)).any (·.1) = false := by rfl) :
    PD X S E (.Call (.Name x p) (e :: es) [] pos) (dCall n dds sp2 t) := by
  refine ⟨fun pins s σ H F sd W Q2 E2 I rl sr xc h => ?_⟩
  refine wpAny_Call_Name_kw (ld_glob I hg hm ?_ hdb)
  refine PySem.W.callWith_K (h₀ := X.base) I.ok.mod.kin (by rw [hK]; exact G.kp) (thn (ha.run pos pins s σ H F sd W _ E2 I rl sr xc h) fun us s1 ⟨vs, H1, F1, ds, W1, I1, r, e1, rl1, rp, q⟩ => ⟨I1.kIn, ?_⟩) he hpl
  exact thn (run_atG hK G gd hr I1.env0 tk I1 rl1 (sr.mono e1) (XCv.mono e1 xc) r rp q) fun u s' z => z.back e1
theorem pd_callG0 {x : Str} {p pos : Pos} (hK : X.K = S.K) (tk : Takes X E) (gd : Qt X.A) (hr : Room k X.A) (G : FnDG X.prog X.w S X.mg X.base k f n dds sp2) (hm : X.mg x = some (.ref f)) (hg : Gl X x := by rfl) (hdb : (x == ("__debug__" : Str)) = false := by decide) :
    PD X S E (.Call (.Name x p) [] [] pos) (dCall n dds sp2 dNil) := by
  refine ⟨fun pins s σ H F sd W Q2 E2 I rl sr xc h => ?_⟩
  refine wpAny_Call_Name_kw (ld_glob I hg hm ?_ hdb)
  exact PySem.W.callWith_K0 I.kIn (by rw [hK]; exact G.kp) (run_atG (us := []) hK G gd hr I.env0 tk I rl sr xc .nil .nil h)
/-! ## keywords -/
def pk {α : Type} (d : α) (l : List Nat) (xs : List α) : List α := l.map fun i => xs.getD i d
theorem vals_at : ∀ {vs : List V} {us : List Value} (i : Nat), Vals vs us → RelV (vs.getD i .non) (us.getD i .none)
  | _, _, _, .nil => rfl
  | _, _, 0, .cons r _ => r
  | _, _, i + 1, .cons _ t => vals_at i t
theorem rps_at {F : Hp} : ∀ {vs : List V} {ds : List D} (i : Nat), Rps S F vs ds → Rp S F (vs.getD i .non) (ds.getD i .non)
  | _, _, _, .nil => .non
  | _, _, 0, .cons r _ => r
  | _, _, i + 1, .cons _ t => rps_at i t
theorem vals_pk {vs : List V} {us : List Value} (r : Vals vs us) : ∀ l : List Nat, Vals (pk .non l vs) (pk .none l us)
  | [] => .nil
  | i :: l => .cons (vals_at i r) (vals_pk r l)
theorem rps_pk {F : Hp} {vs : List V} {ds : List D} (r : Rps S F vs ds) : ∀ l : List Nat, Rps S F (pk .non l vs) (pk .non l ds)
  | [] => .nil
  | i :: l => .cons (rps_at i r) (rps_pk r l)
structure PKd (X : Cx) (S : Sy) (E : XS) (kws : List Keyword) (t : DA) : Prop where
  run : ∀ (pos : Pos) (pins : List (Addr × Obj)) (s : Shared) (σ : L2.St) (H F : Hp) (sd : SD) (W : Wd) (Q2 : List D → Wd → Prop) (E2 : QX), Inv X pins σ H s → Rel S F W H → SRel S F σ sd → XCv S F E2 E → t sd W Q2 E2 →
    wpAny (model X.prog X.w) X.A (evalAll ((backToKw pos (keywordEach kws X.env)).map (·.2))) (APd X S pins σ F Q2) X.xe s
theorem pkd_nil : PKd X S E [] dNil := ⟨fun pos pins s σ H F sd W Q2 E2 I rl sr xc h => wpAny_evalAll_nil ⟨[], H, F, [], W, I, .nil, fun _ _ z => z, rl, .nil, h⟩⟩
theorem pkd_cons {nm : Option Str} {e : Expr} {kpos : Pos} {kws : List Keyword} {te : DE} {t : DA} (ha : PD X S E e te) (hr : PKd X S E kws t) : PKd X S E (⟨nm, e, kpos⟩ :: kws) (dCons te t) := by
  refine ⟨fun pos pins s σ H F sd W Q2 E2 I rl sr xc h => ?_⟩
  show wpAny _ _ (evalAll ((do let v ← eval e X.env; standAt pos; pure v) :: (backToKw pos (keywordEach kws X.env)).map (·.2))) _ _ s
  refine wpAny_evalAll_cons (wpAny_bind (thn (ha.run pins s σ H F sd W _ E2 I rl sr xc h) fun u s1 ⟨x, H1, F1, d, W1, I1, r1, e1, rl1, p1, q1⟩ => wpAny_bind (wpAny_standAt (wpAny_pure ?_))))
  exact thn (hr.run pos pins s1 σ H1 F1 sd W1 _ E2 I1 rl1 (sr.mono e1) (XCv.mono e1 xc) q1) fun us s2 ⟨xs, H2, F2, ds, W2, I2, r2, e2, rl2, p2, q2⟩ => ⟨x :: xs, H2, F2, d :: ds, W2, I2, .cons r1 r2, e1.trans e2, rl2, .cons (p1.mono e2) p2, q2⟩
/-- a def, called with the keywords ks (n values ahead of them): l tells of each parameter which value it gets -/
structure KwD (P : Program) (w : World) (S : Sy) (mg : Str → Option Value) (base : Heap) (k : Nat) (f : Addr) (n : Nat) (ks : List Str) (l : List Nat) (sp2 : DSp) : Prop where
  ex : ∃ (fd : FuncData) (ps : List Str), FnOk P w S.K mg base (L2.CX P w) k f fd ps (upSp S sp2) ∧ ∀ (s : Shared) (us ws : List Value), S.K.In s.heap → us.length = n → ws.length = ks.length → BindsTo s fd ⟨us, ks.zip ws⟩ (ps.zip (pk .none l (us ++ ws)))
  kp : PySem.W.keepIn S.K (.ref f) = true
theorem KwD.mono {P : Program} {w : World} {S : Sy} {mg : Str → Option Value} {base : Heap} {j k : Nat} {f : Addr} {n : Nat} {ks : List Str} {l : List Nat} {sp2 : DSp} (G : KwD P w S mg base j f n ks l sp2) (h : j ≤ k) : KwD P w S mg base k f n ks l sp2 := by
  obtain ⟨⟨fd, ps, a, b⟩, e⟩ := G
  exact ⟨⟨fd, ps, a.mono h, b⟩, e⟩
theorem kwD_mk {P : Program} {w : World} {S : Sy} {mg : Str → Option Value} {base : Heap} {x qual : Str} {params : Arguments} {body : List Stmt} {scope : Scope} {kws : List (Str × V)} {f : Addr} {fd : FuncData} {ps : List Str} {k n : Nat} {ks : List Str} {l : List Nat} {sp2 : DSp}
    (Fd : FunD S.K x qual params body scope [] kws f fd) (F : FnOk P w S.K mg base (L2.CX P w) k f fd ps (upSp S sp2))
    (hb : ∀ (kV doc pm : Value) (an : Option Addr) (cdv ct : Value) (us ws : List Value), us.length = n → ws.length = ks.length → bindArgs (PySem.W.fnOf x qual params body scope .none kV doc pm an cdv ct) ⟨us, ks.zip ws⟩ = pure (ps.zip (pk .none l (us ++ ws)))) : KwD P w S mg base k f n ks l sp2 := by
  refine ⟨⟨fd, ps, F, fun s us ws _ h1 h2 => ?_⟩, Fd.kp⟩
  obtain ⟨oc, od, dV, kV, doc, pm, an, cdv, ct, osl, rfl, lk, hcd, hD, hK⟩ := Fd.ex
  rcases hD with ⟨_, rfl⟩ | ⟨e, _⟩
  · exact .of_eq (hb kV doc pm an cdv ct us ws h1 h2)
  · exact absurd rfl e
theorem kwD_mk1 {P : Program} {w : World} {S : Sy} {mg : Str → Option Value} {base : Heap} {x qual : Str} {params : Arguments} {body : List Stmt} {scope : Scope} {dvs : List V} {kws : List (Str × V)} {f : Addr} {fd : FuncData} {ps : List Str} {k n : Nat} {ks : List Str} {l : List Nat} {sp2 : DSp}
    (Fd : FunD S.K x qual params body scope dvs kws f fd) (F : FnOk P w S.K mg base (L2.CX P w) k f fd ps (upSp S sp2)) (hd : dvs ≠ [])
    (hb : ∀ (T : Addr) (kV doc pm : Value) (an : Option Addr) (cdv ct : Value) (us its ws : List Value), us.length = n → its.length = dvs.length → ws.length = ks.length →
      ∃ k, bindArgs (PySem.W.fnOf x qual params body scope (.ref T) kV doc pm an cdv ct) ⟨us, ks.zip ws⟩ = seqItems? (.ref T) >>= k ∧ k (some its.toArray) = pure (ps.zip (pk .none l (us ++ ws)))) : KwD P w S mg base k f n ks l sp2 := by
  refine ⟨⟨fd, ps, F, fun s us ws kin h1 h2 => ?_⟩, Fd.kp⟩
  obtain ⟨oc, od, dV, kV, doc, pm, an, cdv, ct, osl, rfl, lk, hcd, hD, hK⟩ := Fd.ex
  rcases hD with ⟨e, _⟩ | ⟨_, T, o, its, m, rfl, lT, oT, rT⟩
  · exact absurd e hd
  · obtain ⟨k, e1, e2⟩ := hb T kV doc pm an cdv ct us its ws h1 rT.length.symm h2
    refine BindsTo.of_looks fun M => ?_
    rw [e1]
    exact looks_items kin lT oT (.of_pure e2)
def kwd (n m : Nat) (l : List Nat) (ds zs : List D) (q : List D → Prop) : Prop := ds.length = n ∧ zs.length = m ∧ q (pk .non l (ds ++ zs))
theorem run_kw {A : Around} {ks : List Str} {l : List Nat} {pins : List (Addr × Obj)} {s : Shared} {σ : L2.St} {H F : Hp} {sd : SD} {W : Wd} {us ws : List Value} {vs ys : List V} {ds zs : List D} {Q2 : QD} {E2 : QX} (hK : X.K = S.K) (G : KwD X.prog X.w S X.mg X.base k f n ks l sp2) (hr : Room k A) (e0 : Env0 X.prog X.w X.K X.mg X.base A X.stack s H) (tk : Takes X E)
    (I : Inv X pins σ H s) (rl : Rel S F W H) (sr : SRel S F σ sd) (xc : XCv S F E2 E) (r : Vals vs us) (r2 : Vals ys ws) (rp : Rps S F vs ds) (rp2 : Rps S F ys zs) (h : kwd n ks.length l ds zs fun ds' => sp2 ds' W Q2 (fun d W' => E2 d sd W')) :
    wpAny (model X.prog X.w) A (call (.ref f) us (ks.zip ws)) (DP X S pins σ F Q2) X.xe s := by
  obtain ⟨⟨fd, ps, Fn, hb⟩, kp⟩ := G
  obtain ⟨h1, h2, h⟩ := h
  have l1 : us.length = n := by rw [← r.length, rp.length]; exact h1
  have l2 : ws.length = ks.length := by rw [← r2.length, rp2.length]; exact h2
  exact call_go (run_go (ar := ⟨us, ks.zip ws⟩) hK (fun outer s H ar us vs Q E e0 bn r sp => Fn.run A outer s H ar us vs Q E hr e0 bn r sp) e0 tk (hb s us ws (by rw [← hK]; exact I.kIn) l1 l2) I rl sr xc (vals_pk (r.append r2) l) (rps_pk (rp.append rp2) l) h)
/-- f(k = v, ..) -/
def dCallK (m : Nat) (l : List Nat) (sp2 : DSp) (t : DA) : DE := fun sd W Q E2 => t sd W (fun zs W1 => kwd 0 m l [] zs fun ds' => sp2 ds' W1 Q (fun d W' => E2 d sd W')) E2
theorem pd_callK {x : Str} {p pos : Pos} {kws : List Keyword} {ks : List Str} {l : List Nat} {t : DA} (hK : X.K = S.K) (tk : Takes X E) (hr : Room k X.A) (G : KwD X.prog X.w S X.mg X.base k f 0 ks l sp2) (hm : X.mg x = some (.ref f)) (hkw : PKd X S E kws t) (hg : Gl X x := by rfl)
    (hall : (backToKw pos (keywordEach kws X.env)).all (·.1.isSome) = true := by rfl) (hks : (backToKw pos (keywordEach kws X.env)).filterMap (·.1) = ks := by rfl) (hdb : (x == ("__debug__" : Str)) = false := by decide)
    (hpl : ((backTo pos (starEach [] X.env)).any (·.1) || (backToKw pos (keywordEach kws X.env)).any (·.1.isNone)) = false := by rfl) :
    PD X S E (.Call (.Name x p) [] kws pos) (dCallK ks.length l sp2 t) := by
  refine ⟨fun pins s σ H F sd W Q2 E2 I rl sr xc h => ?_⟩
  refine wpAny_Call_Name_kw (ld_glob I hg hm ?_ hdb)
  refine PySem.W.callWith_KW0 (h₀ := X.base) I.ok.mod.kin (by rw [hK]; exact G.kp) hall ?_ hpl
  refine thn (hkw.run pos pins s σ H F sd W _ E2 I rl sr xc h) fun ws s1 ⟨zs, H1, F1, ds, W1, I1, r, e1, rl1, rp, q⟩ => ⟨I1.kIn, ?_⟩
  rw [hks]
  exact thn (run_kw (us := []) (vs := []) (ds := []) hK G hr I1.env0 tk I1 rl1 (sr.mono e1) (XCv.mono e1 xc) .nil r .nil rp q) fun u s' z => z.back e1
/-- C.m(k = v, ..), a static method -/
structure SmK (P : Program) (w : World) (S : Sy) (mg : Str → Option Value) (base : Heap) (k : Nat) (C : Addr) (m : Str) (ks : List Str) (l : List Nat) (sp2 : DSp) : Prop where
  rd : ClX.CRead S.K C (.type "type")
  ex : ∃ p g, SMet S.K C m p g ∧ KwD P w S mg base k g 0 ks l sp2
theorem SmK.mono {P : Program} {w : World} {mg : Str → Option Value} {base : Heap} {j k : Nat} {C : Addr} {m : Str} {ks : List Str} {l : List Nat} (G : SmK P w S mg base j C m ks l sp2) (h : j ≤ k) : SmK P w S mg base k C m ks l sp2 := by
  obtain ⟨a, p, g, b, c⟩ := G
  exact ⟨a, p, g, b, c.mono h⟩
def dSmK (C : Addr) (m : Nat) (l : List Nat) (sp2 : DSp) (ta : DE) (t : DA) : DE := fun sd W Q E2 => ta sd W (fun d W1 => d = .ptr C ∧ t sd W1 (fun zs W2 => kwd 0 m l [] zs fun ds' => sp2 ds' W2 Q (fun x W' => E2 x sd W')) E2) E2
theorem pd_smethK {o : Expr} {m : Str} {apos pos : Pos} {ta : DE} {t : DA} {pl : Sem Bool} {C : Addr} {kws : List Keyword} {ks : List Str} {l : List Nat} (hK : X.K = S.K) (tk : Takes X E) (hr : Room k X.A) (G : SmK X.prog X.w S X.mg X.base k C m ks l sp2) (ho : PD X S E o ta) (hkw : PKd X S E kws t)
    (hall : (backToKw pos (keywordEach kws X.env)).all (·.1.isSome) = true := by rfl) (hks : (backToKw pos (keywordEach kws X.env)).filterMap (·.1) = ks := by rfl)
    (hpl : ((backTo pos (starEach [] X.env)).any (·.1) || (backToKw pos (keywordEach kws X.env)).any (·.1.isNone)) = false := by rfl)
    (ht : eval (.Call (.Attribute o m apos) [] kws pos) X.env = (do
      let ov ← eval o X.env
      standAt apos.atName
      let (f, first) ← holding [ov] (getMethod ov m pl)
      callWith pos f first (backTo pos (starEach [] X.env)) (backToKw pos (keywordEach kws X.env))) := by rfl) :
    PD X S E (.Call (.Attribute o m apos) [] kws pos) (dSmK C ks.length l sp2 ta t) := by
  refine ⟨fun pins s σ H F sd W Q2 E2 I rl sr xc h => ?_⟩
  obtain ⟨rd, p, g, c, Gf⟩ := G
  rw [← hK] at rd c
  refine PySem.W.methodCall_KW (pl := pl) (thn (ho.run pins s σ H F sd W _ E2 I rl sr xc h) fun u s1 ⟨x, H1, F1, d, W1, I1, rx, e1, rl1, rp, ed, q⟩ => ?_) ht
  subst ed
  cases rp
  obtain rfl : u = Value.ref C := rx
  refine getmethsm_ok I1 rd c fun s2 I2 => ?_
  refine PySem.W.callWith_KW0 (first := []) (h₀ := X.base) I.ok.mod.kin (by rw [hK]; exact Gf.kp) hall ?_ hpl
  refine thn (hkw.run pos pins s2 σ H1 F1 sd W1 _ E2 I2 rl1 (sr.mono e1) (XCv.mono e1 xc) q) fun ws s3 ⟨zs, H2, F2, ds, W2, I3, r2, e2, rl2, rp2, q2⟩ => ⟨I3.kIn, ?_⟩
  rw [hks]
  exact thn (run_kw (us := []) (vs := []) (ds := []) hK Gf hr I3.env0 tk I3 rl2 (sr.mono (e1.trans e2)) (XCv.mono (e1.trans e2) xc) .nil r2 .nil rp2 q2) fun u s' z => z.back (e1.trans e2)
/-- o.m(k = v, ..) -/
structure MtK (P : Program) (w : World) (S : Sy) (mg : Str → Option Value) (base : Heap) (k c : Nat) (m : Str) (ks : List Str) (l : List Nat) (sp2 : DSp) : Prop where
  cl : Cls S.K (S.ca c)
  ex : ∃ f, Meth S.K (S.ca c) m f ∧ KwD P w S mg base k f 1 ks l sp2
def dMethK (cs : List Nat) (m : Nat) (l : Nat → List Nat) (sp2 : Nat → DSp) (ta : DE) (t : DA) : DE := fun sd W Q E2 => ta sd W (fun d W1 => kIns W1 d fun c _ => c ∈ cs ∧ t sd W1 (fun zs W2 => kwd 1 m (l c) [d] zs fun ds' => sp2 c ds' W2 Q (fun x W' => E2 x sd W')) E2) E2
theorem pd_methK {cs : List Nat} {o : Expr} {m : Str} {apos pos : Pos} {ta : DE} {t : DA} {pl : Sem Bool} {kws : List Keyword} {ks : List Str} {l : Nat → List Nat} {sp2 : Nat → DSp} (hK : X.K = S.K) (tk : Takes X E) (hr : Room k X.A) (hM : ∀ c, c ∈ cs → MtK X.prog X.w S X.mg X.base k c m ks (l c) (sp2 c)) (nf : ∀ i, S.t.nm i ≠ m)
    (ho : PD X S E o ta) (hkw : PKd X S E kws t)
    (hall : (backToKw pos (keywordEach kws X.env)).all (·.1.isSome) = true := by rfl) (hks : (backToKw pos (keywordEach kws X.env)).filterMap (·.1) = ks := by rfl)
    (hpl : ((backTo pos (starEach [] X.env)).any (·.1) || (backToKw pos (keywordEach kws X.env)).any (·.1.isNone)) = false := by rfl)
    (ht : eval (.Call (.Attribute o m apos) [] kws pos) X.env = (do
      let ov ← eval o X.env
      standAt apos.atName
      let (f, first) ← holding [ov] (getMethod ov m pl)
      callWith pos f first (backTo pos (starEach [] X.env)) (backToKw pos (keywordEach kws X.env))) := by rfl) :
    PD X S E (.Call (.Attribute o m apos) [] kws pos) (dMethK cs ks.length l sp2 ta t) := by
  refine ⟨fun pins s σ H F sd W Q2 E2 I rl sr xc h => ?_⟩
  refine PySem.W.methodCall_KW (pl := pl) (thn (ho.run pins s σ H F sd W _ E2 I rl sr xc h) fun u s1 ⟨x, H1, F1, d, W1, I1, rx, e1, rl1, rp, q⟩ => ?_) ht
  obtain ⟨a, dx, vs, c, fs, ex, ea, rf, hc, q⟩ := kIns.at rl1 rp q
  subst ex
  obtain rfl : u = Value.ref a := rx
  obtain ⟨cl, f, mt, G⟩ := hM c hc
  rw [← hK] at cl mt
  refine getmeth_ok I1 ea cl mt (look_none nf rf) ?_
  refine PySem.W.callWith_KW0 (first := [.ref a]) (h₀ := X.base) I.ok.mod.kin mt.kp hall ?_ hpl
  refine thn (hkw.run pos pins s1 σ H1 F1 sd W1 _ E2 I1 rl1 (sr.mono e1) (XCv.mono e1 xc) q) fun ws s2 ⟨zs, H2, F2, ds, W2, I2, r2, e2, rl2, rp2, q2⟩ => ⟨I2.kIn, ?_⟩
  rw [hks]
  exact thn (run_kw (us := [.ref a]) (vs := [.ref a]) (ds := [d]) hK G hr I2.env0 tk I2 rl2 (sr.mono (e1.trans e2)) (XCv.mono (e1.trans e2) xc) (.cons rfl .nil) r2 (.cons (rp.mono e2) .nil) rp2 q2) fun u s' z => z.back (e1.trans e2)
/-- C(k = v, ..) -/
structure MkK (P : Program) (w : World) (S : Sy) (mg : Str → Option Value) (base : Heap) (k c : Nat) (ks : List Str) (l : List Nat) (sp2 : DSp) : Prop where
  ex : ∃ f, Mk S.K (S.ca c) f ∧ KwD P w S mg base k f 1 ks l sp2
theorem MkK.mono {P : Program} {w : World} {mg : Str → Option Value} {base : Heap} {j k c : Nat} {ks : List Str} {l : List Nat} (G : MkK P w S mg base j c ks l sp2) (h : j ≤ k) : MkK P w S mg base k c ks l sp2 := by
  obtain ⟨f, b, c⟩ := G
  exact ⟨f, b, c.mono h⟩
def dMakeK (c m : Nat) (l : List Nat) (sp2 : DSp) (t : DA) : DE := fun sd W Q E2 => t sd W (fun zs W1 => ∀ p, W1 p = none → kwd 1 m l [.ptr p] zs fun ds' => sp2 ds' (put W1 p (.ins c [])) (fun d W2 => kNon d (Q (.ptr p) W2)) (fun x W' => E2 x sd (cut W' p))) E2
theorem pd_makeK {c : Nat} {x : Str} {p pos : Pos} {kws : List Keyword} {ks : List Str} {l : List Nat} {t : DA} (hK : X.K = S.K) (tk : Takes X E) (hr : Room (k + 1) X.A) (G : MkK X.prog X.w S X.mg X.base k c ks l sp2) (hm : X.mg x = some (.ref (S.ca c))) (hkw : PKd X S E kws t) (hg : Gl X x := by rfl)
    (hall : (backToKw pos (keywordEach kws X.env)).all (·.1.isSome) = true := by rfl) (hks : (backToKw pos (keywordEach kws X.env)).filterMap (·.1) = ks := by rfl) (hdb : (x == ("__debug__" : Str)) = false := by decide)
    (hpl : ((backTo pos (starEach [] X.env)).any (·.1) || (backToKw pos (keywordEach kws X.env)).any (·.1.isNone)) = false := by rfl) :
    PD X S E (.Call (.Name x p) [] kws pos) (dMakeK c ks.length l sp2 t) := by
  obtain ⟨f, M, Gf⟩ := G
  refine ⟨fun pins s0 σ H0 F0 sd W0 Q2 E2 I0 rl0 sr0 xc0 h0 => ?_⟩
  refine wpAny_Call_Name_kw (ld_glob I0 hg hm ?_ hdb)
  refine PySem.W.callWith_KW0 (h₀ := X.base) I0.ok.mod.kin (by rw [hK]; exact M.kp) hall ?_ hpl
  refine thn (hkw.run pos pins s0 σ H0 F0 sd W0 _ E2 I0 rl0 sr0 xc0 h0) fun ws s ⟨vs, H, F, zs, W, I, r, e0, rl, rp, h⟩ => ⟨I.kIn, ?_⟩
  rw [hks]
  have sr := sr0.mono e0
  have xc := XCv.mono e0 xc0
  have fr1 : H (s.heap.objs.size + 1) = none := I.hok.fresh (Nat.le_succ _)
  have fr0 : H s.heap.objs.size = none := I.hok.fresh (Nat.le_refl _)
  have ne : s.heap.objs.size ≠ s.heap.objs.size + 1 := Nat.ne_of_lt (Nat.lt_succ_self _)
  obtain ⟨h1, h2, h3⟩ := h (s.heap.objs.size + 1) (rl.nw fr1)
  obtain ⟨⟨fd, ps, Fn, hb⟩, kp⟩ := Gf
  have I2 := Inv.made (C := S.ca c) I
  have rl2 := rl.made (c := c) fr1 fr0 ne
  have l2 : ws.length = ks.length := by rw [← r.length, rp.length]; exact h2
  rw [← hK] at M
  suffices go : wpAny (model X.prog X.w) X.A (call (.ref (S.ca c)) [] (ks.zip ws)) (DP X S pins σ F Q2) X.xe s from thn go fun u s' z => z.back e0
  refine wpAny_call (make_map (f := f) (vs := []) (kw := ks.zip ws) I.kIn M.makes M.init (beq_iff_eq.mp M.fn) ?_)
  have e2 := I2.env0.make (S.ca c) [] (ks.zip ws)
  refine codeAny_mono (run_go (X := X) (S := S) (E := E) (sd := sd) (E2 := fun x sd W' => E2 x sd (cut W' (s.heap.objs.size + 1))) (W := put W (s.heap.objs.size + 1) (.ins c [])) (ds := pk .non l ([.ptr (s.heap.objs.size + 1)] ++ zs)) (vs := pk .non l ([V.ref (s.heap.objs.size + 1)] ++ vs)) (us := pk .none l ([Value.ref (s.heap.objs.size + 1)] ++ ws)) (ps := ps)
    (Q2 := fun d W2 => kNon d (Q2 (.ptr (s.heap.objs.size + 1)) W2)) hK (fun outer s H ar us vs Q E e0 bn r sp => Fn.run _ outer s H ar us vs Q E (hr.make (S.ca c) [] (ks.zip ws)) e0 bn r sp) e2 tk (hb _ [Value.ref (s.heap.objs.size + 1)] ws (by rw [← hK]; exact I2.kIn) rfl l2) I2 rl2 sr (fun F' dx vs c fs σ' sd' W' H' e r sr hx rf q => xc F' dx vs c fs σ' sd' _ H' e r.cut sr hx rf q)
    (vals_pk (Vals.append (show Vals [V.ref (s.heap.objs.size + 1)] [Value.ref (s.heap.objs.size + 1)] from .cons rfl .nil) r) l) (rps_pk (Rps.append (.cons (.ptr _) .nil) rp) l) h3) fun r s' z => ?_
  match r, z with
  | .error e, z => exact z
  | .ok (.ret u), ⟨v, H', F', d, W', I', rv, e', rl', p', q'⟩ =>
    cases p' with
    | non => exact ⟨rv, ⟨V.ref (s.heap.objs.size + 1), H', F', _, W', I', rfl, e', rl', .ptr _, q'⟩⟩
    | _ => exact (q' : False).elim
end
end Mv
end
section
set_option Elab.async false
set_option linter.all false
set_option maxRecDepth 100000
set_option maxHeartbeats 4000000
namespace Mv
open PySem PySem.Spec L2 PyProof.Rows
theorem fnDG_mk {P : Program} {w : World} {S : Sy} {mg : Str → Option Value} {base : Heap} {x qual : Str} {params : Arguments} {body : List Stmt} {scope : Scope} {kws : List (Str × V)} {f : Addr} {fd : FuncData} {ps : List Str} {k : Nat} {sp2 : DSp}
    (Fd : FunD S.K x qual params body scope [] kws f fd) (F : FnG P w S.K mg base k f fd ps (upSp S sp2))
    (hb : ∀ (kV doc pm : Value) (an : Option Addr) (cdv ct : Value) (us : List Value), us.length = ps.length → bindArgs (PySem.W.fnOf x qual params body scope .none kV doc pm an cdv ct) ⟨us, []⟩ = pure (ps.zip us)) : FnDG P w S mg base k f ps.length [] sp2 :=
  ⟨⟨fd, ps, [], F, rfl, fun _ => .nil, fun j hj => ⟨[], by simp only [List.drop_nil]; exact .nil, Fd.bindsN hb⟩⟩, Fd.kp⟩
end Mv
end
section
set_option Elab.async false
set_option linter.all false
set_option maxRecDepth 100000
set_option maxHeartbeats 4000000
namespace Mv
open PySem PySem.Spec L2 PyProof.Rows
open Evl (Ex ex_l ex_t ex_rd)
open He (ga ma)
/-! ## exceptions: raised, held as values -/
def oexCB (K : PySem.W.Frag) (C : Addr) : Bool := match K.lookup C with
  | some ⟨.type "type", _, .cls cd, sl⟩ => (match cd.mro, sl.toList with
    | .ref C' :: bm, [_, _, _, _, some (.builtin n), _] => C' == C && (n == "ValueError.__new__" && (!cd.hasDel && (cd.hasDict && PySem.HandSPX.refsVE bm)))
    | _, _ => false)
  | _ => false
def oexB (K : PySem.W.Frag) (C : Addr) : Bool := oexCB K C && (He.eqO (PySem.W.findIn K (.ref C) "__setattr__") (some (some (.builtin "object.__setattr__"))) && (decide (PySem.W.subIn K (.ref C) (.type "BaseException") = some true) && (decide (PySem.W.typeIn K (.ref C) = some (.type "type")) && PySem.W.keepIn K (.ref C))))
theorem oexB_ok {K : PySem.W.Frag} {C : Addr} (h : oexB K C = true) : OexC K C := by
  obtain ⟨h1, h⟩ := He.ba h
  obtain ⟨h2, h⟩ := He.ba h
  obtain ⟨h3, h⟩ := He.ba h
  obtain ⟨h4, h5⟩ := He.ba h
  refine ⟨?_, He.eqO_ok h2, of_decide_eq_true h3, of_decide_eq_true h4, h5⟩
  unfold oexCB at h1
  split at h1
  · rename_i dd cd sl ho
    split at h1
    · rename_i C' bm k0 k1 k2 k3 n k5 hm hs
      obtain ⟨e1, h1⟩ := He.ba h1
      obtain ⟨e2, h1⟩ := He.ba h1
      obtain ⟨e3, h1⟩ := He.ba h1
      obtain ⟨e4, e5⟩ := He.ba h1
      have e1 := beq_iff_eq.mp e1
      have e2 := beq_iff_eq.mp e2
      subst e1 e2
      obtain ⟨nm, bs, mro, ns, qn, hd, sn, sub, ab, col, del⟩ := cd
      simp only [Bool.not_eq_true'] at hm e3 e4
      subst hm e3 e4
      obtain ⟨l⟩ := sl
      have hs : l = _ := hs
      subst hs
      exact ⟨nm, qn, ns, bs, bm, sn, sub, ab, col, dd, k0, k1, k2, k3, k5, ho, e5⟩
    · cases h1
  · cases h1
def excCB (K : PySem.W.Frag) (D : Addr) : Bool := xfB K D && (He.eqO (PySem.W.findIn K (.ref D) "__class__") (some (some (.builtin "object.__class__"))) && (He.eqO (PySem.W.specialIn K (.builtin "object.__class__") "__get__") (some (some (.builtin "getset_descriptor.__get__"))) && (decide (PySem.W.takesIn K (.builtin "object.__class__") = some true) && (decide (PySem.W.mroIn K D (.type "object") = some true) && (PySem.W.clsIn K D).isSome))))
theorem excCB_ok {K : PySem.W.Frag} {D : Addr} (h : excCB K D = true) : ExcC K D ∧ (PySem.W.clsIn K D).isSome = true ∧ XfC K D := by
  obtain ⟨h1, h⟩ := He.ba h
  obtain ⟨h2, h⟩ := He.ba h
  obtain ⟨h3, h⟩ := He.ba h
  obtain ⟨h4, h⟩ := He.ba h
  obtain ⟨h5, h6⟩ := He.ba h
  have x := xfB_ok h1
  exact ⟨⟨x.ga, x.gg, x.exC, x.hdC, He.eqO_ok h2, He.eqO_ok h3, of_decide_eq_true h4, of_decide_eq_true h5⟩, h6, x⟩
def kExn (d : D) (k : Nat → List (Nat × D) → Prop) : Prop := match d with
  | .exn c fs => k c fs
  | _ => False
section
variable {X : Cx} {S : Sy} {E : XS} {k : Nat}
theorem kExn.at_ {H F : Hp} {W : Wd} {v : V} {d : D} {q : Nat → List (Nat × D) → Prop} (rl : Rel S F W H) (rp : Rp S F v d) (h : kExn d q) : ∃ a dx vs c fs, v = .ref a ∧ H a = some (exK a (S.ca c) dx) ∧ H dx = some (.xd vs) ∧ Rpf S F vs fs ∧ q c fs := by
  cases rp with
  | exn h1 h2 r => exact ⟨_, _, _, _, _, rfl, rl.sub _ _ h1, rl.sub _ _ h2, r, h⟩
  | _ => exact h.elim
theorem exn_inst {P : Program} {w : World} {H : Hp} {h : Heap} {a C dx : Addr} {vs : List (Str × V)} (hok : HOk P w H h) (ha : H a = some (exK a C dx)) (hd : H dx = some (.xd vs)) :
    ∃ (oe od : Obj) (mA : Str → Option Value), PySem.W.InstAt h a oe C (some od) ∧ (∀ f, RelO (vs.lookup f) (mA f)) ∧ ∀ n, PySem.W.lookIn n od = some (mA n) := by
  obtain ⟨⟨oe, ov, e1, e2, e3, e4⟩, _⟩ := (show ObjOk P w H h a (exK a C dx) from hok a _ ha)
  obtain ⟨mA, hns, hr⟩ := (show ObjOk P w H h dx (.xd vs) from hok dx _ hd)
  obtain ⟨od, ho, hl⟩ := lookIn_ns hns
  exact ⟨oe, od, mA, ⟨e1, e2, by unfold PySem.W.notCls; rw [e4] <;> rfl, by rw [e3]; exact ho⟩, hr, hl⟩
/-- x.f, x an exception that is held -/
def dXat (l : List Nat) (i : Nat) (ta : DE) : DE := fun sd W Q E2 => ta sd W (fun d W1 => kExn d fun c fs => c ∈ l ∧ match fs.lookup i with
  | some x => Q x W1
  | none => False) E2
theorem pd_xat {l : List Nat} {i : Nat} {n : Str} {e : Expr} {ta : DE} {pos : Pos} (hK : X.K = S.K) (hl : ∀ c, c ∈ l → XfC S.K (S.ca c) ∧ PySem.W.findIn S.K (.ref (S.ca c)) n = some none) (hn : S.t.nm i = n) (he : PD X S E e ta) (hb : attributeBase e n X.env (eval e X.env) = eval e X.env := by rfl) :
    PD X S E (.Attribute e n pos) (dXat l i ta) := by
  refine ⟨fun pins s σ H F sd W Q2 E2 I rl sr xc h => ?_⟩
  refine attr_of hb (thn (he.run pins s σ H F sd W _ E2 I rl sr xc h) fun u s1 ⟨x, H1, F1, d, W1, I1, rx, e1, rl1, rp, q⟩ => ?_)
  obtain ⟨a, dx, vs, c, fs, ex, ea, ed, rf, hc, q⟩ := kExn.at_ rl1 rp q
  subst ex
  obtain rfl : u = Value.ref a := rx
  obtain ⟨T, hno⟩ := hl c hc
  rw [← hK] at T hno
  obtain ⟨oe, od, mA, J, hr, hlk⟩ := exn_inst I1.hok ea ed
  cases el : fs.lookup i with
  | none => rw [el] at q; exact q.elim
  | some y =>
    rw [el] at q
    obtain ⟨v, h1, h2⟩ := rf.look el
    rw [hn] at h1
    obtain ⟨u, hu, ru⟩ := RelO.some_of (v := v) (o := mA n) (by rw [← h1]; exact hr n)
    exact HandSPX.exc_get I1.kIn J T.ga T.gg T.exC (PySem.W.findObj_own T.hdC hno rfl (by rw [hlk, hu])) (handed_of ru) ⟨v, H1, F1, y, W1, I1.tok _, ru, e1, rl1, h2, q⟩
/-- isinstance(x, C), x an exception that is held -/
def rIsX (u : D) (f : Nat → Option Bool) : DC := fun ds W Q => match ds with
  | [x, c] => c = u ∧ kExn x fun n _ => kSome (f n) fun b => Q (.bl b) W
  | _ => False
structure IsxF (S : Sy) (C : Addr) (f : Nat → Option Bool) : Prop where
  ok : ∀ n b, f n = some b → ExcC S.K (S.ca n) ∧ (PySem.W.clsIn S.K (S.ca n)).isSome = true ∧ PySem.W.kitOne S.K (.ref (S.ca n)) (.ref C) = some b
theorem cl_isX {C : Addr} {f : Nat → Option Bool} (hK : X.K = S.K) (hf : IsxF S C f) : CalD X S (.builtin "isinstance") (rIsX (.ptr C) f) := by
  intro pins s σ H vs us Q I rv ⟨F, W, ds, Q2, rl, rp, qc, q⟩
  match ds, q with
  | [x, c], q =>
    obtain ⟨rfl, q⟩ := q
    obtain ⟨v1, v2, rfl, p1, p2⟩ := rp.two
    obtain ⟨a, dx, xs, n, fs, rfl, ea, ed, rf, q⟩ := kExn.at_ rl p1 q
    obtain ⟨b, hb, q⟩ := q.inv
    obtain ⟨T, hc, kt⟩ := hf.ok n b hb
    rw [← hK] at T hc kt
    cases p2
    cases rv with
    | cons r1 rr =>
      cases rr with
      | cons r2 rr =>
        cases rr
        obtain rfl : _ = Value.ref a := r1
        obtain rfl : _ = Value.ref C := r2
        obtain ⟨oe, od, mA, J, hr, hlk⟩ := exn_inst I.hok ea ed
        exact PySem.W.kia_one (PySem.W.kitx_exc hc T.hg T.hk T.hs T.ha T.hn T.ht T.hm) I.kIn J kt (fun z => nomatch z) fun tk => ⟨.bl b, H, I.kept (t' := tk) fun _ _ z => z, rfl, qc F _ _ W H (fun _ _ h => h) rl (.bl _) q⟩
end
end Mv
end
section
set_option Elab.async false
set_option linter.all false
set_option maxRecDepth 100000
set_option maxHeartbeats 4000000
namespace Mv
open PySem PySem.Spec L2 PyProof.Rows
open Evl (Ex ex_l ex_t ex_rd)
/-! ## raise X(..), X an own exception that keeps what it is given -/
/-- what X.__init__ does with one value, with two -/
def exSp1 (C : Addr) (f : Str) : Sp := fun vs H Q _ => ∃ a y, vs = [.ref a, y] ∧ H a = some (exo a C none) ∧ ∀ dx, H dx = none → dx ≠ a → Q .non (upd (upd H dx (exd dx [(f, y)])) a (exo a C (some dx)))
def exSp2 (C : Addr) (f g : Str) : Sp := fun vs H Q _ => ∃ a y z, vs = [.ref a, y, z] ∧ H a = some (exo a C none) ∧ ∀ dx, H dx = none → dx ≠ a → Q .non (upd (upd (upd H dx (exd dx [(f, y)])) a (exo a C (some dx))) dx (exd dx [(g, z), (f, y)]))
def exSp (C : Addr) : List Str → Sp
  | [f] => exSp1 C f
  | [f, g] => exSp2 C f g
  | _ => fun _ _ _ _ => False
theorem exinit1 {P : Program} {w : World} {K : PySem.W.Frag} {mg : Str → Option Value} {base : Heap} {x qual : Str} {params : Arguments} {scope : Scope} {kws : List (Str × V)} {I : Addr} {fd : FuncData} {C : Addr} {f s0 p1 : Str} {po pv pa ps_ : Pos}
    (Fd : FunD K x qual params [.Assign [.Attribute (.Name s0 po) f pa] (.Name p1 pv) ps_] scope [] kws I fd) (Sc : FnScope [s0, p1] [s0, p1] scope) (T : OexC K C) (hno : PySem.W.findIn K (.ref C) f = some none)
    (v0 : Vis scope s0) (v1 : Vis scope p1) (d0 : (s0 == ("__debug__" : Str)) = false) (c0 : (s0 == ("__classdict__" : Str)) = false) (d1 : (p1 == ("__debug__" : Str)) = false) (c1 : (p1 == ("__classdict__" : Str)) = false) : FnOk P w K mg base (L2.CX P w) 2 I fd [s0, p1] (exSp1 C f) := by
  refine Fd.ok (k := 1) Sc (fun vs H Q E h => ?_) (fun cdv A outer s H vs Q E hr h => ?_)
  · obtain ⟨a, y, rfl, _⟩ := h
    rfl
  · obtain ⟨a, y, rfl, ea, q⟩ := h
    refine ⟨_, pss_one (ps_ost (pe_var (i := 0) rfl v0 d0 c0) (pe_var (i := 1) rfl v1 d1 c1)), ?_⟩
    exact ⟨y, rfl, .ref a, rfl, a, C, rfl, T, hno, .inl ⟨ea, fun dx n ne => q dx n ne⟩⟩
theorem exinit2 {P : Program} {w : World} {K : PySem.W.Frag} {mg : Str → Option Value} {base : Heap} {x qual : Str} {params : Arguments} {scope : Scope} {kws : List (Str × V)} {I : Addr} {fd : FuncData} {C : Addr} {f g s0 p1 p2 : Str} {po pv pa ps_ qo qv qa qs_ : Pos}
    (Fd : FunD K x qual params [.Assign [.Attribute (.Name s0 po) f pa] (.Name p1 pv) ps_, .Assign [.Attribute (.Name s0 qo) g qa] (.Name p2 qv) qs_] scope [] kws I fd) (Sc : FnScope [s0, p1, p2] [s0, p1, p2] scope) (T : OexC K C) (hno : PySem.W.findIn K (.ref C) f = some none) (hno2 : PySem.W.findIn K (.ref C) g = some none)
    (v0 : Vis scope s0) (v1 : Vis scope p1) (v2 : Vis scope p2) (d0 : (s0 == ("__debug__" : Str)) = false) (c0 : (s0 == ("__classdict__" : Str)) = false) (d1 : (p1 == ("__debug__" : Str)) = false) (c1 : (p1 == ("__classdict__" : Str)) = false) (d2 : (p2 == ("__debug__" : Str)) = false) (c2 : (p2 == ("__classdict__" : Str)) = false) :
    FnOk P w K mg base (L2.CX P w) 2 I fd [s0, p1, p2] (exSp2 C f g) := by
  refine Fd.ok (k := 1) Sc (fun vs H Q E h => ?_) (fun cdv A outer s H vs Q E hr h => ?_)
  · obtain ⟨a, y, z, rfl, _⟩ := h
    rfl
  · obtain ⟨a, y, z, rfl, ea, q⟩ := h
    refine ⟨_, pss_cons (ps_ost (pe_var (i := 0) rfl v0 d0 c0) (pe_var (i := 1) rfl v1 d1 c1)) (pss_one (ps_ost (pe_var (i := 0) rfl v0 d0 c0) (pe_var (i := 2) rfl v2 d2 c2))), ?_⟩
    refine ⟨y, rfl, .ref a, rfl, a, C, rfl, T, hno, .inl ⟨ea, fun dx n ne => ?_⟩⟩
    refine ⟨z, rfl, .ref a, rfl, a, C, rfl, T, hno2, .inr ⟨dx, [(f, y)], upd_same, ?_, by show 1 ≤ 900; decide, q dx n ne⟩⟩
    rw [upd_ne ne, upd_same]
/-- an exception class that can be raised -/
structure RsD (P : Program) (w : World) (S : Sy) (mg : Str → Option Value) (base : Heap) (k c : Nat) (ns : List Nat) : Prop where
  oex : OexC S.K (S.ca c)
  ex : ∃ (fI : Addr) (fd : FuncData) (ps : List Str), PySem.W.findIn S.K (.ref (S.ca c)) "__init__" = some (some (.ref fI)) ∧ PySem.W.typeIn S.K (.ref fI) = some (.type "function") ∧
    FnOk P w S.K mg base (L2.CX P w) k fI fd ps (exSp (S.ca c) (ns.map S.t.nm)) ∧ Binds S.K fd ps []
theorem RsD.mono {P : Program} {w : World} {S : Sy} {mg : Str → Option Value} {base : Heap} {j k c : Nat} {ns : List Nat} (R : RsD P w S mg base j c ns) (h : j ≤ k) : RsD P w S mg base k c ns := by
  obtain ⟨a, fI, fd, ps, b, c, d, e⟩ := R
  exact ⟨a, fI, fd, ps, b, c, d.mono h, e⟩
/-- the fields of what is raised -/
def rsF : List Nat → List D → Option (List (Nat × D))
  | [i], [x] => some [(i, x)]
  | [i, j], [x, y] => some [(j, y), (i, x)]
  | _, _ => none
def dRaise (c : Nat) (ns : List Nat) (t : DA) : DS := fun _ sd W E2 => t sd W (fun ds W1 => kSome (rsF ns ds) fun fs => E2 (.exn c fs) sd W1) E2
section
variable {X : Cx} {S : Sy} {E : XS} {k : Nat}
theorem del_upd {H : Hp} {a : Addr} {o : HO} (h : H a = none) : del (upd H a o) a = H := by
  funext b
  by_cases e : b = a
  · rw [e, del_same, h]
  · rw [del_ne e, upd_ne e]
theorem heap_1 {H : Hp} {a d : Addr} {o1 o2 o3 o4 : HO} (ha : H a = none) (ne : d ≠ a) : upd (del (upd (upd (upd H a o1) d o2) a o3) a) d o4 = upd H d o4 := by
  funext b
  by_cases e : b = d
  · rw [e, upd_same, upd_same]
  · rw [upd_ne e, upd_ne e]
    by_cases e2 : b = a
    · rw [e2, del_same, ha]
    · rw [del_ne e2, upd_ne e2, upd_ne e, upd_ne e2]
theorem heap_2 {H : Hp} {a d : Addr} {o1 o2 o3 o4 o5 : HO} (ha : H a = none) (ne : d ≠ a) : upd (del (upd (upd (upd (upd H a o1) d o2) a o3) d o5) a) d o4 = upd H d o4 := by
  funext b
  by_cases e : b = d
  · rw [e, upd_same, upd_same]
  · rw [upd_ne e, upd_ne e]
    by_cases e2 : b = a
    · rw [e2, del_same, ha]
    · rw [del_ne e2, upd_ne e, upd_ne e2, upd_ne e, upd_ne e2]
theorem psd_raise {c : Nat} {ns : List Nat} {x : Str} {e : Expr} {es : List Expr} {t : DA} {p pos pos' : Pos} (hK : X.K = S.K) (hc : X.calm = true) (tk : Takes X E) (hr : Room (k + 1) X.A) (R : RsD X.prog X.w S X.mg X.base k c ns) (hm : X.mg x = some (.ref (S.ca c))) (ha : PAd X S E (e :: es) t) (hx : Passes (L2.CX X.prog X.w) X (fun _ _ _ => False) := by exact passes_call tk (fun _ _ _ _ h => h.elim)) (hg : Gl X x := by rfl)
    (hdb : (x == ("__debug__" : Str)) = false := by decide) (he : starEach (e :: es) X.env = (false, eval e X.env) :: starEach es X.env := by rfl) (hpl : (backTo pos (starEach es X.env)).any (·.1) = false := by rfl) :
    PSd X S E (.Raise (some (.Call (.Name x p) (e :: es) [] pos)) none pos') (dRaise c ns t) := by
  obtain ⟨T, fI, fd, ps, iC, tI, FI, hb⟩ := R
  rw [← hK] at T iC tI FI hb
  have rule := ps_raise (pos := pos') hc tk (pmk_oex (p := p) T iC tI FI hr hb .nil hx hg hm ha.pa hdb he hpl)
  refine PS.pd rule fun σ H F sd W D2 E2 rl sr xc h => ?_
  refine ⟨F, sd, W, _, E2, rl, sr, fun F1 vs ds W1 H1 e1 rl1 rp q => ?_, xc, h⟩
  obtain ⟨fs, hfs, q⟩ := q.inv
  match ns, ds, hfs, rp with
  | [i], [y], hfs, rp =>
    cases hfs
    obtain ⟨v, rfl, p1⟩ := rp.one
    refine ⟨by show 1 ≤ 1000; decide, fun a ha => ⟨a, v, rfl, upd_same, fun dx hd ne => ⟨rfl, dx, [(S.t.nm i, v)], upd_same, ?_, ?_, ?_⟩⟩⟩
    · rw [upd_ne ne, upd_same]
    · exact (upd_ne ne).symm.trans hd
    · have hd' : H1 dx = none := (upd_ne ne).symm.trans hd
      have rl2 := rl1.newF (o := .xd [(S.t.nm i, v)]) hd'
      have ee := Ex.new (o := HO.xd [(S.t.nm i, v)]) (rl1.nf hd')
      rw [heap_1 ha ne]
      exact xc (upd F1 dx (.xd [(S.t.nm i, v)])) dx _ c [(i, y)] σ sd W1 _ (e1.trans ee) rl2 (sr.mono (e1.trans ee)) upd_same (.cons (p1.mono ee) .nil) q
  | [i, j], [y, z], hfs, rp =>
    cases hfs
    obtain ⟨v, u, rfl, p1, p2⟩ := rp.two
    refine ⟨by show 2 ≤ 1000; decide, fun a ha => ⟨a, v, u, rfl, upd_same, fun dx hd ne => ⟨rfl, dx, [(S.t.nm j, u), (S.t.nm i, v)], ?_, upd_same, ?_, ?_⟩⟩⟩
    · rw [upd_ne (Ne.symm ne), upd_same]
    · exact (upd_ne ne).symm.trans hd
    · have hd' : H1 dx = none := (upd_ne ne).symm.trans hd
      have rl2 := rl1.newF (o := .xd [(S.t.nm j, u), (S.t.nm i, v)]) hd'
      have ee := Ex.new (o := HO.xd [(S.t.nm j, u), (S.t.nm i, v)]) (rl1.nf hd')
      rw [heap_2 ha ne]
      exact xc (upd F1 dx (.xd [(S.t.nm j, u), (S.t.nm i, v)])) dx _ c [(j, z), (i, y)] σ sd W1 _ (e1.trans ee) rl2 (sr.mono (e1.trans ee)) upd_same (.cons (p2.mono ee) (.cons (p1.mono ee) .nil)) q
end
end Mv
end
section
set_option Elab.async false
set_option linter.all false
set_option maxRecDepth 100000
set_option maxHeartbeats 4000000
namespace Mv
open PySem PySem.Spec L2 PyProof.Rows
open Evl (Ex ex_l ex_t ex_rd)
/-! ## try: .. except X as n: m = n, the exception held behind it -/
section
variable {X : Cx} {pins : List (Addr × Obj)} {σ : L2.St} {H : Hp} {s : Shared}
theorem exK_ok {P : Program} {w : World} {H : Hp} {h : Heap} {a C dx : Addr} {oe : Obj} {vs : Array Value} (e : h.get? a = some oe) (z : Zc (.ref C) (some dx) oe) (d : oe.data = .fields vs) : ObjOk P w H h a (exK a C dx) := by
  refine ⟨⟨oe, vs, e, z.1, z.2, d⟩, ⟨oe, e⟩, fun h1 h2 ⟨o, v, e1, e2, e3, e4⟩ k => ⟨o, v, k _ e1, e2, e3, e4⟩⟩
theorem exK_tup {a C dx : Addr} {xs : List V} : exK a C dx ≠ .tup xs := fun z => by
  unfold exK at z
  cases z
/-- an exception that was caught is tracked from now on -/
theorem Inv.hold {a C dx : Addr} {oe : Obj} {vs : Array Value} (I : Inv X pins σ H s) (na : H a = none) (e : s.heap.get? a = some oe) (z : Zc (.ref C) (some dx) oe) (d : oe.data = .fields vs)
    (new : X.s_0.heap.get? a = none) (nL : a ≠ X.env.locals) (np : ∀ p ∈ X.pn ++ pins, p.1 ≠ a) : Inv X pins σ (upd H a (exK a C dx)) s := by
  have other : ∀ {b : Addr} {o : HO}, H b = some o → upd H a (exK a C dx) b = some o := fun {b o} h => by
    rw [upd_ne (ne_of_none h na)]
    exact h
  refine ⟨I.ok, I.os, I.bare, ⟨fun b o h1 h2 => ?_, fun b o h1 h2 => ?_, fun b o h1 h2 h3 => ?_, I.base.there, fun b xs h => other (I.base.tups b xs h), fun b o xs h => other (I.base.frzs b o xs h), fun b ps h => ?_⟩, I.loc, I.cell, ?_, fun x c h => ?_, fun p hp => ?_, ?_, I.len⟩
  · exact I.base.keep b o h1 h2
  · exact I.base.slot b o h1 h2
  · have ne : b ≠ a := fun q => by
      rw [q, new] at h1
      cases h1
    rw [upd_ne ne]
    exact I.base.free b o h1 h2 h3
  · obtain ⟨more, q⟩ := I.base.tbls b ps h
    exact ⟨more, other q⟩
  · rw [upd_ne (Ne.symm nL)]
    exact I.free
  · obtain ⟨v, o, h1, h2⟩ := I.cell x c h
    have ne : c ≠ a := fun q => by
      rw [q, e] at h1
      rw [← Option.some.inj h1, d] at h2
      cases h2
    rw [upd_ne ne]
    exact I.freeC x c h
  · obtain ⟨h1, h2, h3⟩ := I.pin p hp
    exact ⟨h1, by rw [upd_ne (np p hp)]; exact h2, h3⟩
  · exact HOk.laidN I.hok (fun _ _ q => q) na (exK_ok e z d)
/-- what is wished of an exception of the body -/
def wKeep (K : PySem.W.Frag) (c : Value) (i L : Nat) (ts : Addr → Value → Option Addr → TS) (Wout : WX) (D : Ends) : WX := fun cls d σ H =>
  σ.length = L → ∃ b, PySem.W.exmOne K cls c = some b ∧ (b = true → ∃ C dx, cls = .ref C ∧ d = some dx ∧ ∀ a, H a = none → ts a cls d { nx := fun σ' H' => D.nx (σ'.set i none) (upd H' a (exK a C dx)), rt := fun _ _ => False } (σ.set i (some (.ref a))) H) ∧ (b = false → Wout cls d σ H)
variable {x n : Str} {c : Value} {i : Nat} {body suite : List Stmt} {b₀ : Stmt} {np pos pos' : Pos} {tb : WX → TS} {ts : Addr → Value → Option Addr → TS} {Wout : WX}
theorem ps_keep (hx : X.ex = []) (hs : X.stack = X.env :: X.outer) (hf : X.env.frame = some X.env.locals) (hN : X.N.Nodup) (hi : X.N[i]? = some n) (hln : X.env.kindOf n = some .local) (hc : Names X x c) (tk : Takes X Wout)
    (hb : ∀ (W : WX) (pn : List (Addr × Obj)) (xe : Value → Shared → Prop), Takes (X.tr pn xe) W → PassesOwn (model X.prog X.w) X.A X.env xe → PSs (X.tr pn xe) body (tb W))
    (hsu : ∀ (a : Addr) (oe : Obj) (cls : Value) (d : Option Addr) (pn : List (Addr × Obj)), Zc cls d oe → (∃ vs, oe.data = .fields vs) → PSs (X.suite a ((a, oe) :: pn)) (b₀ :: suite) (ts a cls d)) :
    PS X (.Try body [.ExceptHandler (some (.Name x np)) (some n) (b₀ :: suite) pos'] [] [] pos) (fun D σ H => tb (wKeep X.K c i X.N.length ts Wout D) D σ H) := by
  constructor
  intro pins s σ H D I h
  have ok := I.ok
  have fr0 : X.A.frames = some (X.env :: X.outer) := ok.frames.trans (congrArg some hs)
  refine wpAny_Try_except (wpAny_mono ((hb (wKeep X.K c i X.N.length ts Wout D) (X.pn ++ pins) (fun e s₁ => wpAny (model X.prog X.w) X.A (noteFrame e X.env) (fun _ s₂ => wpAny (model X.prog X.w) X.A (setFlight e none) (fun _ s₃ =>
    wpAny (model X.prog X.w) X.A (handleBy e X.env [.ExceptHandler (some (.Name x np)) (some n) (b₀ :: suite) pos']) (SP X pins D) X.xe s₃) X.xe s₂) X.xe s₁) ?_ PassesOwn.looking).run [] s σ H D (I.toTry _) h) ?_ fun _ _ z => z)
  · rintro u s' ⟨a, B, sI, pins', σ', H', cls, d, rfl, J', nb, up, sky, na, os, ag, wish⟩
    obtain ⟨b, hb1, hyes, hno⟩ := wish J'.len
    have J : Inv X pins σ' H' sI := Inv.ofTry J' ok
    have air : Sky B (X.env :: X.outer) a (Zc cls d) X.env.locals s'.heap := hs ▸ sky
    show wpAny (model X.prog X.w) X.A (noteFrame (.ref a) X.env) (fun _ _ => _) _ s'
    refine Sky.land Zc.steady fr0 hf air fun h3 fl3 up3 => ?_
    have J3 : Inv X pins σ' H' { s' with heap := h3 } := Inv.landed J nb fl3.1 (up.trans up3) os ag
    obtain ⟨oe3, vs3, he3, hz3, hd3⟩ := fl3.there
    have out : a ∉ frs (X.env :: X.outer) := fun hm => by
      obtain ⟨_, o', e', hnf⟩ := fl3.2.2.1.mem hm
      rw [he3] at e'
      cases e'
      exact hnf _ hd3
    have nL : a ≠ X.env.locals := fun z => out (List.mem_filterMap.mpr ⟨X.env, List.mem_cons_self, hf.trans (congrArg some z.symm)⟩)
    have nF : a ∉ X.fs := fun hm => by
      obtain ⟨e, he, q⟩ := List.mem_filterMap.mp hm
      exact out (List.mem_filterMap.mpr ⟨e, List.mem_cons_of_mem _ he, q⟩)
    have gone : sI.heap.get? a = none := by
      cases q : sI.heap.get? a with
      | none => rfl
      | some o =>
        have h1 := nb a o q (by rw [hs]; exact out)
        rw [fl3.2.1] at h1
        cases h1
    have S3 := Inv.suite J3 he3 hd3 na nL nF
    refine wpAny_handleBy_cons (codeAny_handlers_test ?_) fun q => nomatch q
    have LT : PySem.W.Looks (model X.prog X.w) h3 (typeOf (.ref a)) cls := fun _ _ _ _ k q => wpAny_typeOf_ref (k _ _ he3) (hz3.1.symm ▸ q)
    have LM := PySem.W.exm_one (M := model X.prog X.w) (J3.kIn) LT hb1
    have named : ∀ {Q : Value → Shared → Prop} {E : Value → Shared → Prop}, Q c { s' with heap := h3 } → wpAny (model X.prog X.w) (X.A.mark (some (.ref a))) (eval (.Name x np) X.env) Q E { s' with heap := h3 } := fun {Q E} q => by
      obtain ⟨hg, hdbg, hm | ⟨hm, hv, hnn⟩⟩ := hc
      · exact ld_glob (X := Cx.suite X a ((a, oe3) :: (X.pn ++ pins))) S3 hg hm q hdbg
      · exact ld_blt (X := Cx.suite X a ((a, oe3) :: (X.pn ++ pins))) S3 hg hm hv q hnn hdbg
    refine named (LM.here ?_)
    match b, hyes, hno with
    | true, hyes, _ =>
      obtain ⟨C, dx, ec, ed, hyes⟩ := hyes rfl
      refine codeAny_handlers_suite_as (HandSPX.lands_againZ fl3 fun h4 fl4 up4 => ?_)
      have J4 : Inv X pins σ' H' { s' with heap := h4 } := Inv.landed J nb fl4.1 ((up.trans up3).trans up4) os ag
      obtain ⟨oe4, vs4, he4, hz4, hd4⟩ := fl4.there
      have S4 := Inv.suite J4 he4 hd4 na nL nF
      refine store_ok (X := Cx.suite X a ((a, oe4) :: (X.pn ++ pins))) (v := .ref a) S4 hN hi (Or.inl hln) rfl (fun s5 S5 => ?_) (Or.inr hln)
      refine wpAny_mono ((hsu a oe4 cls d (X.pn ++ pins) hz4 ⟨_, hd4⟩).run [] s5 _ H' _ S5 (hyes a na)) (fun f s6 hsp => ?_) fun _ _ z => False.elim z
      match f, hsp with
      | .next, ⟨σ6, H6, S6, q6⟩ =>
        obtain ⟨g6, n6, _⟩ := S6.pin (a, oe4) (List.mem_append_left _ List.mem_cons_self)
        have J6 : Inv X pins σ6 H6 s6 := Inv.unsuite S6 ok
        have s0 : X.s_0.heap.get? a = none := by
          cases q : X.s_0.heap.get? a with
          | none => rfl
          | some o =>
            obtain ⟨o', h1⟩ := J.base.there a o q (by rw [hx]; simp)
            rw [gone] at h1
            cases h1
        have away : ∀ p ∈ X.pn ++ pins, p.1 ≠ a := fun p hp q => by
          have h1 := (J.pin p hp).1
          rw [q, gone] at h1
          cases h1
        subst ec ed
        exact gone_ok (Inv.hold J6 n6 g6 hz4 hd4 s0 nL away) hN hi hln fun s7 J7 => ⟨_, _, J7, q6⟩
      | .brk, ⟨_, _, _, q6⟩ => exact False.elim q6
      | .cont, ⟨_, _, _, q6⟩ => exact False.elim q6
      | .ret u, ⟨_, _, _, _, _, q6⟩ => exact False.elim q6
    | false, _, hno =>
      show wpAny _ X.A (handleBy (.ref a) X.env []) (fun _ _ => _) _ _
      refine wpAny_handleBy_nil ?_
      obtain ⟨k1, k2, k3, oe, vs, T, oT, ts', he, hz, hd, h1, hr⟩ := id fl3
      unfold PySem.passOn
      refine wpAny_bind (wpAny_field he hd h1 ?_)
      rw [if_neg (show ¬ ((Value.ref T == Value.none) = true) from fun z => by simp at z)]
      have fly : wpAny (model X.prog X.w) X.A (setFlight (.ref a) X.env.frame) (fun _ s4 => wpAny (model X.prog X.w) X.A (throw (.ref a) : Sem Flow) (SP X pins D) X.xe s4) X.xe { s' with heap := h3 } := by
        rw [hf]
        exact HandSPX.setFlight_upZ fl3 fun h4 hh4 up4 => wpAny_throw (tk _ _ ⟨a, B, sI, pins, σ', H', cls, d, rfl, J, nb, (up.trans up3).trans up4, Or.inr (Or.inr (hs.symm ▸ hh4)), na, os, ag, hno rfl⟩)
      first
        | exact wpAny_bind (wpAny_pure (wpAny_bind fly))
        | exact wpAny_bind fly
  · intro f s1 hsp
    match f, hsp with
    | .next, ⟨σ', H', J', q⟩ => exact wpAny_execs_nil ⟨σ', H', Inv.ofTry J' ok, q⟩
    | .brk, ⟨σ', H', J', q⟩ => exact ⟨σ', H', Inv.ofTry J' ok, q⟩
    | .cont, ⟨σ', H', J', q⟩ => exact ⟨σ', H', Inv.ofTry J' ok, q⟩
    | .ret u, ⟨v, σ', H', J', r, q⟩ => exact ⟨v, σ', H', Inv.ofTry J' ok, r, q⟩
end
end Mv
end
section
set_option Elab.async false
set_option linter.all false
set_option maxRecDepth 100000
set_option maxHeartbeats 4000000
namespace Mv
open PySem PySem.Spec L2 PyProof.Rows
open Evl (Ex ex_l ex_t ex_rd)
/-! ## the same at data level -/
theorem exmB_ok {K : PySem.W.Frag} {C D : Addr} {b : Bool} (h : decide (PySem.W.exmOne K (.ref C) (.ref D) = some b) = true) : PySem.W.exmOne K (.ref C) (.ref D) = some b := of_decide_eq_true h
/-- f tells which classes the clause takes -/
def dTryK (f : Nat → Option Bool) (i j : Nat) (tb : DS) : DS := fun D sd W E2 => tb D sd W (fun ex sd' W' => sd'.length = sd.length → kExn ex fun c _ => kSome (f c) fun b => if b = true then D.nx ((sd'.set j (some ex)).set i none) W' else E2 ex sd' W')
section
variable {X : Cx} {S : Sy} {E : XS}
theorem sr_keep {F : Hp} {σ : L2.St} {sd : SD} {i j : Nat} {v r : V} {d : D} (ne : i ≠ j) (sr : SRel S F σ sd) (p : Rp S F v d) : SRel S F (((σ.set i (some r)).set j (some v)).set i none) ((sd.set j (some d)).set i none) := by
  refine ⟨by simp [sr.len], fun k e h => ?_⟩
  by_cases hk : k = i
  · subst hk
    by_cases l : k < (sd.set j (some d)).length
    · rw [List.getElem?_set_self l] at h
      cases h
    · rw [List.getElem?_eq_none (by simpa using l)] at h
      cases h
  · rw [List.getElem?_set_ne (Ne.symm hk)] at h ⊢
    have z := (sr.set (i := j) p).at_ k e h
    obtain ⟨u, h1, h2⟩ := z
    refine ⟨u, ?_, h2⟩
    by_cases hj : k = j
    · subst hj
      by_cases l : k < σ.length
      · rw [List.getElem?_set_self l] at h1
        rw [List.getElem?_set_self (by simpa using l)]
        exact h1
      · rw [List.getElem?_eq_none (by simpa using l)] at h1
        cases h1
    · rw [List.getElem?_set_ne (Ne.symm hj)] at h1
      rw [List.getElem?_set_ne (Ne.symm hj), List.getElem?_set_ne (Ne.symm hk)]
      exact h1
theorem psd_tryK {CS : Addr} {f : Nat → Option Bool} {x n m : Str} {i j : Nat} {body : List Stmt} {t : DS} {np mp vp ap pos' pos : Pos} (hK : X.K = S.K) (hx : X.ex = []) (hs : X.stack = X.env :: X.outer) (hf : X.env.frame = some X.env.locals) (hN : X.N.Nodup) (tk : Takes X E)
    (hm : X.mg x = some (.ref CS)) (hq : ∀ c b, f c = some b → PySem.W.exmOne S.K (.ref (S.ca c)) (.ref CS) = some b)
    (hb : ∀ (W : XS) (pn : List (Addr × Obj)) (xe : Value → Shared → Prop), Takes (X.tr pn xe) W → PassesOwn (model X.prog X.w) X.A X.env xe → PBd (X.tr pn xe) S W body t)
    (ne : i ≠ j := by decide) (hi : X.N[i]? = some n := by rfl) (hj : X.N[j]? = some m := by rfl) (hln : X.env.kindOf n = some .local := by rfl) (hlm : X.env.scope.names.lookup m = some .local := by rfl) (hg : Gl X x := by rfl) (hdx : (x == ("__debug__" : Str)) = false := by decide)
    (hd : (n == ("__debug__" : Str)) = false := by decide) (hcd : (n == ("__classdict__" : Str)) = false := by decide) (hv : Vis X.env.scope n := by first | exact Or.inl rfl | exact Or.inr (Or.inl rfl)) :
    PSd X S E (.Try body [.ExceptHandler (some (.Name x np)) (some n) [.Assign [.Name m mp] (.Name n vp) ap] pos'] [] [] pos) (dTryK f i j t) := by
  refine ⟨fun pins s σ H F sd W D2 E2 I rl sr xc h => thn ((ps_keep (pos := pos) (np := np) (pos' := pos') hx hs hf hN hi hln ⟨hg, hdx, .inl hm⟩ tk (fun W pn xe tk' po => (hb W pn xe tk' po).pss) (fun a oe cls d pn z dd => pss_one (ps_set (X := Cx.suite X a ((a, oe) :: pn)) (i := j) hN hj (.inl hlm) (pe_var (X := Cx.suite X a ((a, oe) :: pn)) (i := i) hi hv hd hcd) rfl (.inr hlm)))).run pins s σ H (tkE S F D2) I ?_) fun u s' z => SP.tk z⟩
  refine ⟨F, sd, W, D2, _, rl, sr, ⟨fun F' σ' sd' W' H' e r sr q => ⟨F', sd', W', e, r, sr, q⟩, fun F' v d W' H' e r p q => ⟨F', d, W', e, r, p, q⟩, fun F' σ' sd' W' H' e r sr q => ⟨F', sd', W', e, r, sr, q⟩, fun F' σ' sd' W' H' e r sr q => ⟨F', sd', W', e, r, sr, q⟩⟩, fun F' dx vs c fs σ' sd' W' H' e rl' sr' hd' rf q hL => ?_, h⟩
  have q := q (by rw [← sr'.len, hL, ← I.len, sr.len])
  have hl : i < σ'.length := by rw [hL]; exact (List.getElem?_eq_some_iff.mp hi).1
  obtain ⟨b, hb', q⟩ := (show kSome (f c) _ from q).inv
  refine ⟨b, by rw [hK]; exact hq c b hb', fun eb => ?_, fun eb => ?_⟩
  · refine ⟨S.ca c, dx, rfl, rfl, fun a na => ?_⟩
    rw [if_pos eb] at q
    refine ⟨.ref a, List.getElem?_set_self hl, ?_⟩
    have ee := Ex.new (o := exK a (S.ca c) dx) (rl'.nf na)
    have nd : dx ≠ a := fun z => by
      have h1 := rl'.sub _ _ hd'
      rw [z, na] at h1
      cases h1
    have rp : Rp S (upd F' a (exK a (S.ca c) dx)) (.ref a) (.exn c fs) := .exn upd_same (by rw [upd_ne nd]; exact hd') (rf.mono ee)
    exact ⟨_, _, W', e.trans ee, rl'.newF na (fun _ z => by unfold exK at z; cases z), sr_keep ne (sr'.mono ee) rp, q⟩
  · rw [if_neg (by rw [eb]; simp)] at q
    exact xc F' dx vs c fs σ' sd' W' H' e rl' sr' hd' rf q
end
end Mv
end
section
set_option Elab.async false
set_option linter.all false
set_option maxRecDepth 100000
set_option maxHeartbeats 4000000
namespace Mv
open PySem PySem.Spec L2 PyProof.Rows
open Evl (Ex ex_l ex_t ex_rd)
open LamX (CodeO Tabs ExtN TabB LamS GivesTo lamCx lamEnv tLam)
/-! ## x(lambda: ..) -/
/-- what a lambda does: the world, what is wanted of its value, of its exception -/
abbrev LD := Wd → QD → QD → Prop
def LamOk (S : Sy) (F : Hp) (td : LD) (tl : XK → Hp → VK → Prop) : Prop := ∀ F' W' H' (Q2 : QD) (Q : VK) (Ex2 : QD) (E : XK), Ex F F' → Rel S F' W' H' → QCv S F' Q2 Q → XC0 S F' Ex2 E → td W' Q2 Ex2 → tl E H' Q
theorem LamOk.mono {S : Sy} {F F' : Hp} {td : LD} {tl : XK → Hp → VK → Prop} (h : LamOk S F td tl) (e : Ex F F') : LamOk S F' td tl := fun F2 W' H' Q2 Q Ex2 E e2 => h F2 W' H' Q2 Q Ex2 E (e.trans e2)
/-- what the def makes of it -/
def upLm (S : Sy) (hd : LD → Wd → QD → Prop) : (XK → Hp → VK → Prop) → Hp → VK → Prop := fun tl H Q => ∃ F W Q2 td, Rel S F W H ∧ QCv S F Q2 Q ∧ LamOk S F td tl ∧ hd td W Q2
/-- a(), within the def -/
def dAct (f c : Addr) (q : Str) (F0 : Hp) (td : LD) : DE := fun sd W Q E2 => sd[0]? = some (some (.lam f c q F0)) ∧ td W Q (fun ex W' => ∀ n, E2 ex (List.replicate n none) W')
theorem rel_ext {S : Sy} {F : Hp} {W : Wd} {H H1 : Hp} (rl : Rel S F W H) (e : ExtN H H1) (t : Tabs S.T H1) : Rel S F W H1 := by
  refine ⟨fun b o h => e b o (rl.sub b o h) fun ps z => rl.nt b ps (by rw [h, z]), fun a m h => ?_, t, rl.nt⟩
  obtain ⟨f0, mo⟩ := rl.obj a m h
  obtain ⟨o0, ho, n1, _⟩ := mo.at_
  refine ⟨f0, ?_⟩
  rw [e a o0 ho n1, ← ho]
  exact mo
section
variable {X : Cx} {S : Sy} {E : XS}
/-- the lambda's code object, known from now on -/
theorem rel_code {F : Hp} {W : Wd} {H : Hp} {c : Addr} {q : Str} (rl : Rel S F W H) (h : H c = some (CodeO c q)) : Ex F (upd F c (CodeO c q)) ∧ Rel S (upd F c (CodeO c q)) W H := by
  have nt : ∀ ps, CodeO c q ≠ .tbl ps := fun ps => LamX.codeO_ne ps
  have ee : Ex F (upd F c (CodeO c q)) := fun b o e => by
    by_cases z : b = c
    · subst z
      have h1 := rl.sub _ _ e
      rw [h] at h1
      rw [upd_same]
      exact h1
    · rw [upd_ne z]
      exact e
  refine ⟨ee, fun b o e => ?_, fun a m e => ?_, rl.tab, nt_upd rl.nt nt⟩
  · by_cases z : b = c
    · subst z
      rw [upd_same] at e
      rw [← e]
      exact h
    · rw [upd_ne z] at e
      exact rl.sub b o e
  · obtain ⟨f0, mo⟩ := rl.obj a m e
    have z : a ≠ c := fun z => by
      obtain ⟨o0, ho, _, n2⟩ := mo.at_
      rw [z, h] at ho
      have := Option.some.inj ho
      unfold CodeO at this
      exact n2 _ this.symm
    rw [upd_ne z]
    exact ⟨f0, mo.mono ee⟩
/-- the def's promise, from its body's derivation -/
theorem gives_of {Ng : List Str} {x : Str} {sg : Scope} {g : Addr} {cdg : Value} {bg : List Stmt} {a q : Str} {hd : LD → Wd → QD → Prop} {t : Addr → Addr → Hp → LD → DS}
    (hb : ∀ (f c : Addr) (F0 : Hp) (td : LD) (s : Shared) (H : Hp),
      (∀ (W : XS) (pn : List (Addr × Obj)) (xe : Value → Shared → Prop) (p1 p2 : Pos), Takes ((cxOf C8.CX0 X.prog X.w X.K X.mg X.base Ng x sg g cdg X.A X.stack s H C8.E0).tr pn xe) W →
        PD ((cxOf C8.CX0 X.prog X.w X.K X.mg X.base Ng x sg g cdg X.A X.stack s H C8.E0).tr pn xe) S W (.Call (.Name a p1) [] [] p2) (dAct f c q F0 td)) →
      PBd (cxOf C8.CX0 X.prog X.w X.K X.mg X.base Ng x sg g cdg X.A X.stack s H C8.E0).nox S (fun _ _ _ _ => False) bg (t f c F0 td))
    (hD : ∀ f c F0 td W Q2, hd td W Q2 → t f c F0 td { nx := fun _ W => Q2 .non W, rt := Q2 } (startD Ng [.lam f c q F0]) W (fun _ _ _ => False)) : GivesTo X Ng x sg g cdg bg a q (upLm S hd) := by
  intro f c' s H Q tl act hc h
  obtain ⟨F, W, Q2, td, rl, qc, lo, h⟩ := h
  obtain ⟨ee, rl1⟩ := rel_code rl hc
  refine ⟨_, (hb f c' (upd F c' (CodeO c' q)) td s H fun W pn xe p1 p2 tk => ?_).pss, upd F c' (CodeO c' q), startD Ng [.lam f c' q _], W, { nx := fun _ W => Q2 .non W, rt := Q2 }, fun _ _ _ => False, rl1, start_rel (.cons (.lam upd_same fun _ _ z => z) .nil),
    ⟨fun F' σ' sd' W' H' e r sr q => qc F' .non .non W' H' (ee.trans e) r .non q, fun F' v d W' H' e r p q => qc F' v d W' H' (ee.trans e) r p q, fun _ _ _ _ _ _ _ _ z => (z : False).elim, fun _ _ _ _ _ _ _ _ z => (z : False).elim⟩, fun _ _ _ _ _ _ _ _ _ _ _ _ _ _ z => z, hD f c' _ td W Q2 h⟩
  refine ⟨fun pins s1 σ H1 F1 sd W1 Q3 E3 I rl2 sr xc z => ?_⟩
  obtain ⟨h0, z⟩ := z
  obtain ⟨v, hv, rp⟩ := sr.at_ 0 _ h0
  cases rp with
  | lam k1 k2 =>
    have run := (act W pn xe (fun cls d H' => ∃ F' dx vs k fs W', Ex F1 F' ∧ Rel S F' W' H' ∧ F' dx = some (.xd vs) ∧ Rpf S F' vs fs ∧ cls = .ref (S.ca k) ∧ d = some dx ∧ ∀ n, E3 (.exn k fs) (List.replicate n none) W') p1 p2 tk ?_).run pins s1 σ H1 (tkQ S F1 Q3) I ?_
    · exact thn run fun u s' z => EP.tk z
    · rintro cls d σ' H' ⟨F', dx, vs, k, fs, W', e, r, hx, rf, rfl, rfl, q⟩
      exact xc F' dx vs k fs σ' (List.replicate σ'.length none) W' H' e r ⟨by simp, fun i d h => by
        rw [List.getElem?_replicate] at h
        split at h <;> cases h⟩ hx rf (q _)
    · refine ⟨hv, rl2.sub _ _ k1, lo F1 W1 H1 Q3 (tkQ S F1 Q3) _ _ (ee.trans k2) rl2 tkQ_cv ?_ z⟩
      exact fun F' dx vs k fs W' H' e r hx rf q => ⟨F', dx, vs, k, fs, W', e, r, hx, rf, rfl, rfl, q⟩
end
end Mv
end
section
set_option Elab.async false
set_option linter.all false
set_option maxRecDepth 100000
set_option maxHeartbeats 4000000
namespace Mv
open PySem PySem.Spec L2 PyProof.Rows
open Evl (Ex ex_l ex_t ex_rd)
open LamX (CodeO Tabs ExtN TabB LamS GivesTo lamCx lamEnv tLam)
def dLam (hd : LD → Wd → QD → Prop) (tb : DE) : DE := fun sd W Q _ => hd (fun W' Q' Ex' => tb sd W' Q' (fun ex _ W'' => Ex' ex W'')) W Q
section
variable {X : Cx} {S : Sy} {E : XS} {k : Nat}
theorem pd_lam {hd : LD → Wd → QD → Prop} {tb : DE} {x a : Str} {g c P : Addr} {pg : Arguments} {bg : List Stmt} {sg : Scope} {kws : List (Str × V)} {fd : FuncData} {Ng : List Str} {params : Arguments} {body : Expr} {scope : Scope} {p lpos pos : Pos}
    (hK : X.K = S.K) (hr : Room (k + 2) X.A) (hm : X.mg x = some (.ref g)) (Fg : FunD S.K x x pg bg sg [] kws g fd) (Sg : FnScope Ng [a] sg) (hNg : Ng[0]? = some a) (hva : Vis sg a)
    (hbg : ∀ (kV doc pm : Value) (an : Option Addr) (cdv ct : Value) (us : List Value), us.length = ([a] : List Str).length → bindArgs (PySem.W.fnOf x x pg bg sg .none kV doc pm an cdv ct) ⟨us, []⟩ = pure (([a] : List Str).zip us))
    (hG : ∀ cdg, GivesTo X Ng x sg g cdg bg a (X.env.qual ++ "<lambda>") (upLm S hd))
    (TB : TabB X.base X.mg c P) (hcode : X.env.code = .ref c) (hmT : (P, X.env.qual ++ "<lambda>") ∈ S.T) (hu : ∀ p ∈ S.T, p.1 = P → p.2 = X.env.qual ++ "<lambda>")
    (hbody : ∀ (A : Around) (outer : List Env) (s : Shared) (H : Hp) (E : XK) (f c' : Addr), Room k (A.deeper (lamEnv X scope s.heap.objs.size f c')) → Takes (lamCx X A outer s H E scope f c') (fun cls d _ H => E cls d H) → PD (lamCx X A outer s H E scope f c') S (fun cls d _ H => E cls d H) body tb)
    (L : LamS X.env.scope scope := by exact LamX.lamS_by (by decide +kernel)) (hdef : defaultsOf params X.env = ([], []) := by rfl)
    (hbind : ∀ (q : Str) (cl : List (Str × Addr)) (pm cv ctv : Value), bindArgs (PySem.W.kla_fn "<lambda>" q params body scope cl pm cv ctv) ⟨[], []⟩ = pure [] := by intros; rfl) (hg : Gl X x := by rfl)
    (hdb : (x == ("__debug__" : Str)) = false := by decide) (hd0 : (a == ("__debug__" : Str)) = false := by decide) (hcd : (a == ("__classdict__" : Str)) = false := by decide) :
    PD X S E (.Call (.Name x p) [.Lambda params body scope lpos] [] pos) (dLam hd tb) := by
  have bn := Fg.bindsN hbg
  have kp := Fg.kp
  obtain ⟨oc, od, dV, kV, doc, pm, an, cdv, ct, osl, rfl, lk, hcg, _, _⟩ := Fg.ex
  rw [← hK] at bn kp lk hcg
  refine PE.pd (LamX.pe_lamcall (t := fun E => upE S (fun cls d _ H => E cls d H) tb) hg hm kp lk hcg bn Sg hNg hva (hG cdv) TB hcode hmT hu hr L hdef hbind (fun A outer s H E f c' hr' => (hbody A outer s H E f c' hr' (takes_of rfl rfl rfl rfl)).pe) hdb hd0 hcd) fun σ H F sd W Q2 E2 rl sr xc h => ?_
  refine ⟨rl.tab, fun H1 e t1 => ⟨F, W, Q2, _, rel_ext rl e t1, tkQ_cv, ?_, h⟩⟩
  exact fun F' W' H' Q3 Q Ex3 E3 ee rl' qc xc' z => ⟨F', sd, W', Q3, _, rl', sr.mono ee, qc, fun F2 dx vs c fs σ' sd' W2 H2 e2 r2 s2 hx rf q => xc' F2 dx vs c fs W2 H2 e2 r2 hx rf q, z⟩
end
end Mv
end
section
set_option Elab.async false
set_option linter.all false
set_option maxRecDepth 100000
set_option maxHeartbeats 4000000
namespace Mv
open PySem PySem.Spec L2 PyProof.Rows
open Evl (Ex ex_l ex_t ex_rd)
open LamX (CodeO Tabs TabS ExtN TabB)
/-! ## defs that hold lambdas: their code objects, the tables of these -/
def codeV (K : PySem.W.Frag) (f : Addr) : Value := match K.lookup f with
  | some o => (match o.data with
    | .func fd => fd.code
    | _ => .none)
  | none => .none
def codeA (K : PySem.W.Frag) (f : Addr) : Addr := match codeV K f with
  | .ref c => c
  | _ => 0
def tabA (K : PySem.W.Frag) (f : Addr) : Addr := match K.lookup (codeA K f) with
  | some o => (match o.data with
    | .fields vs => (match vs[11]? with
      | some (Value.ref P) => P
      | _ => 0)
    | _ => 0)
  | none => 0
def lamB (K : PySem.W.Frag) (f : Addr) : Bool := (match codeV K f with
  | .ref _ => true
  | _ => false) && (match K.lookup (codeA K f) with
  | some o => (match o.data with
    | .fields vs => (match vs[11]? with
      | some (Value.ref P) => (K.lookup P).isNone
      | _ => false)
    | _ => false)
  | none => false)
theorem lamB_ok {K : PySem.W.Frag} {f : Addr} (h : lamB K f = true) : codeV K f = .ref (codeA K f) ∧ K.lookup (tabA K f) = none ∧ ∃ (o : Obj) (vs : Array Value), K.lookup (codeA K f) = some o ∧ o.data = .fields vs ∧ vs[11]? = some (.ref (tabA K f)) := by
  obtain ⟨h1, h2⟩ := He.ba h
  refine ⟨?_, ?_⟩
  · split at h1
    · rename_i c e
      show codeV K f = .ref (codeA K f)
      unfold codeA
      rw [e]
    · cases h1
  · split at h2
    · rename_i o e
      split at h2
      · rename_i vs ed
        split at h2
        · rename_i P ep
          have et : tabA K f = P := by
            unfold tabA
            rw [e]
            simp only [ed, ep]
          rw [et]
          exact ⟨Option.isNone_iff_eq_none.mp h2, o, vs, e, ed, ep⟩
        · cases h2
      · cases h2
    · cases h2
theorem codeV_at {K : PySem.W.Frag} {f : Addr} {o : Obj} {fd : FuncData} (e : K.lookup f = some o) (d : o.data = .func fd) : codeV K f = fd.code := by
  unfold codeV
  rw [e]
  simp only [d]
/-- THE RULE for a def that holds lambdas -/
theorem fnL_of {P : Program} {w : World} {S : Sy} {mg : Str → Option Value} {base : Heap} {x qual : Str} {params : Arguments} {body : List Stmt} {scope : Scope} {dvs : List V} {kws : List (Str × V)} {f : Addr} {fd : FuncData} {N ps : List Str} {k : Nat} {sp2 : DSp} {t : DS}
    (Fd : FunD S.K x qual params body scope dvs kws f fd) (Sc : FnScope N ps scope) (len : ∀ ds W Q E, sp2 ds W Q E → ds.length = ps.length)
    (hbody : ∀ (cdv : Value) (A : Around) (outer : List Env) (s : Shared) (H : Hp) (E : XK), codeV S.K f = cdv → Room k (A.deeper (envOfC qual scope s.heap.objs.size f cdv)) →
      Takes (cxOf (L2.CX P w) P w S.K mg base N qual scope f cdv A outer s H E) (fun cls d _ H => E cls d H) → PBd (cxOf (L2.CX P w) P w S.K mg base N qual scope f cdv A outer s H E) S (fun cls d _ H => E cls d H) body t)
    (hD : ∀ ds W Q2 E2, sp2 ds W Q2 E2 → t { nx := fun _ W => Q2 .non W, rt := Q2 } (startD N ds) W (fun x _ W => E2 x W)) : FnOk P w S.K mg base (L2.CX P w) (k + 1) f fd ps (upSp S sp2) := by
  obtain ⟨oc, od, dV, kV, doc, pm, an, cdv, ct, osl, rfl, lk, hcd, _, _⟩ := Fd.ex
  refine fn_of lk hcd Sc (fun vs H Q E h => ?_) fun A outer s H vs Q E hr h => ?_
  · obtain ⟨F, W, ds, Q2, E2, _, rp, _, _, q⟩ := h
    exact rp.length.trans (len _ _ _ _ q)
  · have tk : Takes (cxOf (L2.CX P w) P w S.K mg base N qual scope f cdv A outer s H E) (fun cls d _ H => E cls d H) := takes_of rfl rfl rfl rfl
    obtain ⟨F, W, ds, Q2, E2, rl, rp, qc, xc, q⟩ := h
    exact ⟨_, (hbody cdv A outer s H E (codeV_at lk rfl) hr tk).pss, F, startD N ds, W, _, _, rl, start_rel rp, ⟨fun F' σ' sd' W' H' e r sr q => qc F' .non .non W' H' e r .non q, fun F' v d W' H' e r p q => qc F' v d W' H' e r p q, fun _ _ _ _ _ _ _ _ z => (z : False).elim, fun _ _ _ _ _ _ _ _ z => (z : False).elim⟩,
      fun F' dx vs c fs σ' sd' W' H' e r sr hx rf q => xc F' dx vs c fs W' H' e r hx rf q, hD ds W Q2 E2 q⟩
/-- the name that a def's lambdas bear -/
def lamQ (qual : Str) (scope : Scope) : Str := (envOfC qual scope 0 0 .none).qual ++ "<lambda>"
theorem tab_uniq : ∀ {T : List (Addr × Str)} {P : Addr} {q : Str}, (T.map (·.1)).Nodup → (P, q) ∈ T → ∀ p ∈ T, p.1 = P → p.2 = q
  | [], _, _, _, h, _, _, _ => by cases h
  | t :: T, P, q, nd, h, p, hp, e => by
    rw [List.map_cons, List.nodup_cons] at nd
    rcases List.mem_cons.mp h with h1 | h1
    · subst h1
      rcases List.mem_cons.mp hp with rfl | hp
      · rfl
      · exact absurd (List.mem_map.mpr ⟨p, hp, e⟩) nd.1
    · rcases List.mem_cons.mp hp with rfl | hp
      · exact absurd (show p.1 ∈ T.map (·.1) from List.mem_map.mpr ⟨(P, q), h1, e.symm⟩) nd.1
      · exact tab_uniq nd.2 h1 p hp e
/-- the tables at the start: empty -/
theorem tabs_nil {T : List (Addr × Str)} {H : Hp} (h : ∀ p ∈ T, H p.1 = some (.tbl #[])) : Tabs T H := fun p hp => TabS.nil (h p hp)
/-- the head's objects, without the code objects' tables, which change -/
def isTab (o : Obj) : Bool := match o.cls, o.data with
  | .none, .fields vs => vs.size == 0
  | _, _ => false
def asMT (g : Addr → Option Obj) (n : Nat) : List Addr := (He5.asA g n).filter fun a => match g a with
  | some o => !isTab o
  | none => true
def obsMT (n : Nat) (mf : List (PySem.W.Frag → Bool)) (fn : List He5.DefA) (g : Addr → Option Obj) : He.AlD := obsM mf fn (He.frG g (asMT g n))
def hookMT (n : Nat) (mf : List (PySem.W.Frag → Bool)) (fn : List He5.DefA) : PySem.W.Hook where
  α := He.AlD
  obs := fun s => obsMT n mf fn s.heap.get?
  val := fun _ => He5.valA fn
  says := fun _ h => ∃ K : PySem.W.Frag, K.In h ∧ SaysM mf fn K
  of := fun _ _ e => ⟨_, He.frG_in, e⟩
  keeps := fun _ _ _ ⟨K, hK, c⟩ k => ⟨K, PySem.W.Frag.In.keeps hK k, c⟩
theorem obsMT_eq {n : Nat} {mf : List (PySem.W.Frag → Bool)} {fn : List He5.DefA} {g : Addr → Option Obj} {s : Shared} (h : ∀ a, g a = s.heap.get? a) : obsMT n mf fn g = (hookMT n mf fn).obs s := by
  have e : g = s.heap.get? := funext h
  rw [e] <;> rfl
theorem walk_ofT {l : PySem.W.OpenLaw} {n k : Nat} {q : Program} {loose : List Str} {XP : (Str → Option Value) → Heap → Prop} {YP : World → Heap → Prop} {d : DefRec} {x : Str}
    (hn : l.most = some n) (hn2 : n ≤ sizeLine) (hdf : d.params.defaults = []) (hr : Room k callerA)
    (F : ∀ (w : World) (mg : Str → Option Value) (fa : Addr) (h : Heap), YP w h → h.Ns mainGlobals mg → mg d.name = some (.ref fa) →
      ∃ (K : PySem.W.Frag) (fd : FuncData) (sp : Sp) (nms : List (Str × Addr)), K.In h ∧ (∀ (s : Shared) (u : Value), BindsTo s fd ⟨[u], []⟩ [(x, u)]) ∧
        (∀ p ∈ nms, ((recsOf q).any fun e => e.name == p.1) = true ∧ mg p.1 = some (.ref p.2) ∧ (∃ o fd, K.lookup p.2 = some o ∧ o.data = .func fd) ∧ lamB K p.2 = true) ∧
        (∀ (H : Hp) (a : Addr) (ns : List Int), ns.length ≤ n → (∀ p ∈ nms, H (tabA K p.2) = some (.tbl #[])) → SqL K H a (ns.map V.int) → sp [.ref a] H (fun v _ => v = .bl true) fun _ _ _ => False) ∧
        ∀ base : Heap, K.In base → base.Ns mainGlobals mg → (∀ p ∈ nms, TabB base mg (codeA K p.2) (tabA K p.2)) → FnOk l.prog w K mg base (L2.CX l.prog w) k fa fd [x] sp) :
    PySem.W.WalkO q loose XP YP l.row.toRowW d [] (fun f vs => PySem.call f vs) := by
  refine Att.attach_callB hn hdf fun w s₀ s₁ mg mb fa o pm cd doc a vs ns G Y ho hd hcd hmg hobj hints hlen hbits hg => ?_
  obtain ⟨K, fd, sp, nms, KX, hb, tn, hsp, hF⟩ := F w mg fa _ Y G.T.g hmg
  have at_ : ∀ p ∈ nms, K.lookup (tabA K p.2) = none ∧ PySem.W.CodeHd s₁.heap (codeA K p.2) (tabA K p.2) ∧ s₁.heap.get? (tabA K p.2) = some { cls := .none, data := .fields #[] } := fun p hp => by
    obtain ⟨h1, h2, ⟨of, ff, k1, k2⟩, h3⟩ := tn p hp
    obtain ⟨c1, c2, oc, vc, c3, c4, c5⟩ := lamB_ok h3
    obtain ⟨dL, hm, hn1⟩ := List.any_eq_true.mp h1
    obtain ⟨a', o', fd', c', P', g1, g2, g3, g4, g5, g6⟩ := G.T.tab dL hm
    rw [beq_iff_eq.mp hn1, h2] at g1
    cases g1
    rw [KX _ _ k1] at g2
    cases g2
    rw [k2] at g3
    cases g3
    have ec : codeA K p.2 = c' := by
      have e1 := c1
      rw [codeV_at k1 k2, g4] at e1
      exact (Value.ref.inj e1).symm
    rw [ec] at c3 ⊢
    obtain ⟨⟨o2, v2, e1, e2, e3, e4⟩, hP⟩ := id g6
    rw [KX _ _ c3] at e1
    cases e1
    have ep : tabA K p.2 = P' := by
      have z := e3
      rw [c4] at z
      cases z
      rw [c5] at e4
      exact Value.ref.inj (Option.some.inj e4)
    rw [ep] at c2 ⊢
    exact ⟨c2, PySem.W.CodeHd.of g5 g6, hP⟩
  refine LamX.law_callTs (cs := nms.map fun p => (codeA K p.2, tabA K p.2)) KX G.T.g G.T.b G.T.builtins G.T.nolimit hg (fun p hp => ?_) (fun p hp => ?_) (fun p hp => ?_) G.T.bmain hobj hints (Nat.le_trans hlen hn2) hr (fun base h1 h2 h3 => hF base h1 h2 fun p hp => h3 _ (List.mem_map.mpr ⟨p, hp, rfl⟩)) hb (fun H hH hS => hsp H a ns hlen (fun p hp => hH _ (List.mem_map.mpr ⟨p, hp, rfl⟩)) hS) fun H e s' h => ?_
  · obtain ⟨z, hz, rfl⟩ := List.mem_map.mp hp
    exact (at_ z hz).2.2
  · obtain ⟨z, hz, rfl⟩ := List.mem_map.mp hp
    exact (at_ z hz).1
  · obtain ⟨z, hz, rfl⟩ := List.mem_map.mp hp
    exact (at_ z hz).2.1
  · obtain ⟨_, _, _, _, _, _, _, _, _, _, _, _, w⟩ := h
    exact w
end Mv
end
section
set_option Elab.async false
set_option linter.all false
set_option maxRecDepth 100000
set_option maxHeartbeats 4000000
namespace Mv
open PySem PySem.Spec L2 PyProof.Rows
open Evl (Ex ex_l ex_t ex_rd)
/-! ## name op= e, of instances of a class without the in-place method -/
section
open PySem.W
variable {K : PySem.W.Frag} {C : Addr}
theorem noFillsI {M : Model} {h : Heap} {cd : ClassData} {nm : String} {add : Bool} (X : K.In h) (hc : clsIn K C = some cd) (hm : cd.mro = [.ref C, .type "object"]) (h1 : findIn K (.ref C) (dunderI nm) = some none) (h2 : findIn K (.type "object") (dunderI nm) = some none) : Looks M h (fillsInplaceSlot (.ref C) nm add) false := by
  intro A Q E s k q
  have Lm : Looks M h (mroOf (.ref C)) cd.mro := (looks_clsIn X hc).andThen (f := fun cd => pure cd.mro) .now
  have X' : K.In s.heap := X.keeps k
  unfold fillsInplaceSlot
  refine wpAny_bind (Lm A _ E s k ?_)
  rw [hm, List.anyM_cons]
  refine wpAny_bind (wpAny_bind (looks_findIn X h1 A _ E s k ?_))
  refine wpAny_pure ?_
  rw [if_neg Bool.false_ne_true, List.anyM_cons]
  refine wpAny_bind (wpAny_bind (looks_findIn X h2 A _ E s k ?_))
  refine wpAny_pure ?_
  rw [if_neg Bool.false_ne_true, List.anyM_nil]
  exact wpAny_pure q
theorem inplace_K {prog : Program} {w : World} {op : Operator} {A : Around} {E : Value → Shared → Prop} {s : Shared} {h₀ : Heap} {L x f : Addr} {m : Str → Option Value} {ox : Obj} {od : Option Obj} {b : Value} {Q : Value → Shared → Prop} {cd : ClassData} (F : Fr h₀ L s.heap m) (X₀ : K.In h₀) (I : PySem.W.InstAt s.heap x ox C od)
    (hb : Looks (model prog w) s.heap (typeOf b) (.ref C)) (hcd : clsIn K C = some cd) (hm : cd.mro = [.ref C, .type "object"]) (hs : findIn K (.ref C) (PySem.dunder op.info.2) = some (some (.ref f))) (hf : isFn K (.ref f) = true)
    (h1 : findIn K (.ref C) (dunderI op.info.2) = some none) (h2 : findIn K (.type "object") (dunderI op.info.2) = some none)
    (h : wpAny (model prog w) A (call (.ref f) [.ref x, b]) (PySem.W.CmpBack Q) E s) : wpAny (model prog w) A (inplaceOp op (.ref x) b) Q E s := by
  have X := X₀.keeps F.keep
  unfold inplaceOp
  refine wpAny_holding (wpAny_bind (I.type.here (wpAny_bind ((noFillsI X hcd hm h1 h2).here ?_))))
  rw [if_neg Bool.false_ne_true]
  refine wpAny_bind ?_
  unfold binaryOp1
  refine wpAny_bind (I.type.here (wpAny_bind (hb.here (wpAny_bind ((fills_K X hcd hm hs).here ?_)))))
  simp only [beq_self_eq_true, if_true]
  refine wpAny_bind (wpAny_pure ?_)
  simp only [Bool.and_false, Bool.false_eq_true, if_false, Bool.false_and]
  refine wpAny_bind (wpAny_pure ?_)
  simp only [Bool.false_eq_true, if_false]
  refine wpAny_bind (m := tryMethod (.ref x) _ b) ?_
  unfold tryMethod
  refine wpAny_bind (special_fn X I hs (beq_iff_eq.mp hf) (wpAny_mono h (fun v s' hv => ?_) fun _ _ e => e))
  cases v <;> first | exact hv.elim | exact wpAny_pure (wpAny_pure (wpAny_pure hv))
end
/-- the class stands right below object -/
structure IpF (S : Sy) (c : Nat) (nm : String) : Prop where
  cl : ∃ cd, PySem.W.clsIn S.K (S.ca c) = some cd ∧ cd.mro = [.ref (S.ca c), .type "object"]
  h1 : PySem.W.findIn S.K (.ref (S.ca c)) (PySem.dunderI nm) = some none
  h2 : PySem.W.findIn S.K (.type "object") (PySem.dunderI nm) = some none
def ipB (K : PySem.W.Frag) (C : Addr) (nm : String) : Bool := (match PySem.W.clsIn K C with
  | some cd => (match cd.mro with
    | [.ref c, .type t] => c == C && t == "object"
    | _ => false)
  | none => false) && (He.eqO (PySem.W.findIn K (.ref C) (PySem.dunderI nm)) (some none) && He.eqO (PySem.W.findIn K (.type "object") (PySem.dunderI nm)) (some none))
theorem ipB_ok {S : Sy} {c : Nat} {nm : String} (h : ipB S.K (S.ca c) nm = true) : IpF S c nm := by
  obtain ⟨h1, h⟩ := He.ba h
  obtain ⟨h2, h3⟩ := He.ba h
  refine ⟨?_, He.eqO_ok h2, He.eqO_ok h3⟩
  split at h1
  · rename_i cd e
    split at h1
    · rename_i c' t hm
      obtain ⟨e1, e2⟩ := He.ba h1
      have e1 := beq_iff_eq.mp e1
      have e2 := beq_iff_eq.mp e2
      subst e1 e2
      exact ⟨cd, e, hm⟩
    · cases h1
  · cases h1
def rIpS (M : Mts) : D2 := fun c d sd W Q E2 => kIns W c fun j _ => j ∈ M.l ∧ tkD W d = some (.own j) ∧ dfl (M.n j) (M.dd j) [c, d] fun ds => M.sp j ds W Q (fun x W' => E2 x sd W')
def dAug (i : Nat) (r : D2) (t : DE) : DS := fun D sd W E2 => ∃ c, sd[i]? = some (some c) ∧ t sd W (fun d W1 => r c d sd W1 (fun z W2 => D.nx (sd.set i (some z)) W2) E2) E2
section
variable {X : Cx} {S : Sy} {E : XS} {k : Nat}
theorem tyD_own {W : Wd} {d : D} {j : Nat} (h : tkD W d = some (.own j)) : tyD S W d = some (.ref (S.ca j)) := by
  cases d with
  | ptr a =>
    cases e : W a with
    | none => simp only [tkD, e] at h; cases h
    | some m =>
      simp only [tkD, e] at h
      cases m <;> cases h
      simp only [tyD, e]
  | ins c fs => cases h; rfl
  | _ => cases h
theorem ip_own {op : Operator} {M : Mts} {m : Str} (hK : X.K = S.K) (tk : Takes X E) (hr : Room (k + 1) X.A) (hM : M.ok X S k m) (hm : PySem.dunder op.info.2 = m) (hF : ∀ c, c ∈ M.l → IpF S c op.info.2) : OpD X S E (inplaceOp op) (rIpS M) := by
  intro pins s σ H F sd W x y c d v u Q2 E2 I rl sr xc rx ry px py h
  obtain ⟨a, dx, vs, j, fs, ex, ea, rf, hj, ht, hsp⟩ := kIns.at rl px h
  subst ex
  obtain rfl : v = Value.ref a := rx
  obtain ⟨cl, f, mt, G⟩ := hM j hj
  obtain ⟨⟨cd, hcd, hmr⟩, h1, h2⟩ := hF j hj
  rw [← hK] at cl mt hcd h1 h2
  obtain ⟨mA, O, _⟩ := ins_get I.hok ea
  obtain ⟨od, J, _⟩ := O.look
  have call_ : wpAny (model X.prog X.w) X.A (call (.ref f) [.ref a, u]) (PySem.W.CmpBack (DP X S pins σ F Q2)) X.xe s :=
    thn (run_at (us := [.ref a, u]) (vs := [.ref a, y]) (ds := [c, d]) hK G (hr.mono (Nat.le_succ _)) I.env0 tk I rl sr xc (.cons rfl (.cons ry .nil)) (.cons px (.cons py .nil)) hsp) fun u s' z => z.back_cmp
  obtain ⟨m0, hFr⟩ := I.fr
  have hm' : PySem.W.findIn X.K (.ref (S.ca j)) (PySem.dunder op.info.2) = some (some (.ref f)) := by rw [hm]; exact mt.at_
  exact inplace_K hFr I.ok.mod.kin J (look_ty hK I rl ry py (tyD_own ht)) hcd hmr hm' mt.fn h1 h2 call_
theorem psd_aug {i : Nat} {x : Str} {e : Expr} {t : DE} {op : Operator} {r : D2} {pos' pos : Pos} (hN : X.N.Nodup) (ho : OpD X S E (inplaceOp op) r) (he : PD X S E e t) (hi : X.N[i]? = some x := by rfl) (hx : Loc X.env.scope x := by first | exact Or.inl rfl | exact Or.inr rfl)
    (hf : X.fn x = true ∨ X.env.scope.names.lookup x = some .local := by first | exact Or.inl rfl | exact Or.inr rfl) : PSd X S E (.AugAssign (.Name x pos') op e pos) (dAug i r t) := by
  refine ⟨fun pins s σ H F sd W D2 E2 I rl sr xc h => ?_⟩
  obtain ⟨c, hc, h⟩ := h
  obtain ⟨v, e1, pv⟩ := sr.at_ i c hc
  obtain ⟨m, hn, hl⟩ := I.loc
  have vis : Vis X.env.scope x := hx.elim .inl fun k => .inr (.inl k)
  obtain ⟨u, ru, l⟩ := hl i x v hi e1 vis
  refine wpAny_AugAssign_Name ?_
  have go : wpAny (model X.prog X.w) X.A (eval e X.env) (fun w s₂ => wpAny (model X.prog X.w) X.A (inplaceOp op u w) (fun r s₃ => wpAny (model X.prog X.w) X.A (storeName X.env x r) (fun _ => SPd X S pins F D2 .next) X.xe s₃) X.xe s₂) X.xe s := by
    refine thn (he.run pins s σ H F sd W _ E2 I rl sr xc h) fun w s1 ⟨y, H1, F1, d, W1, I1, r1, e1, rl1, p1, q1⟩ => ?_
    refine thn (ho pins s1 σ H1 F1 sd W1 v y c d u w _ E2 I1 rl1 (sr.mono e1) (XCv.mono e1 xc) ru r1 (pv.mono e1) p1 q1) fun z s2 ⟨zv, H2, F2, dz, W2, I2, r2, e2, rl2, p2, q2⟩ => ?_
    exact store_ok I2 hN hi hx r2 (fun s3 I3 => ⟨_, H2, F2, _, W2, I3, e1.trans e2, rl2, (sr.mono (e1.trans e2)).set p2, q2⟩) hf
  rcases l with ⟨hk, hm⟩ | ⟨hk, c', hc', hcell⟩
  · exact wpAny_loadName_local I.ok.kind hk hn hm go
  · have hcl : X.env.kindOf x = some .cell := by
      rcases hk with hk | hk
      · exact hk
      · have hk : X.env.scope.names.lookup x = some .free := hk
        rcases hx with k | k <;> rw [k] at hk <;> cases hk
    exact wpAny_loadName_cell I.ok.kind hcl hc' hcell go
end
/-- repr of an integer -/
def rReprI : DC := fun ds W Q => match ds with
  | [.int i] => i.natAbs.log2 < 1920 ∧ Q (.str (toString i)) W
  | _ => False
theorem cl_reprI {X : Cx} {S : Sy} : CalD X S (.builtin "repr") rReprI := by
  refine CalD.of SkE.call_repr_int fun H F W vs ds Q2 Q rl rp qc q => ?_
  match ds, q with
  | [.int i], q =>
    obtain ⟨v, rfl, p⟩ := rp.one
    cases p
    exact ⟨i, rfl, q.1, qc _ _ _ _ _ (Ex.refl _) rl (.str _) q.2⟩
/-- a table by the classes' numbers -/
def lkX (l : List (Nat × Bool)) : Nat → Option Bool := fun n => l.lookup n
theorem lkX_all {l : List (Nat × Bool)} {p : Nat → Bool → Prop} (h : ∀ e ∈ l, p e.1 e.2) : ∀ n b, lkX l n = some b → p n b := fun n b e => h (n, b) (mem_lk e)
end Mv
end
section
set_option Elab.async false
set_option linter.all false
set_option maxRecDepth 100000
set_option maxHeartbeats 4000000
namespace Mv
open PySem PySem.Spec L2
open Evl (Ex ex_l ex_t ex_rd)
open PyProof.Rows PySem.Calls
/-! ## bool(x) of an own instance -/
section
variable {prog : Program} {w : World} {A : Around} {E : Value → Shared → Prop} {s : Shared} {K : PySem.W.Frag} {x C f : Addr} {ox : Obj} {od : Option Obj}
theorem truthy_K {M : Model} {Q : Bool → Shared → Prop} (X : K.In s.heap) (I : PySem.W.InstAt s.heap x ox C od) (hs : PySem.W.findIn K (.ref C) "__bool__" = some (some (.ref f))) (hf : PySem.W.isFn K (.ref f) = true)
    (h : wpAny M A (call (.ref f) [.ref x]) (fun v s' => ∃ b, v = .bool b ∧ Q b s') E s) : wpAny M A (truthy (.ref x)) Q E s := by
  unfold truthy
  refine wpAny_bind (PySem.W.special_fn X I hs (beq_iff_eq.mp hf) (wpAny_mono h (fun v s' hv => ?_) fun _ _ y => y))
  obtain ⟨b, rfl, q⟩ := hv
  exact wpAny_pure q
theorem bool_K {Q : Value → Shared → Prop} (X : K.In s.heap) (I : PySem.W.InstAt s.heap x ox C od) (hs : PySem.W.findIn K (.ref C) "__bool__" = some (some (.ref f))) (hf : PySem.W.isFn K (.ref f) = true)
    (h : wpAny (model prog w) A.in1.in1 (call (.ref f) [.ref x]) (fun v s' => ∃ b, v = .bool b ∧ Q v s') E s) : wpAny (model prog w) A (call (.type "bool") [.ref x]) Q E s := by
  refine callType_codes (T := "bool") (Bi := Builtin.«object.__init__») (Q₁ := fun r s₁ => ∃ b, r = .bool b ∧ Q r s₁) PySem.F.called_bool (PySem.F.typeCall_bool_1 _) PySem.F.entry_object_init ?_ ?_
  · refine codeAny_of_tree ?_
    show wpAny _ A.in1.in1 (do checkBuiltinCall "bool.__new__" ⟨[.type "bool", .ref x], []⟩; again (.builtin "bool.__new__" ⟨[.type "bool", .ref x], []⟩)) _ _ s
    refine wpAny_bind (wpAny_of_eq (PySem.F.newCall_bool_1 _) (wpAny_pure ⟨plainId_quiet (by decide +kernel) _, codeAny_builtin PySem.F.entry_bool_new ?_⟩))
    rw [Around.under_plainId (by decide +kernel) _]
    have f1 := PySem.F.conv_sub_bool
    have hh : ∀ {Q' : Bool → Shared → Prop}, (∀ b s', Q (.bool b) s' → Q' b s') → wpAny (model prog w) A.in1.in1 (truthy (.ref x)) Q' E s := fun {Q'} k => truthy_K X I hs hf (wpAny_mono h (fun v s' hv => by
      obtain ⟨b, rfl, q⟩ := hv
      exact ⟨b, rfl, k b s' q⟩) fun _ _ y => y)
    unfold Builtin.«bool.__new__»
    wp_walk using hh
    intro b s' q
    wp_walk
    exact ⟨b, rfl, q⟩
  · rintro obj s₁ ⟨b, rfl, hq⟩
    exact ⟨rfl, PySem.F.args_object_init_2 _ _, object_init_meets PySem.F.called_bool.init.lookup PySem.F.called_bool.made (by decide) prog w A.in1 _ s₁ ⟨rfl, rfl, hq⟩⟩
end
section
variable {X : Cx} {S : Sy} {E : XS} {k : Nat}
def isBl : D → Option D
  | .bl b => some (.bl b)
  | _ => none
theorem isBl_eq {y z : D} (h : isBl y = some z) : y = z := by
  cases y <;> simp [isBl] at h
  exact h
theorem own_argB {M : Mts} {m : Str} {f : Value} {r : DC} (hK : X.K = S.K) (tk : Takes X E) (hr : Room (k + 2) X.A) (hM : M.ok X S k m) (hc : CalD X S f r)
    (hown : ∀ (s : Shared) (a : Addr) (ox : Obj) (C g : Addr) (od : Option Obj) (Q : Value → Shared → Prop), X.K.In s.heap → PySem.W.InstAt s.heap a ox C od → PySem.W.findIn X.K (.ref C) m = some (some (.ref g)) → PySem.W.isFn X.K (.ref g) = true →
      (∀ A, Room k A → A.frames = X.A.frames → wpAny (model X.prog X.w) A (call (.ref g) [.ref a]) (fun v s' => ∃ b, v = .bool b ∧ Q v s') X.xe s) → wpAny (model X.prog X.w) X.A (call f [.ref a]) Q X.xe s)
    {pins : List (Addr × Obj)} {s : Shared} {σ : L2.St} {H F : Hp} {sd : SD} {W : Wd} {v : V} {d : D} {u : Value} {Q2 : QD} {E2 : QX} (I : Inv X pins σ H s) (rl : Rel S F W H) (sr : SRel S F σ sd) (xc : XCv S F E2 E) (rv : RelV v u) (rp : Rp S F v d)
    (q : if isOwn W d = true then kIns W d fun c _ => c ∈ M.l ∧ dfl (M.n c) (M.dd c) [d] fun ds' => M.sp c ds' W (fun y W2 => kSome (isBl y) fun z => Q2 z W2) (fun x W' => E2 x sd W') else r [d] W Q2) :
    wpAny (model X.prog X.w) X.A (call f [u]) (DP X S pins σ F Q2) X.xe s := by
  by_cases ho : isOwn W d = true
  · rw [if_pos ho] at q
    obtain ⟨a, dx, vs, j, fs, ex, ea, rf, hj, hsp⟩ := kIns.at rl rp q
    subst ex
    obtain rfl : u = Value.ref a := rv
    obtain ⟨cl, g, mt, G⟩ := hM j hj
    rw [← hK] at cl mt
    obtain ⟨mA, O, _⟩ := ins_get I.hok ea
    obtain ⟨od, J, _⟩ := O.look
    refine hown s a _ _ g (some od) _ I.kIn J mt.at_ mt.fn fun A hA hfr => ?_
    have e0 : Env0 X.prog X.w X.K X.mg X.base A X.stack s H := by
      have e := I.env0
      exact ⟨by rw [hfr]; exact e.frames, e.mod, e.bs, e.bsz, e.funs, e.frf, e.hok, e.bare⟩
    refine thn (run_at (us := [.ref a]) (vs := [.ref a]) (ds := [d]) hK G hA e0 tk I rl sr xc (.cons rfl .nil) (.cons rp .nil) hsp) fun v s' ⟨y, H', F', d', W', I', rv', e', rl', rp', q'⟩ => ?_
    obtain ⟨z, hz, q'⟩ := q'.inv
    have := isBl_eq hz
    subst this
    cases rp' <;> first | (simp [isBl] at hz; done) | skip
    obtain rfl : v = _ := rv'
    exact ⟨_, rfl, ⟨.bl _, H', F', _, W', I', rfl, e', rl', .bl _, q'⟩⟩
  · rw [if_neg ho] at q
    exact thn (hc pins s σ H [v] [u] (tkQ S F Q2) I (.cons rv .nil) ⟨F, W, [d], Q2, rl, .cons rp .nil, tkQ_cv, q⟩) fun u s' z => EP.tk z
theorem pd_bool1 {e : Expr} {te : DE} {M : Mts} {p pos : Pos} (hK : X.K = S.K) (tk : Takes X E) (hr : Room (k + 2) X.A) (hM : M.ok X S k "__bool__") (he : PD X S E e te) (hm : X.mg "bool" = none) (hg : Gl X "bool" := by rfl)
    (hs : starEach [e] X.env = (false, eval e X.env) :: starEach [] X.env := by rfl) (hpl : (backTo pos (starEach [] X.env)).any (·.1) = false := by rfl) : PD X S E (.Call (.Name "bool" p) [e] [] pos) (dB1 M isBl rBoolD te) := by
  refine ⟨fun pins s σ H F sd W Q2 E2 I rl sr xc h => ?_⟩
  refine wpAny_Call_Name_kw (ld_blt I hg hm (show bootBuiltins "bool" = some (.type "bool") by kernel_rfl) ?_ (by decide) (by decide))
  refine PyProof.Rows.callWith_type1 (thn ((pad_cons he pad_nil hs).run pos pins s σ H F sd W (G1 M isBl rBoolD Q2 E2 sd) E2 I rl sr xc h) fun us s1 ⟨vs, H1, F1, ds, W1, I1, rv, e1, rl1, rp, q⟩ => ?_) hs hpl
  match ds, q, rp with
  | [d], q, rp =>
    obtain ⟨x, rfl, px⟩ := rp.one
    obtain ⟨u, rfl, ru⟩ := vals1 rv
    refine thn (own_argB hK tk hr hM cl_bool (fun s a ox C g od Q X0 J h1 h2 h3 => ?_) I1 rl1 (sr.mono e1) (XCv.mono e1 xc) ru px q) fun u s' z => z.back e1
    exact bool_K X0 J h1 h2 (h3 X.A.in1.in1 hr.in1.in1 rfl)
def mBool := mt1 1 sp_Amount_bool
/-! ## {} -/
def dDct0 : DE := fun _ W Q _ => Q (.dK []) W
theorem pd_dct0 {pos : Pos} : PD X S E (.Dict [] [] pos) dDct0 :=
  PE.pd pe_dnewK fun σ H F sd W Q2 E2 rl sr xc q => fun p hp => tkQ_of (Ex.new (rl.nf hp)) (rl.newF hp) (.dK upd_same .nil) q
end
end Mv
end
section
set_option Elab.async false
set_option linter.all false
set_option maxRecDepth 100000
set_option maxHeartbeats 4000000
namespace Mv
open PySem PySem.Spec L2 PyProof.Rows
open LamX (TabB)
/-! ## the end of a law that shows data and holds lambdas -/
section
variable {P : Program} {w : World} {K : PySem.W.Frag} {mg mb : Str → Option Value} {k : Nat} {fa a : Addr} {cs : List (Addr × Addr)} {fd : FuncData} {x : Str} {sp : Sp} {s : Shared} {vs : List Value} {ns : List Int}
def tabObj : Obj := { cls := .none, data := .fields #[] }
theorem law_goT (kin : K.In s.heap) (gl : s.heap.Ns mainGlobals mg) (bl : s.heap.Ns builtinsNs mb) (bb : ∀ x : Str, x ≠ "__name__" → mb x = bootBuiltins x) (lim : s.heap.NoLimit) (gens : s.gens = #[])
    (tabs : ∀ p ∈ cs, s.heap.get? p.2 = some tabObj) (out : ∀ p ∈ cs, K.lookup p.2 = none) (codes : ∀ p ∈ cs, PySem.W.CodeHd s.heap p.1 p.2)
    (mods : ∃ (bm : Addr) (ob : Obj), mg "__builtins__" = some (.ref bm) ∧ bm ≠ builtinsNs ∧ s.heap.get? bm = some ob ∧ ob.cls = .type "module" ∧ ob.dict = some builtinsNs ∧ ob.data = .plain)
    (ha : s.heap.get? a = some { cls := .type "list", data := .seq vs.toArray }) (hi : IntsAre vs ns) (hl : ns.length ≤ sizeLine) (room : Room k callerA)
    (F : ∀ base : Heap, K.In base → base.Ns mainGlobals mg → (∀ p ∈ cs, TabB base mg p.1 p.2) → FnG P w K mg base k fa fd [x] sp) (bnd : ∀ (s : Shared) (u : Value), BindsTo s fd ⟨[u], []⟩ [(x, u)])
    (hsp : ∀ H : Hp, (∀ p ∈ cs, H p.2 = some (.tbl #[])) → SqL K H a (ns.map V.int) → sp [.ref a] H (fun v _ => v = .bl true) fun _ _ _ => False) :
    codeAny (model P w) callerA (.call (.ref fa) ⟨[.ref a], []⟩) (fun r s' => r = .ok (.ret (.bool true)) ∧ OldK s.heap s'.heap ∧ s'.os = s.os ∧ AllBare s'.gens) s := by
  have rv := vals_ints hi
  let T : List Addr := cs.map (·.2)
  have isT : ∀ b ∈ T, s.heap.get? b = some tabObj := fun b hb => by
    obtain ⟨p, hp, rfl⟩ := List.mem_map.mp hb
    exact tabs p hp
  have inT : ∀ p ∈ cs, p.2 ∈ T := fun p hp => List.mem_map.mpr ⟨p, hp, rfl⟩
  have aT : a ∉ T := fun z => by
    have q := isT a z
    rw [ha] at q
    cases q
  obtain ⟨H0, only0, sq0, hok0, one0, hK0⟩ : ∃ H : Hp, (∀ b, H b = none ∨ ∃ o xs, H b = some (.frz o (.lst xs))) ∧ SqL K H a (ns.map V.int) ∧ HOk P w H s.heap ∧ (∀ b, H b ≠ none → b = a) ∧ (H a ≠ none → K.lookup a = none) := by
    cases hk : K.lookup a with
    | some o =>
      have e := kin a o hk
      rw [ha] at e
      cases e
      exact ⟨fun _ => none, fun _ => Or.inl rfl, Or.inr ⟨_, vs.toArray, _, hk, rfl, rfl, rfl, by rw [List.size_toArray, hi.length]; exact hl, by simpa using rv⟩, fun b u z => by (cases (show (none : Option HO) = some u from z)), fun b z => absurd rfl z, fun z => absurd rfl z⟩
    | none =>
      have at1 : (fun b => if b = a then some (HO.frz { cls := .type "list", data := .seq vs.toArray } (.lst (ns.map V.int))) else none) a = some (HO.frz { cls := .type "list", data := .seq vs.toArray } (.lst (ns.map V.int))) := if_pos rfl
      refine ⟨fun b => if b = a then some (.frz { cls := .type "list", data := .seq vs.toArray } (.lst (ns.map V.int))) else none, fun b => ?_, Or.inl (Or.inr ⟨_, at1⟩), fun b u z => ?_, fun b z => ?_, fun _ => rfl⟩
      · by_cases hb : b = a
        · exact Or.inr ⟨_, _, if_pos hb⟩
        · exact Or.inl (if_neg hb)
      · by_cases hb : b = a
        · subst hb
          have z' := at1.symm.trans z
          cases z'
          exact ⟨ha, by rw [List.length_map]; exact hl, vs, _, rv, ha⟩
        · have z' := (if_neg hb).symm.trans z
          cases z'
      · refine Classical.byContradiction fun hb => ?_
        exact z (if_neg hb)
  obtain ⟨H, hT, hN⟩ : ∃ H : Hp, (∀ b ∈ T, H b = some (.tbl #[])) ∧ ∀ b, b ∉ T → H b = H0 b := ⟨fun b => if b ∈ T then some (.tbl #[]) else H0 b, fun b hb => if_pos hb, fun b hb => if_neg hb⟩
  have only : ∀ b, b ∉ T → H b = none ∨ ∃ o xs, H b = some (.frz o (.lst xs)) := fun b hb => by
    rw [hN b hb]
    exact only0 b
  have sq : SqL K H a (ns.map V.int) := by
    have e := hN a aT
    rcases sq0 with (z | ⟨ob, z⟩) | z
    · exact .inl (.inl (e.trans z))
    · exact .inl (.inr ⟨ob, e.trans z⟩)
    · exact .inr z
  have hok : HOk P w H s.heap := fun b u z => by
    by_cases hb : b ∈ T
    · rw [hT b hb] at z
      cases z
      exact isT b hb
    · rw [hN b hb] at z
      rcases only0 b with n | ⟨ob, xs, y⟩
      · rw [n] at z
        cases z
      · rw [y] at z
        cases z
        exact hok0 b _ y
  have one : ∀ b, H b ≠ none → b = a ∨ b ∈ T := fun b z => by
    by_cases hb : b ∈ T
    · exact .inr hb
    · rw [hN b hb] at z
      exact .inl (one0 b z)
  have hK : H a ≠ none → K.lookup a = none := fun z => hK0 (by rw [hN a aT] at z; exact z)
  have low : ∀ {b : Addr} {o : Obj}, s.heap.get? b = some o → H b = none → (hidT s.heap H).get? b = some o := fun e n => hidT_get e n
  -- what is neither a sequence nor a table is not tracked
  have noH : ∀ {b : Addr} {o : Obj}, s.heap.get? b = some o → (∀ vs n, o.data ≠ .seq vs n) → o.data ≠ .fields #[] → H b = none := fun {b o} e h1 h2 => Classical.byContradiction fun z => by
    rcases one b z with rfl | hb
    · rw [ha] at e
      cases e
      exact h1 _ _ rfl
    · rw [isT b hb] at e
      cases e
      exact h2 rfl
  have noD : ∀ {b : Addr} {o : Obj} {es : Array DictEntry} {n : Nat}, s.heap.get? b = some o → o.data = .dict es n → H b = none := fun e d => noH e (fun _ _ z => by rw [d] at z; cases z) fun z => by rw [d] at z; cases z
  have lowN : ∀ {b : Addr} {m : Str → Option Value}, s.heap.Ns b m → (hidT s.heap H).Ns b m := by
    rintro b m ⟨o, es, n, e, d, r⟩
    exact ⟨o, es, n, low e (noD e d), d, r⟩
  have lowK : K.In (hidT s.heap H) := fun b o e => by
    refine low (kin b o e) (Classical.byContradiction fun z => ?_)
    rcases one b z with rfl | hb
    · rw [hK z] at e
      cases e
    · obtain ⟨p, hp, rfl⟩ := List.mem_map.mp hb
      rw [out p hp] at e
      cases e
  have TB : ∀ p ∈ cs, TabB (hidT s.heap H) mg p.1 p.2 := fun p hp => by
    refine ⟨?_, ?_, fun z => ?_⟩
    · obtain ⟨o, us, f1, f2, f3, f4, f5, f6, f7, q1, q2, q3, rest⟩ := codes p hp
      refine ⟨o, us, f1, f2, f3, f4, f5, f6, f7, low q1 (noH q1 (fun _ _ z => ?_) fun z => ?_), q2, q3, rest⟩
      · rw [q3] at z
        cases z
      · rw [q3] at z
        cases z
        simp at rest
    · obtain ⟨bm, ob, b1, b2, b3, b4, b5, b6⟩ := mods
      have pl : H bm = none := noH b3 (fun _ _ z => by rw [b6] at z; cases z) fun z => by rw [b6] at z; cases z
      refine ⟨bm, ob, b1, b2, fun q => ?_, fun q => ?_, low b3 pl, b4, b5, b6⟩
      · obtain ⟨o, es, n, e, d, _⟩ := gl
        rw [q, e] at b3
        cases b3
        rw [d] at b6
        cases b6
      · rw [q, hT p.2 (inT p hp)] at pl
        cases pl
    · obtain ⟨o, es, n, e, d, _⟩ := gl
      rw [z, tabs p hp] at e
      cases e
      cases d
  obtain ⟨mc, l1, l2⟩ := lim
  have env : Env0 P w K mg (hidT s.heap H) callerA [] s H :=
    ⟨rfl, ⟨lowK, lowN gl, ⟨mb, lowN bl, bb⟩, ⟨mc, lowN l1, l2⟩⟩, fun b o e => of_hidT e, Nat.le_of_eq (hidT_size _ _), trivial, fun b hb => absurd (show b ∈ ([] : List Addr) from hb) (by simp), hok, .of_eq gens⟩
  refine codeAny_mono ((F _ lowK (lowN gl) TB).go callerA [] s H ⟨[.ref a], []⟩ [.ref a] [.ref a] _ _ rfl room env (bnd s (.ref a)) (.cons rfl .nil) (hsp H (fun p hp => hT p.2 (inT p hp)) sq)) fun r s' z => ?_
  match r, z with
  | .error e, z =>
    obtain ⟨_, _, _, _, _, _, _, _, _, _, _, _, w⟩ := z
    exact w.elim
  | .ok (.ret u), ⟨v, H', os, bare, un, hok', rel, q⟩ =>
    have q : v = .bl true := q
    subst q
    have rel : u = Value.bool true := rel
    subst rel
    have stays : ∀ b o, b ∉ T → s.heap.get? b = some o → s'.heap.get? b = some o := fun b o hb e => by
      rcases only b hb with z | ⟨ob, xs, z⟩
      · exact un.keep b o e z (fun z => absurd (show b ∈ ([] : List Addr) from z) (by simp)) (by simp)
      · have g1 := (hok b _ z).1
        have g2 := (hok' b _ (un.frzs b ob _ z)).1
        rw [e] at g1
        cases g1
        exact g2
    have more : ∀ p ∈ cs, ∃ m : Array Value, s'.heap.get? p.2 = some { cls := .none, data := .fields m } := fun p hp => by
      obtain ⟨m, z⟩ := un.tbls p.2 #[] (hT p.2 (inT p hp))
      exact ⟨_, hok' p.2 _ z⟩
    refine ⟨rfl, ⟨fun b o e => ?_, fun b o e => ?_⟩, os, bare⟩
    · by_cases hb : b ∈ T
      · obtain ⟨p, hp, rfl⟩ := List.mem_map.mp hb
        obtain ⟨m, hm⟩ := more p hp
        have e : s.heap.get? p.2 = some o := e
        rw [tabs p hp] at e
        cases e
        refine Or.inr (Or.inl ⟨((codes p hp).tab (tabs p hp)).isCodeTable, rfl, #[], m, rfl, ?_⟩)
        rw [Array.empty_append]
        exact hm
      · exact Or.inl (stays b o hb e)
    · by_cases hb : b ∈ T
      · obtain ⟨p, hp, rfl⟩ := List.mem_map.mp hb
        obtain ⟨m, hm⟩ := more p hp
        exact ⟨_, hm⟩
      · exact ⟨o, stays b o hb e⟩
end
theorem walk_goT {l : PySem.W.OpenLaw} {n k : Nat} {q : Program} {loose : List Str} {XP : (Str → Option Value) → Heap → Prop} {YP : World → Heap → Prop} {d : DefRec} {x : Str}
    (hn : l.most = some n) (hn2 : n ≤ sizeLine) (hdf : d.params.defaults = []) (hr : Room k callerA)
    (F : ∀ (w : World) (mg : Str → Option Value) (fa : Addr) (h : Heap), YP w h → h.Ns mainGlobals mg → mg d.name = some (.ref fa) →
      ∃ (K : PySem.W.Frag) (fd : FuncData) (sp : Sp) (nms : List (Str × Addr)), K.In h ∧ (∀ (s : Shared) (u : Value), BindsTo s fd ⟨[u], []⟩ [(x, u)]) ∧
        (∀ p ∈ nms, ((recsOf q).any fun e => e.name == p.1) = true ∧ mg p.1 = some (.ref p.2) ∧ (∃ o fd, K.lookup p.2 = some o ∧ o.data = .func fd) ∧ lamB K p.2 = true) ∧
        (∀ (H : Hp) (a : Addr) (ns : List Int), ns.length ≤ n → (∀ p ∈ nms, H (tabA K p.2) = some (.tbl #[])) → SqL K H a (ns.map V.int) → sp [.ref a] H (fun v _ => v = .bl true) fun _ _ _ => False) ∧
        ∀ base : Heap, K.In base → base.Ns mainGlobals mg → (∀ p ∈ nms, TabB base mg (codeA K p.2) (tabA K p.2)) → FnG l.prog w K mg base k fa fd [x] sp) :
    PySem.W.WalkO q loose XP YP l.row.toRowW d [] (fun f vs => PySem.call f vs) := by
  refine Att.attach_callB hn hdf fun w s₀ s₁ mg mb fa o pm cd doc a vs ns G Y ho hd hcd hmg hobj hints hlen hbits hg => ?_
  obtain ⟨K, fd, sp, nms, KX, hb, tn, hsp, hF⟩ := F w mg fa _ Y G.T.g hmg
  have at_ : ∀ p ∈ nms, K.lookup (tabA K p.2) = none ∧ PySem.W.CodeHd s₁.heap (codeA K p.2) (tabA K p.2) ∧ s₁.heap.get? (tabA K p.2) = some { cls := .none, data := .fields #[] } := fun p hp => by
    obtain ⟨h1, h2, ⟨of, ff, k1, k2⟩, h3⟩ := tn p hp
    obtain ⟨c1, c2, oc, vc, c3, c4, c5⟩ := lamB_ok h3
    obtain ⟨dL, hm, hn1⟩ := List.any_eq_true.mp h1
    obtain ⟨a', o', fd', c', P', g1, g2, g3, g4, g5, g6⟩ := G.T.tab dL hm
    rw [beq_iff_eq.mp hn1, h2] at g1
    cases g1
    rw [KX _ _ k1] at g2
    cases g2
    rw [k2] at g3
    cases g3
    have ec : codeA K p.2 = c' := by
      have e1 := c1
      rw [codeV_at k1 k2, g4] at e1
      exact (Value.ref.inj e1).symm
    rw [ec] at c3 ⊢
    obtain ⟨⟨o2, v2, e1, e2, e3, e4⟩, hP⟩ := id g6
    rw [KX _ _ c3] at e1
    cases e1
    have ep : tabA K p.2 = P' := by
      have z := e3
      rw [c4] at z
      cases z
      rw [c5] at e4
      exact Value.ref.inj (Option.some.inj e4)
    rw [ep] at c2 ⊢
    exact ⟨c2, PySem.W.CodeHd.of g5 g6, hP⟩
  refine law_goT (cs := nms.map fun p => (codeA K p.2, tabA K p.2)) KX G.T.g G.T.b G.T.builtins G.T.nolimit hg (fun p hp => ?_) (fun p hp => ?_) (fun p hp => ?_) G.T.bmain hobj hints (Nat.le_trans hlen hn2) hr (fun base h1 h2 h3 => hF base h1 h2 fun p hp => h3 _ (List.mem_map.mpr ⟨p, hp, rfl⟩)) hb (fun H hH hS => hsp H a ns hlen (fun p hp => hH _ (List.mem_map.mpr ⟨p, hp, rfl⟩)) hS)
  · obtain ⟨z, hz, rfl⟩ := List.mem_map.mp hp
    exact (at_ z hz).2.2
  · obtain ⟨z, hz, rfl⟩ := List.mem_map.mp hp
    exact (at_ z hz).1
  · obtain ⟨z, hz, rfl⟩ := List.mem_map.mp hp
    exact (at_ z hz).2.1
end Mv
end
section
set_option Elab.async false
set_option linter.all false
set_option maxRecDepth 100000
set_option maxHeartbeats 4000000
namespace Mv
open PySem PySem.Spec L2
def sp__law_number (S : Sy) : DSp := spPen 5 fun r q => match r with
  | [] => ∀ n : Int, n.natAbs ≤ 20000000000000000000000000000000000000000 → q (.int n)
  | _ => False
def sp__law_divisor (S : Sy) : DSp := fun ds W Q _ => match ds with
  | [.int a, .int b] => Q (.int (Int.gcd a b)) W
  | _ => False
/-- what a call is heard to raise -/
def sp__law_heard (S : Sy) : LD → Wd → QD → Prop := fun td W Q => td W (fun _ W' => Q .non W') fun x W' => match x with
  | .exn 3 fs => (match fs.lookup 44 with
    | some y => Q y W'
    | none => False)
  | _ => False
def sp__law_right (S : Sy) : DSp := fun ds W Q E => 0 ∈ S.cl ∧ spPen 20 (fun r q => match r with
  | [] => q (.bl true)
  | _ => False) ds W Q E
def sp__law_refused_right (S : Sy) : DSp := fun ds W Q E => 0 ∈ S.cl ∧ spPen 20 (fun r q => match r with
  | [] => q (.bl true)
  | _ => False) ds W Q E
/-- read: not reached -/
def sp_count_in (S : Sy) : DSp := fun _ _ _ _ => False
def sp_parts_told (S : Sy) : DSp := fun _ _ _ _ => False
def sp_Amount_read (S : Sy) : DSp := fun _ _ _ _ => False
end Mv
end
section
set_option Elab.async false
set_option linter.all false
set_option maxRecDepth 100000
set_option maxHeartbeats 8000000
namespace Mv
open PySem PySem.Spec L2
def t_is_integer (S : Sy) : DS := dRet (dAndV (dCB (rIsiD (.ty "int") (isiInt S.cl)) (dCons (dVar 0) (dCons (dC (.ty "int")) (dNil)))) (dNotV (dCB (rIsiD (.ty "bool") (isiTy .bl S.cl)) (dCons (dVar 0) (dCons (dC (.ty "bool")) (dNil))))))
def t_common_divisor (S : Sy) : DS := dSeq (dPar 2 3 (dCons (dVar 0) (dCons (dVar 1) (dNil)))) (dSeq (dWhile (dTbl (dOp (rEqQ qN true 6) (dVar 3) (dC (.int 0)))) (dPar 2 3 (dCons (dVar 3) (dCons (dOp (tMod .none) (dVar 2) (dVar 3)) (dNil))))) (dRet (dVar 2)))
def t_lowest (S : Sy) : DS := dSeq (dAsg (dCall 2 [] (sp_common_divisor S) (dCons (dCB rAbsD (dCons (dVar 0) (dNil))) (dCons (dCB rAbsD (dCons (dVar 1) (dNil))) (dNil)))) (gN 2)) (dSeq (dIfS (dTbl (dOp (tCm .none .none (fun i j => decide (i < j))) (dVar 1) (dC (.int 0)))) (dRet (dTup (dCons (dOp (tFdiv .none) (dNeg (dVar 0)) (dVar 2)) (dCons (dOp (tFdiv .none) (dNeg (dVar 1)) (dVar 2)) (dNil))))) (dNext)) (dRet (dTup (dCons (dOp (tFdiv .none) (dVar 0) (dVar 2)) (dCons (dOp (tFdiv .none) (dVar 1) (dVar 2)) (dNil))))))
def t_parts_of (S : Sy) : DS := dSeq (dIfS (dTst (dCB (rIsiD (.ptr (S.ca 0)) (isiOwn [0] S.cl)) (dCons (dVar 0) (dCons (dC (.ptr (S.ca 0))) (dNil))))) (dRet (dAttr (a_parts S) 0 (dVar 0))) (dNext)) (dRet (dIf (dTst (dCall 1 [] (sp_is_integer S) (dCons (dVar 0) (dNil)))) (dTup (dCons (dVar 0) (dCons (dC (.int 1)) (dNil)))) (dC .non)))
def t_Amount_init (S : Sy) : DS := dSeq (dIfS (dNot (dTst (dCall 1 [] (sp_is_integer S) (dCons (dVar 1) (dNil))))) (dRaise 3 [44] (dCons (dC (.str "top")) (dNil))) (dNext)) (dSeq (dIfS (dOr (dNot (dTst (dCall 1 [] (sp_is_integer S) (dCons (dVar 2) (dNil))))) (dTbl (dOp (rEqQ qN false 6) (dVar 2) (dC (.int 0))))) (dRaise 3 [44] (dCons (dC (.str "bottom")) (dNil))) (dNext)) (dFld [0] 0 (dVar 0) (dCall 2 [] (sp_lowest S) (dCons (dVar 1) (dCons (dVar 2) (dNil))))))
def t_Amount_top (S : Sy) : DS := dRet (dOp tIx (dAttr (a_parts S) 0 (dVar 0)) (dC (.int 0)))
def t_Amount_bottom (S : Sy) : DS := dRet (dOp tIx (dAttr (a_parts S) 0 (dVar 0)) (dC (.int 1)))
def t_Amount_of (S : Sy) : DS := dSeq (dIfS (dTst (dCB (rIsiD (.ptr (S.ca 0)) (isiOwn [0] S.cl)) (dCons (dVar 0) (dCons (dC (.ptr (S.ca 0))) (dNil))))) (dRet (dVar 0)) (dNext)) (dSeq (dIfS (dNot (dTst (dCall 1 [] (sp_is_integer S) (dCons (dVar 0) (dNil))))) (dRaise 3 [44] (dCons (dC (.str "value")) (dNil))) (dNext)) (dRet (dFrz (dMake 0 3 [.int 1] (sp_Amount_init S) (dCons (dVar 0) (dNil))))))
def t_Amount_add (S : Sy) : DS := dSeq (dAsg (dCall 1 [] (sp_parts_of S) (dCons (dVar 1) (dNil))) (gN 2)) (dSeq (dIfS (dTbl (dOp (rIsN false) (dVar 2) (dC .non))) (dNever) (dNext)) (dRet (dFrz (dMake 0 3 [.int 1] (sp_Amount_init S) (dCons (dOp (Mv.tAdd .none .none) (dOp (Mv.tMul .none .none) (dOp tIx (dAttr (a_parts S) 0 (dVar 0)) (dC (.int 0))) (dOp tIx (dVar 2) (dC (.int 1)))) (dOp (Mv.tMul .none .none) (dOp tIx (dVar 2) (dC (.int 0))) (dOp tIx (dAttr (a_parts S) 0 (dVar 0)) (dC (.int 1))))) (dCons (dOp (Mv.tMul .none .none) (dOp tIx (dAttr (a_parts S) 0 (dVar 0)) (dC (.int 1))) (dOp tIx (dVar 2) (dC (.int 1)))) (dNil)))))))
def t_Amount_radd (S : Sy) : DS := dRet (dOp (Mv.tAdd (mAdd S) .none) (dVar 0) (dVar 1))
def t_Amount_sub (S : Sy) : DS := dSeq (dAsg (dCall 1 [] (sp_parts_of S) (dCons (dVar 1) (dNil))) (gN 2)) (dSeq (dIfS (dTbl (dOp (rIsN false) (dVar 2) (dC .non))) (dNever) (dNext)) (dRet (dFrz (dMake 0 3 [.int 1] (sp_Amount_init S) (dCons (dOp (Mv.tSub .none .none) (dOp (Mv.tMul .none .none) (dOp tIx (dAttr (a_parts S) 0 (dVar 0)) (dC (.int 0))) (dOp tIx (dVar 2) (dC (.int 1)))) (dOp (Mv.tMul .none .none) (dOp tIx (dVar 2) (dC (.int 0))) (dOp tIx (dAttr (a_parts S) 0 (dVar 0)) (dC (.int 1))))) (dCons (dOp (Mv.tMul .none .none) (dOp tIx (dAttr (a_parts S) 0 (dVar 0)) (dC (.int 1))) (dOp tIx (dVar 2) (dC (.int 1)))) (dNil)))))))
def t_Amount_neg (S : Sy) : DS := dRet (dFrz (dMake 0 3 [.int 1] (sp_Amount_init S) (dCons (dNeg (dOp tIx (dAttr (a_parts S) 0 (dVar 0)) (dC (.int 0)))) (dCons (dOp tIx (dAttr (a_parts S) 0 (dVar 0)) (dC (.int 1))) (dNil)))))
def t_Amount_rsub (S : Sy) : DS := dRet (dOp (Mv.tAdd (mAdd S) .none) (dNegO (mNeg S) (dVar 0)) (dVar 1))
def t_Amount_mul (S : Sy) : DS := dSeq (dAsg (dCall 1 [] (sp_parts_of S) (dCons (dVar 1) (dNil))) (gN 2)) (dSeq (dIfS (dTbl (dOp (rIsN false) (dVar 2) (dC .non))) (dNever) (dNext)) (dRet (dFrz (dMake 0 3 [.int 1] (sp_Amount_init S) (dCons (dOp (Mv.tMul .none .none) (dOp tIx (dAttr (a_parts S) 0 (dVar 0)) (dC (.int 0))) (dOp tIx (dVar 2) (dC (.int 0)))) (dCons (dOp (Mv.tMul .none .none) (dOp tIx (dAttr (a_parts S) 0 (dVar 0)) (dC (.int 1))) (dOp tIx (dVar 2) (dC (.int 1)))) (dNil)))))))
def t_Amount_rmul (S : Sy) : DS := dRet (dOp (Mv.tMul (mMul S) .none) (dVar 0) (dVar 1))
def t_Amount_abs (S : Sy) : DS := dRet (dFrz (dMake 0 3 [.int 1] (sp_Amount_init S) (dCons (dCB rAbsD (dCons (dOp tIx (dAttr (a_parts S) 0 (dVar 0)) (dC (.int 0))) (dNil))) (dCons (dOp tIx (dAttr (a_parts S) 0 (dVar 0)) (dC (.int 1))) (dNil)))))
def t_times_of (S : Sy) : DS := dSeq (dIfS (dTbl (dOp (tCm .none .none (fun i j => decide (i ≤ j))) (dOp tIx (dVar 1) (dC (.int 0))) (dC (.int 0)))) (dRaise 3 [44] (dCons (dC (.str "other")) (dNil))) (dNext)) (dRet (dOp (tFdiv .none) (dOp (Mv.tMul .none .none) (dOp tIx (dVar 0) (dC (.int 0))) (dOp tIx (dVar 1) (dC (.int 1)))) (dOp (Mv.tMul .none .none) (dOp tIx (dVar 0) (dC (.int 1))) (dOp tIx (dVar 1) (dC (.int 0))))))
def t_Amount_floordiv (S : Sy) : DS := dRet (dCall 2 [] (sp_times_of S) (dCons (dAttr (a_parts S) 0 (dVar 0)) (dCons (dCall 1 [] (sp_parts_of S) (dCons (dVar 1) (dNil))) (dNil))))
def t_Amount_mod (S : Sy) : DS := dSeq (dAsg (dCall 1 [] (sp_parts_of S) (dCons (dVar 1) (dNil))) (gN 2)) (dSeq (dAsg (dCall 2 [] (sp_times_of S) (dCons (dAttr (a_parts S) 0 (dVar 0)) (dCons (dVar 2) (dNil)))) (gN 3)) (dRet (dFrz (dMake 0 3 [.int 1] (sp_Amount_init S) (dCons (dOp (Mv.tSub .none .none) (dOp (Mv.tMul .none .none) (dOp tIx (dAttr (a_parts S) 0 (dVar 0)) (dC (.int 0))) (dOp tIx (dVar 2) (dC (.int 1)))) (dOp (Mv.tMul .none .none) (dOp (Mv.tMul .none .none) (dVar 3) (dOp tIx (dVar 2) (dC (.int 0)))) (dOp tIx (dAttr (a_parts S) 0 (dVar 0)) (dC (.int 1))))) (dCons (dOp (Mv.tMul .none .none) (dOp tIx (dAttr (a_parts S) 0 (dVar 0)) (dC (.int 1))) (dOp tIx (dVar 2) (dC (.int 1)))) (dNil)))))))
def t_Amount_bool (S : Sy) : DS := dRet (dCB rBoolD (dCons (dOp (rEqQ qN true 6) (dOp tIx (dAttr (a_parts S) 0 (dVar 0)) (dC (.int 0))) (dC (.int 0))) (dNil)))
def t_Amount_eq (S : Sy) : DS := dRet (dOp (rEqQ qN false 6) (dCall 1 [] (sp_parts_of S) (dCons (dVar 1) (dNil))) (dAttr (a_parts S) 0 (dVar 0)))
def t_Amount_lt (S : Sy) : DS := dSeq (dAsg (dCall 1 [] (sp_parts_of S) (dCons (dVar 1) (dNil))) (gN 2)) (dSeq (dIfS (dTbl (dOp (rIsN false) (dVar 2) (dC .non))) (dNever) (dNext)) (dRet (dOp (tCm .none .none (fun i j => decide (i < j))) (dOp (Mv.tMul .none .none) (dOp tIx (dAttr (a_parts S) 0 (dVar 0)) (dC (.int 0))) (dOp tIx (dVar 2) (dC (.int 1)))) (dOp (Mv.tMul .none .none) (dOp tIx (dVar 2) (dC (.int 0))) (dOp tIx (dAttr (a_parts S) 0 (dVar 0)) (dC (.int 1)))))))
def t_Amount_gt (S : Sy) : DS := dSeq (dAsg (dCall 1 [] (sp_parts_of S) (dCons (dVar 1) (dNil))) (gN 2)) (dSeq (dIfS (dTbl (dOp (rIsN false) (dVar 2) (dC .non))) (dNever) (dNext)) (dRet (dOp (tCm .none .none (fun i j => decide (j < i))) (dOp (Mv.tMul .none .none) (dOp tIx (dAttr (a_parts S) 0 (dVar 0)) (dC (.int 0))) (dOp tIx (dVar 2) (dC (.int 1)))) (dOp (Mv.tMul .none .none) (dOp tIx (dVar 2) (dC (.int 0))) (dOp tIx (dAttr (a_parts S) 0 (dVar 0)) (dC (.int 1)))))))
def t_Amount_str (S : Sy) : DS := dSeq (dIfS (dTbl (dOp (rEqQ qN false 6) (dOp tIx (dAttr (a_parts S) 0 (dVar 0)) (dC (.int 1))) (dC (.int 1)))) (dRet (dFmt (dOp tIx (dAttr (a_parts S) 0 (dVar 0)) (dC (.int 0))))) (dNext)) (dRet ((fun sd W Q E2 => dJs [dFmt (dOp tIx (dAttr (a_parts S) 0 (dVar 0)) (dC (.int 0))), dC (.str "/"), dFmt (dOp tIx (dAttr (a_parts S) 0 (dVar 0)) (dC (.int 1)))] Str.empty sd W (fun s W1 => Q (.str s) W1) E2)))
def t__law_pen (S : Sy) : DS := dRet (dLstM (dCons (dCB rListD (dCons (dSl (dVar 0) (dNoPart) (dPart (dC (.int 63)))) (dNil))) (dCons (dC (.int 0)) (dCons (dC (.int 0)) (dNil)))))
def t__law_draw (S : Sy) : DS := dSeq (dIfS (dTbl (dOp (tCm .none .none (fun i j => decide (j < i))) (dOp tIx (dVar 0) (dC (.int 2))) (dC (.int 0)))) (dSeq (dAsg (dOp (tMod .none) (dCB rIntD (dCons (dOp tIx (dVar 0) (dC (.int 2))) (dNil))) (dVar 1)) (gN 2)) (dSeq (dAsg (dOp (tFdiv .none) (dCB rIntD (dCons (dOp tIx (dVar 0) (dC (.int 2))) (dNil))) (dVar 1)) (gSetL (dVar 0) (dC (.int 2)))) (dRet (dVar 2)))) (dNext)) (dSeq (dAsg (dOp tIx (dVar 0) (dC (.int 1))) (gN 3)) (dSeq (dAsg (dOp (Mv.tAdd .none .none) (dVar 3) (dC (.int 1))) (gSetL (dVar 0) (dC (.int 1)))) (dSeq (dAsg (dOp (Mv.tAdd .none .none) (dOp (Mv.tMul .none .none) (dC (.int 36781)) (dVar 3)) (dC (.int 1579))) (gN 4)) (dSeq (dIfS (dTbl (dOp (rEqQ qN true 6) (dOp tIx (dVar 0) (dC (.int 0))) (dLst (dNil)))) (dAsg (dOp tIx (dOp tIx (dVar 0) (dC (.int 0))) (dOp (tMod .none) (dCB rIntD (dCons (dVar 3) (dNil))) (dCB rLenD (dCons (dOp tIx (dVar 0) (dC (.int 0))) (dNil))))) (gN 4)) (dNext)) (dSeq (dIfS (dAnd (dTbl (dOp (tCm .none .none (fun i j => decide (i < j))) (dVar 3) (dCB rLenD (dCons (dOp tIx (dVar 0) (dC (.int 0))) (dNil))))) (dTbl (dOp (tCm .none .none (fun i j => decide (j ≤ i))) (dCB rAbsD (dCons (dVar 4) (dNil))) (dOp tPow (dC (.int 10)) (dC (.int 18)))))) (dSeq (dAsg (dOp (Mv.tAdd .none .none) (dOp (Mv.tMul .none .none) (dC (.int 2)) (dOp (Mv.tSub .none .none) (dCB rAbsD (dCons (dVar 4) (dNil))) (dOp tPow (dC (.int 10)) (dC (.int 18))))) (dCB rIntD (dCons (dOp (tCm .none .none (fun i j => decide (i < j))) (dVar 4) (dC (.int 0))) (dNil)))) (gN 5)) (dSeq (dAsg (dOp (tFdiv .none) (dCB rIntD (dCons (dVar 5) (dNil))) (dVar 1)) (gSetL (dVar 0) (dC (.int 2)))) (dRet (dOp (tMod .none) (dCB rIntD (dCons (dVar 5) (dNil))) (dVar 1))))) (dNext)) (dSeq (dAsg (dOp (tMod .none) (dCB rIntD (dCons (dOp tPow (dOp (Mv.tAdd .none .none) (dOp (Mv.tAdd .none .none) (dOp (tMod .none) (dCB rIntD (dCons (dVar 4) (dNil))) (dC (.int 2147483549))) (dOp (Mv.tMul .none .none) (dC (.int 50021)) (dVar 3))) (dC (.int 499))) (dC (.int 5))) (dNil))) (dC (.int 2147483629))) (gN 6)) (dSeq (dAsg (dOp (tMod .none) (dCB rIntD (dCons (dOp tPow (dOp (Mv.tAdd .none .none) (dOp (Mv.tAdd .none .none) (dOp (Mv.tMul .none .none) (dVar 6) (dOp (Mv.tAdd .none .none) (dOp (Mv.tMul .none .none) (dC (.int 2)) (dVar 3)) (dC (.int 173)))) (dOp (Mv.tMul .none .none) (dOp (Mv.tMul .none .none) (dC (.int 55163)) (dVar 3)) (dVar 3))) (dC (.int 97))) (dC (.int 3))) (dNil))) (dC (.int 2147483587))) (gN 6)) (dRet (dOp (tMod .none) (dCB rIntD (dCons (dOp (tFdiv .none) (dVar 6) (dC (.int 32))) (dNil))) (dVar 1))))))))))
def t__law_pick (S : Sy) : DS := dRet (dOp tIx (dVar 1) (dCall 2 [] (sp__law_draw S) (dCons (dVar 0) (dCons (dCB rLenD (dCons (dVar 1) (dNil))) (dNil)))))
def t__law_number (S : Sy) : DS := dSeq (dAsg (dCall 2 [] (sp__law_pick S) (dCons (dVar 0) (dCons (dLst (dCons (dC (.int 3)) (dCons (dC (.int 10)) (dCons (dC (.int 60)) (dCons (dOp tPow (dC (.int 10)) (dC (.int 6))) (dCons (dOp tPow (dC (.int 10)) (dC (.int 18))) (dNil))))))) (dNil)))) (gN 1)) (dSeq (dAsg (dCall 2 [] (sp__law_draw S) (dCons (dVar 0) (dCons (dVar 1) (dNil)))) (gN 2)) (dSeq (dIfS (dTbl (dOp (rEqQ (qA S.cl) false 6) (dCall 2 [] (sp__law_draw S) (dCons (dVar 0) (dCons (dC (.int 4)) (dNil)))) (dC (.int 0)))) (dAsg (dOp (Mv.tAdd (mAdd S) (mRadd S)) (dOp (Mv.tMul (mMul S) (mRmul S)) (dVar 2) (dOp tPow (dC (.int 10)) (dC (.int 22)))) (dCall 2 [] (sp__law_draw S) (dCons (dVar 0) (dCons (dOp tPow (dC (.int 10)) (dC (.int 9))) (dNil))))) (gN 2)) (dNext)) (dRet (dIf (dTbl (dOp (rEqQ (qA S.cl) false 6) (dCall 2 [] (sp__law_draw S) (dCons (dVar 0) (dCons (dC (.int 2)) (dNil)))) (dC (.int 0)))) (dVar 2) (dOp (Mv.tSub (mSub S) (mRsub S)) (dC (.int 0)) (dVar 2))))))
def t__law_divisor (S : Sy) : DS := dSeq (dPar 2 3 (dCons (dB1 (mAbs S) some rAbsD (dVar 0)) (dCons (dB1 (mAbs S) some rAbsD (dVar 1)) (dNil)))) (dSeq (dWhile (dTbl (dOp (rEqQ (qA S.cl) true 6) (dVar 3) (dC (.int 0)))) (dPar 2 3 (dCons (dVar 3) (dCons (dOp (tMod (mMod S)) (dCB rIntD (dCons (dVar 2) (dNil))) (dVar 3)) (dNil))))) (dRet (dVar 2)))
def t__law_heard (S : Sy) (q : Str) (f c : Addr) (F0 : Hp) (td : LD) : DS := dSeq (dAsg (dC .non) (gN 1)) (dSeq (dTryK (lkX [(3, true)]) 2 1 (dDrop (dAct f c q F0 td))) (dSeq (dIfS (dTbl (dOp (rIsN false) (dVar 1) (dC .non))) (dRet (dC .non)) (dNext)) (dRet (dIf (dTst (dCB (rIsX (.ptr (S.ca 3)) (lkX [(3, true)])) (dCons (dVar 1) (dCons (dC (.ptr (S.ca 3))) (dNil))))) (dXat [3] 44 (dVar 1)) (dC (.str "odd"))))))
def t__law_right (S : Sy) : DS := dSeq (dPar 1 2 (dCons (dCall 1 [] (sp__law_number S) (dCons (dVar 0) (dNil))) (dCons (dCall 1 [] (sp__law_number S) (dCons (dVar 0) (dNil))) (dNil)))) (dSeq (dPar 2 3 (dCons (dIf (dTbl (dOp (rEqQ (qA S.cl) true 6) (dVar 2) (dC (.int 0)))) (dVar 2) (dC (.int 7))) (dCons (dOp (Mv.tAdd (mAdd S) (mRadd S)) (dC (.int 1)) (dCall 2 [] (sp__law_draw S) (dCons (dVar 0) (dCons (dC (.int 30)) (dNil))))) (dNil)))) (dSeq (dPar 4 5 (dCons (dFrz (dMake 0 3 [.int 1] (sp_Amount_init S) (dCons (dOp (Mv.tMul (mMul S) (mRmul S)) (dVar 1) (dVar 3)) (dCons (dOp (Mv.tMul (mMul S) (mRmul S)) (dVar 2) (dVar 3)) (dNil))))) (dCons (dCall 2 [] (sp__law_divisor S) (dCons (dVar 1) (dCons (dVar 2) (dNil)))) (dNil)))) (dSeq (dAsg (dIf (dTbl (dOp (tCm (mGt S) (mLt S) (fun i j => decide (j < i))) (dVar 2) (dC (.int 0)))) (dC (.int 1)) (dNegO (mNeg S) (dC (.int 1)))) (gN 6)) (dSeq (dAsg (dTup (dCons (dOp (tFdiv (mFdv S)) (dOp (Mv.tMul (mMul S) (mRmul S)) (dVar 6) (dVar 1)) (dVar 5)) (dCons (dOp (tFdiv (mFdv S)) (dOp (Mv.tMul (mMul S) (mRmul S)) (dVar 6) (dVar 2)) (dVar 5)) (dNil)))) (gN 7)) (dSeq (dIfS (dOr (dTbl (dOp (rEqQ (qA S.cl) true 6) (dCB rRepr (dCons (dTup (dCons (dAttr (a_top S) 75 (dVar 4)) (dCons (dAttr (a_bottom S) 71 (dVar 4)) (dNil)))) (dNil))) (dCB rRepr (dCons (dVar 7) (dNil))))) (dTbl (dOp (rEqQ (qA S.cl) true 6) (dB1 (mBool S) isBl rBoolD (dVar 4)) (dOp (rEqQ (qA S.cl) true 6) (dVar 1) (dC (.int 0)))))) (dRet (dC (.bl false))) (dNext)) (dSeq (dAsg (dIf (dTbl (dOp (rEqQ (qA S.cl) false 6) (dOp tIx (dVar 7) (dC (.int 1))) (dC (.int 1)))) (dB1 (mStr S) isStr rStrD (dOp tIx (dVar 7) (dC (.int 0)))) (dOp (Mv.tAdd (mAdd S) (mRadd S)) (dOp (Mv.tAdd (mAdd S) (mRadd S)) (dB1 (mStr S) isStr rStrD (dOp tIx (dVar 7) (dC (.int 0)))) (dC (.str "/"))) (dB1 (mStr S) isStr rStrD (dOp tIx (dVar 7) (dC (.int 1)))))) (gN 8)) (dSeq (dIfS (dOr (dTbl (dOp (rEqQ (qA S.cl) true 6) (dB1 (mStr S) isStr rStrD (dVar 4)) (dVar 8))) (dOr (dTbl (dOp (rEqQ (qA S.cl) true 6) (dVar 4) (dFrz (dMakeK 0 2 [0, 2, 1] (sp_Amount_init S) (dCons (dOp (Mv.tSub (mSub S) (mRsub S)) (dC (.int 0)) (dVar 2)) (dCons (dOp (Mv.tSub (mSub S) (mRsub S)) (dC (.int 0)) (dVar 1)) (dNil))))))) (dTbl (dOp (rEqQ (qA S.cl) true 6) (dSm (S.ca 0) 1 [] (sp_Amount_of S) (dC (.ptr (S.ca 0))) (dCons (dVar 4) (dNil))) (dVar 4))))) (dRet (dC (.bl false))) (dNext)) (dSeq (dIfS (dTbl (dOp (rEqQ (qA S.cl) true 6) (dCB rRepr (dCons (dLst (dCons (dOp (rEqQ (qA S.cl) false 6) (dVar 4) (dOp tIx (dVar 7) (dC (.int 0)))) (dCons (dOp (rEqQ (qA S.cl) false 6) (dOp tIx (dVar 7) (dC (.int 0))) (dVar 4)) (dCons (dOp (rEqQ (qA S.cl) true 6) (dVar 4) (dOp tIx (dVar 7) (dC (.int 0)))) (dNil))))) (dNil))) (dCB rRepr (dCons (dLst (dCons (dOp (rEqQ (qA S.cl) false 6) (dOp tIx (dVar 7) (dC (.int 1))) (dC (.int 1))) (dCons (dOp (rEqQ (qA S.cl) false 6) (dOp tIx (dVar 7) (dC (.int 1))) (dC (.int 1))) (dCons (dOp (rEqQ (qA S.cl) true 6) (dOp tIx (dVar 7) (dC (.int 1))) (dC (.int 1))) (dNil))))) (dNil))))) (dRet (dC (.bl false))) (dNext)) (dSeq (dIfS (dOr (dTbl (dOp (rEqQ (qA S.cl) false 6) (dVar 4) (dFrz (dMake 0 3 [.int 1] (sp_Amount_init S) (dCons (dOp (Mv.tAdd (mAdd S) (mRadd S)) (dVar 1) (dC (.int 1))) (dCons (dVar 2) (dNil))))))) (dTbl (dOp (tIn (qA S.cl) false 6) (dVar 4) (dLst (dCons (dC .non) (dCons (dVar 8) (dCons (dVar 7) (dCons (dLst (dCons (dVar 4) (dNil))) (dCons (dC (.bl true)) (dCons (dC (.bl false)) (dCons (dC (.str "")) (dNil)))))))))))) (dRet (dC (.bl false))) (dNext)) (dSeq (dAsg (dSmK (S.ca 0) 1 [0] (sp_Amount_of S) (dC (.ptr (S.ca 0))) (dCons (dVar 1) (dNil))) (gN 9)) (dRet (dAndV (dCB (rIsiD (.ptr (S.ca 0)) (isiOwn [0] S.cl)) (dCons (dVar 9) (dCons (dC (.ptr (S.ca 0))) (dNil)))) (dAndV (dOp (rEqQ (qA S.cl) false 6) (dTup (dCons (dAttr (a_top S) 75 (dVar 9)) (dCons (dAttr (a_bottom S) 71 (dVar 9)) (dNil)))) (dTup (dCons (dVar 1) (dCons (dC (.int 1)) (dNil))))) (dOp (rEqQ (qA S.cl) false 6) (dFrz (dMake 0 3 [.int 1] (sp_Amount_init S) (dCons (dVar 1) (dNil)))) (dVar 9)))))))))))))))
def t__law_refused_right (S : Sy) : DS := dSeq (dAsg (dCall 2 [] (sp__law_pick S) (dCons (dVar 0) (dCons (dLst (dCons (dC .non) (dCons (dC (.bl true)) (dCons (dC (.bl false)) (dCons (dC (.str "3")) (dCons (dTup (dCons (dC (.int 3)) (dNil))) (dCons (dLst (dNil)) (dCons (dDct0) (dCons (dFrz (dMake 0 3 [.int 1] (sp_Amount_init S) (dCons (dC (.int 1)) (dCons (dC (.int 2)) (dNil))))) (dNil)))))))))) (dNil)))) (gN 1)) (dSeq (dAsg (dCall 2 [] (sp__law_pick S) (dCons (dVar 0) (dCons (dLst (dCons (dC .non) (dCons (dC (.int 0)) (dCons (dC (.bl true)) (dCons (dC (.str "1")) (dCons (dTup (dCons (dC (.int 1)) (dNil))) (dCons (dLst (dCons (dC (.int 2)) (dNil))) (dCons (dDct0) (dCons (dFrz (dMake 0 3 [.int 1] (sp_Amount_init S) (dCons (dC (.int 3)) (dNil)))) (dNil)))))))))) (dNil)))) (gN 2)) (dSeq (dAsg (dCall 1 [] (sp__law_number S) (dCons (dVar 0) (dNil))) (gN 3)) (dSeq (dAsg (dLstM (dCons (dLam (sp__law_heard S) (dFrz (dMake 0 3 [.int 1] (sp_Amount_init S) (dCons (dVar 1) (dCons (dVar 2) (dNil)))))) (dNil))) (gN 4)) (dSeq (dDrop (dBM "list" mAppend (dVar 4) (dCons (dLam (sp__law_heard S) (dFrz (dMake 0 3 [.int 1] (sp_Amount_init S) (dCons (dVar 1) (dNil))))) (dNil)))) (dSeq (dDrop (dBM "list" mAppend (dVar 4) (dCons (dLam (sp__law_heard S) (dFrz (dMake 0 3 [.int 1] (sp_Amount_init S) (dCons (dVar 3) (dCons (dVar 2) (dNil)))))) (dNil)))) (dSeq (dDrop (dBM "list" mAppend (dVar 4) (dCons (dLam (sp__law_heard S) (dFrz (dMakeK 0 2 [0, 2, 1] (sp_Amount_init S) (dCons (dVar 2) (dCons (dVar 3) (dNil)))))) (dNil)))) (dSeq (dAsg (dCall 2 [] (sp__law_pick S) (dCons (dVar 0) (dCons (dLst (dCons (dC .non) (dCons (dC (.bl true)) (dCons (dC (.str "3")) (dCons (dTup (dCons (dC (.int 3)) (dNil))) (dCons (dLst (dNil)) (dCons (dDct0) (dNil)))))))) (dNil)))) (gN 5)) (dSeq (dDrop (dBM "list" mAppend (dVar 4) (dCons (dLam (sp__law_heard S) (dSm (S.ca 0) 1 [] (sp_Amount_of S) (dC (.ptr (S.ca 0))) (dCons (dVar 5) (dNil)))) (dNil)))) (dSeq (dDrop (dBM "list" mAppend (dVar 4) (dCons (dLam (sp__law_heard S) (dFrz (dMake 0 3 [.int 1] (sp_Amount_init S) (dCons (dVar 3) (dNil))))) (dNil)))) (dRet (dOp (rEqQ (qA S.cl) false 6) (dFrz (dVar 4)) (dLst (dCons (dC (.str "top")) (dCons (dC (.str "top")) (dCons (dC (.str "bottom")) (dCons (dC (.str "bottom")) (dCons (dC (.str "value")) (dCons (dC .non) (dNil)))))))))))))))))))
def t_law (S : Sy) : DS := dSeq (dAsg (dCall 1 [] (sp__law_pen S) (dCons (dVar 0) (dNil))) (gN 1)) (dSeq (dFor (iRng1d (dCons (dC (.int 10)) (dNil))) (gN 2) (dIfS (dOr (dNot (dTst (dCall 1 [] (sp__law_right S) (dCons (dVar 1) (dNil))))) (dNot (dTst (dCall 1 [] (sp__law_refused_right S) (dCons (dVar 1) (dNil)))))) (dRet (dC (.bl false))) (dNext))) (dRet (dOp (rEqQ (qA S.cl) false 6) (dLst (dCons (dAttr (a_bottom S) 71 (dFrz (dMake 0 3 [.int 1] (sp_Amount_init S) (dCons (dC (.int 0)) (dCons (dNegO (mNeg S) (dC (.int 5))) (dNil)))))) (dCons (dB1 (mStr S) isStr rStrD (dFrz (dMake 0 3 [.int 1] (sp_Amount_init S) (dCons (dC (.int 0)) (dCons (dNegO (mNeg S) (dC (.int 5))) (dNil)))))) (dCons (dOp (rEqQ (qA S.cl) false 6) (dFrz (dMake 0 3 [.int 1] (sp_Amount_init S) (dCons (dC (.int 0)) (dCons (dC (.int 9)) (dNil))))) (dC (.int 0))) (dCons (dB1 (mBool S) isBl rBoolD (dFrz (dMake 0 3 [.int 1] (sp_Amount_init S) (dCons (dC (.int 0)) (dNil))))) (dNil)))))) (dLst (dCons (dC (.int 1)) (dCons (dC (.str "0")) (dCons (dC (.bl true)) (dCons (dC (.bl false)) (dNil)))))))))
end Mv
end
section
set_option Elab.async false
set_option linter.all false
set_option maxRecDepth 100000
set_option maxHeartbeats 4000000
namespace Mv
open PySem PySem.Spec L2
theorem len_is_integer (S : Sy) : ∀ ds W Q E, sp_is_integer S ds W Q E → ds.length = 1 := fun ds W Q E h => by
  match ds, h with
  | [d], h => rfl
theorem pf_is_integer (S : Sy) : ∀ ds W Q2 E2, sp_is_integer S ds W Q2 E2 → t_is_integer S { nx := fun _ W => Q2 .non W, rt := Q2 } (startD ["value"] ds) W (fun x _ W => E2 x W) := by
  intro ds W Q E h
  match ds, h with
  | [d], h =>
    obtain ⟨⟨t, ht, ho⟩, q⟩ := h
    rw [isIntD_tk ht] at q
    simp only [↓dSeq_e, ↓dNext_e, ↓dBreak_e, ↓dCont_e, ↓dNever_e, ↓dRet_e, ↓dRetN_e, ↓dDrop_e, ↓dIfS_e, ↓dAsg_e, ↓dPar_e, ↓dPar3_e, ↓gN_e, ↓gTp_e, ↓gNs_e, ↓gN0_e, ↓dVar_e, ↓dC_e, ↓dCB_e, ↓dCons_e, ↓dNil_e, ↓dTup_e, ↓dLst_e, ↓dLstM_e, ↓dOpMul_e, ↓dOpAdd_e, ↓dOpSub_e, ↓dOpFdv_e, ↓dOpMod_e, ↓dOpPow_e, ↓dOpCm_e, ↓dOpEq_e, ↓dOpIn_e, ↓dOpIs_e, ↓dTst_e, ↓dTbl_e, ↓dNot_e, ↓dAnd_e, ↓dOr_e, ↓dAndV_e, ↓dOrV_e, ↓dNotV_e, ↓dIf_e, ↓dCall_e, ↓dSm_e, ↓dCm_e, ↓dMeth_e, ↓dFor_e, ↓iSq_e, ↓iRng1_e, ↓dNeg_e, ↓dNegO_e, ↓dFld_e, ↓dLc_e, ↓dBM_e, ↓dFmt_e, ↓dB1_e, ↓dSl_e, ↓dPart_e, ↓dNoPart_e, ↓dfl_e0, ↓tMul_ii, ↓tAdd_ii, ↓tSub_ii, ↓tFdiv_ii, ↓tMod_ii, ↓tPow_ii, ↓tCm_ii, ↓rdP0, ↓rdP1, ↓rdV0, ↓rdV1, ↓rdA,
      kBl, kTru, rIsN_f, rIsN_t, isNon_non, isNon_int, isNon_str, isNon_tup, isNon_lst, isNon_parts, isNon_amt, rIsiD, kSome, startD, kI2, rInt2,
      List.map_cons, List.map_nil, List.length_cons, List.length_nil, List.cons_append, List.nil_append, List.getElem?_cons_zero, List.getElem?_cons_succ, List.replicate, Nat.reduceSub, Nat.reduceAdd, Nat.reduceLeDiff, Nat.zero_add, Nat.add_zero, Nat.sub_self, Nat.sub_zero, List.set_cons_zero, List.set_cons_succ, List.append_nil, List.drop, List.drop_zero,
      Option.some.injEq, exists_eq_left', exists_eq_left, true_and, and_true, if_true, if_false, Bool.false_eq_true, Bool.not_true, Bool.not_false, ite_true, ite_false, reduceIte, reduceCtorEq, Nat.le_refl, t_is_integer, ht]
    cases t with
    | own c => simpa [isiInt, isiTy, ho c rfl] using q
    | _ => simpa [isiInt, isiTy] using q
/-! ### the greatest common divisor -/
theorem len_common_divisor (S : Sy) : ∀ ds W Q E, sp_common_divisor S ds W Q E → ds.length = 2 := fun ds W Q E h => by
  match ds, h with
  | [.int a, .int b], h => rfl
theorem eqI {q : EqI} (a b : Int) : eqD q (.int a) (.int b) = some (a == b) := rfl
theorem eqS {q : EqI} (a b : Str) : eqD q (.str a) (.str b) = some (a == b) := rfl
theorem dpI (a : Int) : (D.int a).dp ≤ 6 := Nat.zero_le _
theorem dpS (a : Str) : (D.str a).dp ≤ 6 := Nat.zero_le _
theorem gcd_step {hi lo : Int} (h1 : 0 ≤ hi) (h2 : 0 ≤ lo) : Int.gcd lo (hi % lo) = Int.gcd hi lo := by
  obtain ⟨x, rfl⟩ := Int.eq_ofNat_of_zero_le h1
  obtain ⟨y, rfl⟩ := Int.eq_ofNat_of_zero_le h2
  rw [← Int.natCast_emod, Int.gcd_natCast_natCast, Int.gcd_natCast_natCast, Nat.gcd_comm x y, Nat.gcd_rec y x, Nat.gcd_comm]
theorem pf_common_divisor (S : Sy) : ∀ ds W Q2 E2, sp_common_divisor S ds W Q2 E2 → t_common_divisor S { nx := fun _ W => Q2 .non W, rt := Q2 } (startD ["one", "other", "high", "low"] ds) W (fun x _ W => E2 x W) := by
  intro ds W Q E h
  match ds, h with
  | [.int a, .int b], h =>
    obtain ⟨ha, hb, q⟩ := h
    simp only [↓dSeq_e, ↓dNext_e, ↓dBreak_e, ↓dCont_e, ↓dNever_e, ↓dRet_e, ↓dRetN_e, ↓dDrop_e, ↓dIfS_e, ↓dAsg_e, ↓dPar_e, ↓dPar3_e, ↓gN_e, ↓gTp_e, ↓gNs_e, ↓gN0_e, ↓dVar_e, ↓dC_e, ↓dCB_e, ↓dCons_e, ↓dNil_e, ↓dTup_e, ↓dLst_e, ↓dLstM_e, ↓dOpMul_e, ↓dOpAdd_e, ↓dOpSub_e, ↓dOpFdv_e, ↓dOpMod_e, ↓dOpPow_e, ↓dOpCm_e, ↓dOpEq_e, ↓dOpIn_e, ↓dOpIs_e, ↓dTst_e, ↓dTbl_e, ↓dNot_e, ↓dAnd_e, ↓dOr_e, ↓dAndV_e, ↓dOrV_e, ↓dNotV_e, ↓dIf_e, ↓dCall_e, ↓dSm_e, ↓dCm_e, ↓dMeth_e, ↓dFor_e, ↓iSq_e, ↓iRng1_e, ↓dNeg_e, ↓dNegO_e, ↓dFld_e, ↓dLc_e, ↓dBM_e, ↓dFmt_e, ↓dB1_e, ↓dSl_e, ↓dPart_e, ↓dNoPart_e, ↓dfl_e0, ↓tMul_ii, ↓tAdd_ii, ↓tSub_ii, ↓tFdiv_ii, ↓tMod_ii, ↓tPow_ii, ↓tCm_ii, ↓rdP0, ↓rdP1, ↓rdV0, ↓rdV1, ↓rdA,
      kBl, kTru, rIsN_f, rIsN_t, isNon_non, isNon_int, isNon_str, isNon_tup, isNon_lst, isNon_parts, isNon_amt, rIsiD, kSome, startD, kI2, rInt2,
      List.map_cons, List.map_nil, List.length_cons, List.length_nil, List.cons_append, List.nil_append, List.getElem?_cons_zero, List.getElem?_cons_succ, List.replicate, Nat.reduceSub, Nat.reduceAdd, Nat.reduceLeDiff, Nat.zero_add, Nat.add_zero, Nat.sub_self, Nat.sub_zero, List.set_cons_zero, List.set_cons_succ, List.append_nil, List.drop, List.drop_zero,
      Option.some.injEq, exists_eq_left', exists_eq_left, true_and, and_true, if_true, if_false, Bool.false_eq_true, Bool.not_true, Bool.not_false, ite_true, ite_false, reduceIte, reduceCtorEq, Nat.le_refl, t_common_divisor, dWhile]
    refine ⟨fun m sd W' => W' = W ∧ ∃ hi lo : Int, sd = [some (.int a), some (.int b), some (.int hi), some (.int lo)] ∧ 0 ≤ hi ∧ 0 ≤ lo ∧ Int.gcd hi lo = Int.gcd a b ∧ m = lo.toNat, ⟨_, rfl, a, b, rfl, ha, hb, rfl, rfl⟩, ?_⟩
    rintro m sd W' ⟨rfl, hi, lo, rfl, h1, h2, h3, rfl⟩
    simp only [↓dSeq_e, ↓dNext_e, ↓dBreak_e, ↓dCont_e, ↓dNever_e, ↓dRet_e, ↓dRetN_e, ↓dDrop_e, ↓dIfS_e, ↓dAsg_e, ↓dPar_e, ↓dPar3_e, ↓gN_e, ↓gTp_e, ↓gNs_e, ↓gN0_e, ↓dVar_e, ↓dC_e, ↓dCB_e, ↓dCons_e, ↓dNil_e, ↓dTup_e, ↓dLst_e, ↓dLstM_e, ↓dOpMul_e, ↓dOpAdd_e, ↓dOpSub_e, ↓dOpFdv_e, ↓dOpMod_e, ↓dOpPow_e, ↓dOpCm_e, ↓dOpEq_e, ↓dOpIn_e, ↓dOpIs_e, ↓dTst_e, ↓dTbl_e, ↓dNot_e, ↓dAnd_e, ↓dOr_e, ↓dAndV_e, ↓dOrV_e, ↓dNotV_e, ↓dIf_e, ↓dCall_e, ↓dSm_e, ↓dCm_e, ↓dMeth_e, ↓dFor_e, ↓iSq_e, ↓iRng1_e, ↓dNeg_e, ↓dNegO_e, ↓dFld_e, ↓dLc_e, ↓dBM_e, ↓dFmt_e, ↓dB1_e, ↓dSl_e, ↓dPart_e, ↓dNoPart_e, ↓dfl_e0, ↓tMul_ii, ↓tAdd_ii, ↓tSub_ii, ↓tFdiv_ii, ↓tMod_ii, ↓tPow_ii, ↓tCm_ii, ↓rdP0, ↓rdP1, ↓rdV0, ↓rdV1, ↓rdA,
      kBl, kTru, rIsN_f, rIsN_t, isNon_non, isNon_int, isNon_str, isNon_tup, isNon_lst, isNon_parts, isNon_amt, rIsiD, kSome, startD, kI2, rInt2,
      List.map_cons, List.map_nil, List.length_cons, List.length_nil, List.cons_append, List.nil_append, List.getElem?_cons_zero, List.getElem?_cons_succ, List.replicate, Nat.reduceSub, Nat.reduceAdd, Nat.reduceLeDiff, Nat.zero_add, Nat.add_zero, Nat.sub_self, Nat.sub_zero, List.set_cons_zero, List.set_cons_succ, List.append_nil, List.drop, List.drop_zero,
      Option.some.injEq, exists_eq_left', exists_eq_left, true_and, and_true, if_true, if_false, Bool.false_eq_true, Bool.not_true, Bool.not_false, ite_true, ite_false, reduceIte, reduceCtorEq, Nat.le_refl, rEqQ, eqI]
    refine ⟨Nat.zero_le _, ?_⟩
    by_cases h0 : lo = 0
    · subst h0
      simp only [beq_self_eq_true, Bool.not_true, Bool.false_eq_true, if_false]
      have : hi = (Int.gcd a b : Int) := by
        rw [← h3, Int.gcd_zero_right]
        omega
      rw [this]
      exact q
    · have e : (lo == 0) = false := by simpa using h0
      simp only [e, Bool.not_false, if_true]
      refine ⟨by omega, (hi % lo).toNat, ?_, lo, hi % lo, rfl, h2, Int.emod_nonneg _ h0, ?_, rfl⟩
      · have := Int.emod_lt_of_pos hi (show 0 < lo by omega)
        have := Int.emod_nonneg hi h0
        omega
      · rw [← h3]
        exact gcd_step h1 h2
/-! ### lowest terms -/
theorem divInt_parts {t b : Int} (hb : b ≠ 0) : partsD (Rat.divInt t b) = .tup [.int ((if b < 0 then -t else t) / (Int.gcd t b : Int)), .int ((if b < 0 then -b else b) / (Int.gcd t b : Int))] := by
  unfold partsD
  cases b with
  | ofNat n =>
    have hn : n ≠ 0 := fun e => hb (by rw [e]; rfl)
    have e : Rat.divInt t (Int.ofNat n) = Rat.normalize t n hn := by
      show mkRat t n = _
      unfold mkRat
      rw [dif_neg hn]
    rw [e, Rat.normalize_eq]
    have h0 : ¬ (Int.ofNat n < 0) := by simp
    rw [if_neg h0, if_neg h0]
    simp [Int.gcd]
  | negSucc n =>
    have e : Rat.divInt t (Int.negSucc n) = Rat.normalize (-t) (n + 1) (Nat.succ_ne_zero n) := rfl
    rw [e, Rat.normalize_eq]
    have h0 : Int.negSucc n < 0 := Int.negSucc_lt_zero n
    rw [if_pos h0, if_pos h0]
    simp [Int.gcd]
theorem gcd_abs (a b : Int) : Int.gcd (if a < 0 then -a else a) (if b < 0 then -b else b) = Int.gcd a b := by
  unfold Int.gcd
  congr 1 <;> split <;> simp
theorem abs_nn (a : Int) : 0 ≤ (if a < 0 then -a else a) := by split <;> omega
theorem len_lowest (S : Sy) : ∀ ds W Q E, sp_lowest S ds W Q E → ds.length = 2 := fun ds W Q E h => by
  match ds, h with
  | [.int a, .int b], h => rfl
theorem gcd_small {t b : Int} {n : Nat} (hb : b ≠ 0) (h : b.natAbs < 2 ^ n) (h0 : 0 < n) (h9 : n ≤ 9000) (i : Int) : CDivW i (Int.gcd t b : Int) := by
  have hp : 0 < Int.gcd t b := Int.gcd_pos_of_ne_zero_right t hb
  have hle : Int.gcd t b ≤ b.natAbs := Nat.gcd_le_right _ (by omega)
  exact wide_div (b := n) (by omega) (by rw [Int.natAbs_natCast]; exact Nat.lt_of_le_of_lt hle h) h0 h9
theorem pf_lowest (S : Sy) : ∀ ds W Q2 E2, sp_lowest S ds W Q2 E2 → t_lowest S { nx := fun _ W => Q2 .non W, rt := Q2 } (startD ["top", "bottom", "size"] ds) W (fun x _ W => E2 x W) := by
  intro ds W Q E h
  match ds, h with
  | [.int t, .int b], h =>
    obtain ⟨hb, hz, q⟩ := h
    rw [divInt_parts hb] at q
    simp only [↓dSeq_e, ↓dNext_e, ↓dBreak_e, ↓dCont_e, ↓dNever_e, ↓dRet_e, ↓dRetN_e, ↓dDrop_e, ↓dIfS_e, ↓dAsg_e, ↓dPar_e, ↓dPar3_e, ↓gN_e, ↓gTp_e, ↓gNs_e, ↓gN0_e, ↓dVar_e, ↓dC_e, ↓dCB_e, ↓dCons_e, ↓dNil_e, ↓dTup_e, ↓dLst_e, ↓dLstM_e, ↓dOpMul_e, ↓dOpAdd_e, ↓dOpSub_e, ↓dOpFdv_e, ↓dOpMod_e, ↓dOpPow_e, ↓dOpCm_e, ↓dOpEq_e, ↓dOpIn_e, ↓dOpIs_e, ↓dTst_e, ↓dTbl_e, ↓dNot_e, ↓dAnd_e, ↓dOr_e, ↓dAndV_e, ↓dOrV_e, ↓dNotV_e, ↓dIf_e, ↓dCall_e, ↓dSm_e, ↓dCm_e, ↓dMeth_e, ↓dFor_e, ↓iSq_e, ↓iRng1_e, ↓dNeg_e, ↓dNegO_e, ↓dFld_e, ↓dLc_e, ↓dBM_e, ↓dFmt_e, ↓dB1_e, ↓dSl_e, ↓dPart_e, ↓dNoPart_e, ↓dfl_e0, ↓tMul_ii, ↓tAdd_ii, ↓tSub_ii, ↓tFdiv_ii, ↓tMod_ii, ↓tPow_ii, ↓tCm_ii, ↓rdP0, ↓rdP1, ↓rdV0, ↓rdV1, ↓rdA,
      kBl, kTru, rIsN_f, rIsN_t, isNon_non, isNon_int, isNon_str, isNon_tup, isNon_lst, isNon_parts, isNon_amt, rIsiD, kSome, startD, kI2, rInt2,
      List.map_cons, List.map_nil, List.length_cons, List.length_nil, List.cons_append, List.nil_append, List.getElem?_cons_zero, List.getElem?_cons_succ, List.replicate, Nat.reduceSub, Nat.reduceAdd, Nat.reduceLeDiff, Nat.zero_add, Nat.add_zero, Nat.sub_self, Nat.sub_zero, List.set_cons_zero, List.set_cons_succ, List.append_nil, List.drop, List.drop_zero,
      Option.some.injEq, exists_eq_left', exists_eq_left, true_and, and_true, if_true, if_false, Bool.false_eq_true, Bool.not_true, Bool.not_false, ite_true, ite_false, reduceIte, reduceCtorEq, Nat.le_refl, t_lowest, rAbsD, sp_common_divisor, gcd_abs, abs_nn]
    have g := gcd_small (t := t) hb hz (by decide) (by decide)
    by_cases hn : b < 0
    · simp only [hn, decide_true, if_true] at q ⊢
      simpa [g] using q
    · simp only [hn, decide_false, if_false, Bool.false_eq_true] at q ⊢
      simpa [g] using q
/-! ### the parts of a number -/
theorem spi_int {S : Sy} {i : Int} {W : Wd} {Q E : QD} : sp_is_integer S [.int i] W Q E = Q (.bl true) W := by
  simp [sp_is_integer, tkD, isIntD]
theorem partsD_int (i : Int) : partsD (i : Rat) = .tup [.int i, .int 1] := rfl
theorem tkD_amt {W : Wd} {p : Rat} : tkD W (amt p) = some (.own 0) := rfl
theorem knQ {S : Sy} {W : Wd} {d : D} {q : Rat} (h0 : 0 ∈ S.cl) (h : toQ d = some q) : knD S W d := by
  rcases toQ_some h with ⟨i, rfl, e⟩ | rfl
  · exact ⟨⟨.int, rfl, fun j e => (by cases e)⟩, fun h => h.elim⟩
  · exact ⟨⟨.own 0, rfl, fun j e => by cases e; exact h0⟩, fun _ => ⟨q, rfl⟩⟩
theorem len_parts_of (S : Sy) : ∀ ds W Q E, sp_parts_of S ds W Q E → ds.length = 1 := fun ds W Q E h => by
  match ds, h with
  | [d], h => rfl
theorem own0 {W : Wd} {d : D} (h : tkD W d = some (.own 0)) : kIns W d (fun c _ => c = 0) := by
  cases d with
  | ins c fs => cases h; rfl
  | ptr a =>
    cases e : W a with
    | none => simp only [tkD, e] at h; cases h
    | some m =>
      simp only [tkD, e] at h
      cases m with
      | ins c fs => cases h; simp only [kIns, e]
      | _ => cases h
  | _ => cases h
theorem odd_of {W : Wd} {d : D} {t : TK} {cl : List Nat} (ht : tkD W d = some t) (ho : ∀ j, t = .own j → j ∈ cl) (hk : kIns W d (fun c _ => c = 0) → ∃ q, d = amt q) (hq : toQ d = none) : isiOwn [0] cl t = some false ∧ isIntD d = false := by
  have hi : t ≠ .int := fun e => by
    have := isIntD_tk ht
    rw [e] at this
    cases d <;> simp [isIntD] at this
    cases hq
  have h00 : t ≠ .own 0 := fun e => by
    obtain ⟨r, rfl⟩ := hk (own0 (by rw [ht, e]))
    rw [toQ_amt] at hq
    cases hq
  refine ⟨?_, by rw [isIntD_tk ht]; simpa using hi⟩
  cases t with
  | own c =>
    have hc : c ≠ 0 := fun e => h00 (by rw [e])
    simp [isiOwn, ho c rfl, hc]
  | _ => rfl
theorem intD_n {d : D} (h : intD d = none) : isIntD d = false := by
  cases d <;> first | rfl | cases h
theorem intD_s {d : D} {i : Int} (h : intD d = some i) : d = .int i := by
  cases d <;> first | (cases h; rfl) | cases h
theorem spi_odd {S : Sy} {d : D} {W : Wd} {Q E : QD} (h : isIntD d = false) : sp_is_integer S [d] W Q E = (knT S W d ∧ Q (.bl false) W) := by
  show ((∃ t, tkD W d = some t ∧ ∀ j, t = .own j → j ∈ S.cl) ∧ Q (.bl (isIntD d)) W) = _
  rw [h]
  rfl
theorem knT_int {S : Sy} {W : Wd} {i : Int} : knT S W (.int i) := ⟨.int, rfl, fun j e => (by cases e)⟩
theorem pf_parts_of (S : Sy) : ∀ ds W Q2 E2, sp_parts_of S ds W Q2 E2 → t_parts_of S { nx := fun _ W => Q2 .non W, rt := Q2 } (startD ["value"] ds) W (fun x _ W => E2 x W) := by
  intro ds W Q E h
  match ds, h with
  | [d], h =>
    obtain ⟨⟨⟨t, ht, ho⟩, hk⟩, h0, q⟩ := h
    cases hq : toQ d with
    | some r =>
      rw [hq] at q
      rcases toQ_some hq with ⟨i, rfl, rfl⟩ | rfl
      · have q : Q (.tup [.int i, .int 1]) W := q
        simp only [↓dSeq_e, ↓dNext_e, ↓dBreak_e, ↓dCont_e, ↓dNever_e, ↓dRet_e, ↓dRetN_e, ↓dDrop_e, ↓dIfS_e, ↓dAsg_e, ↓dPar_e, ↓dPar3_e, ↓gN_e, ↓gTp_e, ↓gNs_e, ↓gN0_e, ↓dVar_e, ↓dC_e, ↓dCB_e, ↓dCons_e, ↓dNil_e, ↓dTup_e, ↓dLst_e, ↓dLstM_e, ↓dOpMul_e, ↓dOpAdd_e, ↓dOpSub_e, ↓dOpFdv_e, ↓dOpMod_e, ↓dOpPow_e, ↓dOpCm_e, ↓dOpEq_e, ↓dOpIn_e, ↓dOpIs_e, ↓dTst_e, ↓dTbl_e, ↓dNot_e, ↓dAnd_e, ↓dOr_e, ↓dAndV_e, ↓dOrV_e, ↓dNotV_e, ↓dIf_e, ↓dCall_e, ↓dSm_e, ↓dCm_e, ↓dMeth_e, ↓dFor_e, ↓iSq_e, ↓iRng1_e, ↓dNeg_e, ↓dNegO_e, ↓dFld_e, ↓dLc_e, ↓dBM_e, ↓dFmt_e, ↓dB1_e, ↓dSl_e, ↓dPart_e, ↓dNoPart_e, ↓dfl_e0, ↓tMul_ii, ↓tAdd_ii, ↓tSub_ii, ↓tFdiv_ii, ↓tMod_ii, ↓tPow_ii, ↓tCm_ii, ↓rdP0, ↓rdP1, ↓rdV0, ↓rdV1, ↓rdA,
      kBl, kTru, rIsN_f, rIsN_t, isNon_non, isNon_int, isNon_str, isNon_tup, isNon_lst, isNon_parts, isNon_amt, rIsiD, kSome, startD, kI2, rInt2,
      List.map_cons, List.map_nil, List.length_cons, List.length_nil, List.cons_append, List.nil_append, List.getElem?_cons_zero, List.getElem?_cons_succ, List.replicate, Nat.reduceSub, Nat.reduceAdd, Nat.reduceLeDiff, Nat.zero_add, Nat.add_zero, Nat.sub_self, Nat.sub_zero, List.set_cons_zero, List.set_cons_succ, List.append_nil, List.drop, List.drop_zero,
      Option.some.injEq, exists_eq_left', exists_eq_left, true_and, and_true, if_true, if_false, Bool.false_eq_true, Bool.not_true, Bool.not_false, ite_true, ite_false, reduceIte, reduceCtorEq, Nat.le_refl, t_parts_of, tkD, isiOwn, spi_int]
        exact q
      · simp only [↓dSeq_e, ↓dNext_e, ↓dBreak_e, ↓dCont_e, ↓dNever_e, ↓dRet_e, ↓dRetN_e, ↓dDrop_e, ↓dIfS_e, ↓dAsg_e, ↓dPar_e, ↓dPar3_e, ↓gN_e, ↓gTp_e, ↓gNs_e, ↓gN0_e, ↓dVar_e, ↓dC_e, ↓dCB_e, ↓dCons_e, ↓dNil_e, ↓dTup_e, ↓dLst_e, ↓dLstM_e, ↓dOpMul_e, ↓dOpAdd_e, ↓dOpSub_e, ↓dOpFdv_e, ↓dOpMod_e, ↓dOpPow_e, ↓dOpCm_e, ↓dOpEq_e, ↓dOpIn_e, ↓dOpIs_e, ↓dTst_e, ↓dTbl_e, ↓dNot_e, ↓dAnd_e, ↓dOr_e, ↓dAndV_e, ↓dOrV_e, ↓dNotV_e, ↓dIf_e, ↓dCall_e, ↓dSm_e, ↓dCm_e, ↓dMeth_e, ↓dFor_e, ↓iSq_e, ↓iRng1_e, ↓dNeg_e, ↓dNegO_e, ↓dFld_e, ↓dLc_e, ↓dBM_e, ↓dFmt_e, ↓dB1_e, ↓dSl_e, ↓dPart_e, ↓dNoPart_e, ↓dfl_e0, ↓tMul_ii, ↓tAdd_ii, ↓tSub_ii, ↓tFdiv_ii, ↓tMod_ii, ↓tPow_ii, ↓tCm_ii, ↓rdP0, ↓rdP1, ↓rdV0, ↓rdV1, ↓rdA,
      kBl, kTru, rIsN_f, rIsN_t, isNon_non, isNon_int, isNon_str, isNon_tup, isNon_lst, isNon_parts, isNon_amt, rIsiD, kSome, startD, kI2, rInt2,
      List.map_cons, List.map_nil, List.length_cons, List.length_nil, List.cons_append, List.nil_append, List.getElem?_cons_zero, List.getElem?_cons_succ, List.replicate, Nat.reduceSub, Nat.reduceAdd, Nat.reduceLeDiff, Nat.zero_add, Nat.add_zero, Nat.sub_self, Nat.sub_zero, List.set_cons_zero, List.set_cons_succ, List.append_nil, List.drop, List.drop_zero,
      Option.some.injEq, exists_eq_left', exists_eq_left, true_and, and_true, if_true, if_false, Bool.false_eq_true, Bool.not_true, Bool.not_false, ite_true, ite_false, reduceIte, reduceCtorEq, Nat.le_refl, t_parts_of, tkD_amt, isiOwn, h0, List.contains_cons, beq_self_eq_true, Bool.true_or, List.mem_singleton]
        exact q
    | none =>
      rw [hq] at q
      obtain ⟨e1, e2⟩ := odd_of (cl := S.cl) ht ho hk hq
      simp only [↓dSeq_e, ↓dNext_e, ↓dBreak_e, ↓dCont_e, ↓dNever_e, ↓dRet_e, ↓dRetN_e, ↓dDrop_e, ↓dIfS_e, ↓dAsg_e, ↓dPar_e, ↓dPar3_e, ↓gN_e, ↓gTp_e, ↓gNs_e, ↓gN0_e, ↓dVar_e, ↓dC_e, ↓dCB_e, ↓dCons_e, ↓dNil_e, ↓dTup_e, ↓dLst_e, ↓dLstM_e, ↓dOpMul_e, ↓dOpAdd_e, ↓dOpSub_e, ↓dOpFdv_e, ↓dOpMod_e, ↓dOpPow_e, ↓dOpCm_e, ↓dOpEq_e, ↓dOpIn_e, ↓dOpIs_e, ↓dTst_e, ↓dTbl_e, ↓dNot_e, ↓dAnd_e, ↓dOr_e, ↓dAndV_e, ↓dOrV_e, ↓dNotV_e, ↓dIf_e, ↓dCall_e, ↓dSm_e, ↓dCm_e, ↓dMeth_e, ↓dFor_e, ↓iSq_e, ↓iRng1_e, ↓dNeg_e, ↓dNegO_e, ↓dFld_e, ↓dLc_e, ↓dBM_e, ↓dFmt_e, ↓dB1_e, ↓dSl_e, ↓dPart_e, ↓dNoPart_e, ↓dfl_e0, ↓tMul_ii, ↓tAdd_ii, ↓tSub_ii, ↓tFdiv_ii, ↓tMod_ii, ↓tPow_ii, ↓tCm_ii, ↓rdP0, ↓rdP1, ↓rdV0, ↓rdV1, ↓rdA,
      kBl, kTru, rIsN_f, rIsN_t, isNon_non, isNon_int, isNon_str, isNon_tup, isNon_lst, isNon_parts, isNon_amt, rIsiD, kSome, startD, kI2, rInt2,
      List.map_cons, List.map_nil, List.length_cons, List.length_nil, List.cons_append, List.nil_append, List.getElem?_cons_zero, List.getElem?_cons_succ, List.replicate, Nat.reduceSub, Nat.reduceAdd, Nat.reduceLeDiff, Nat.zero_add, Nat.add_zero, Nat.sub_self, Nat.sub_zero, List.set_cons_zero, List.set_cons_succ, List.append_nil, List.drop, List.drop_zero,
      Option.some.injEq, exists_eq_left', exists_eq_left, true_and, and_true, if_true, if_false, Bool.false_eq_true, Bool.not_true, Bool.not_false, ite_true, ite_false, reduceIte, reduceCtorEq, Nat.le_refl, t_parts_of, ht, e1, sp_is_integer, e2]
      exact ⟨fun j e => ho j e, q⟩
theorem spp_Q {S : Sy} {d : D} {q : Rat} {W : Wd} {Q E : QD} (h0 : 0 ∈ S.cl) (h : toQ d = some q) (hq : Q (partsD q) W) : sp_parts_of S [d] W Q E := by
  refine ⟨knQ h0 h, h0, ?_⟩
  rw [h]
  exact hq
theorem bg1 : Bg 1 := by unfold Bg; decide
/-! ### made -/
theorem len_Amount_init (S : Sy) : ∀ ds W Q E, sp_Amount_init S ds W Q E → ds.length = 3 := fun ds W Q E h => by
  match ds, h with
  | [.ptr p, t, b], h => rfl
theorem pf_Amount_init (S : Sy) : ∀ ds W Q2 E2, sp_Amount_init S ds W Q2 E2 → t_Amount_init S { nx := fun _ W => Q2 .non W, rt := Q2 } (startD ["self", "top", "bottom"] ds) W (fun x _ W => E2 x W) := by
  intro ds W Q E h
  match ds, h with
  | [.ptr p, t, b], h =>
    obtain ⟨hp, ht, hb, q⟩ := h
    cases et : intD t with
    | none =>
      rw [et] at q
      have e1 : isIntD t = false := intD_n et
      simp only [↓dSeq_e, ↓dNext_e, ↓dBreak_e, ↓dCont_e, ↓dNever_e, ↓dRet_e, ↓dRetN_e, ↓dDrop_e, ↓dIfS_e, ↓dAsg_e, ↓dPar_e, ↓dPar3_e, ↓gN_e, ↓gTp_e, ↓gNs_e, ↓gN0_e, ↓dVar_e, ↓dC_e, ↓dCB_e, ↓dCons_e, ↓dNil_e, ↓dTup_e, ↓dLst_e, ↓dLstM_e, ↓dOpMul_e, ↓dOpAdd_e, ↓dOpSub_e, ↓dOpFdv_e, ↓dOpMod_e, ↓dOpPow_e, ↓dOpCm_e, ↓dOpEq_e, ↓dOpIn_e, ↓dOpIs_e, ↓dTst_e, ↓dTbl_e, ↓dNot_e, ↓dAnd_e, ↓dOr_e, ↓dAndV_e, ↓dOrV_e, ↓dNotV_e, ↓dIf_e, ↓dCall_e, ↓dSm_e, ↓dCm_e, ↓dMeth_e, ↓dFor_e, ↓iSq_e, ↓iRng1_e, ↓dNeg_e, ↓dNegO_e, ↓dFld_e, ↓dLc_e, ↓dBM_e, ↓dFmt_e, ↓dB1_e, ↓dSl_e, ↓dPart_e, ↓dNoPart_e, ↓dfl_e0, ↓tMul_ii, ↓tAdd_ii, ↓tSub_ii, ↓tFdiv_ii, ↓tMod_ii, ↓tPow_ii, ↓tCm_ii, ↓rdP0, ↓rdP1, ↓rdV0, ↓rdV1, ↓rdA,
      kBl, kTru, rIsN_f, rIsN_t, isNon_non, isNon_int, isNon_str, isNon_tup, isNon_lst, isNon_parts, isNon_amt, rIsiD, kSome, startD, kI2, rInt2,
      List.map_cons, List.map_nil, List.length_cons, List.length_nil, List.cons_append, List.nil_append, List.getElem?_cons_zero, List.getElem?_cons_succ, List.replicate, Nat.reduceSub, Nat.reduceAdd, Nat.reduceLeDiff, Nat.zero_add, Nat.add_zero, Nat.sub_self, Nat.sub_zero, List.set_cons_zero, List.set_cons_succ, List.append_nil, List.drop, List.drop_zero,
      Option.some.injEq, exists_eq_left', exists_eq_left, true_and, and_true, if_true, if_false, Bool.false_eq_true, Bool.not_true, Bool.not_false, ite_true, ite_false, reduceIte, reduceCtorEq, Nat.le_refl, t_Amount_init, spi_odd e1]
      exact ⟨ht, q⟩
    | some i =>
      rw [et] at q
      obtain rfl := intD_s et
      cases eb : intD b with
      | none =>
        rw [eb] at q
        have e1 : isIntD b = false := intD_n eb
        simp only [↓dSeq_e, ↓dNext_e, ↓dBreak_e, ↓dCont_e, ↓dNever_e, ↓dRet_e, ↓dRetN_e, ↓dDrop_e, ↓dIfS_e, ↓dAsg_e, ↓dPar_e, ↓dPar3_e, ↓gN_e, ↓gTp_e, ↓gNs_e, ↓gN0_e, ↓dVar_e, ↓dC_e, ↓dCB_e, ↓dCons_e, ↓dNil_e, ↓dTup_e, ↓dLst_e, ↓dLstM_e, ↓dOpMul_e, ↓dOpAdd_e, ↓dOpSub_e, ↓dOpFdv_e, ↓dOpMod_e, ↓dOpPow_e, ↓dOpCm_e, ↓dOpEq_e, ↓dOpIn_e, ↓dOpIs_e, ↓dTst_e, ↓dTbl_e, ↓dNot_e, ↓dAnd_e, ↓dOr_e, ↓dAndV_e, ↓dOrV_e, ↓dNotV_e, ↓dIf_e, ↓dCall_e, ↓dSm_e, ↓dCm_e, ↓dMeth_e, ↓dFor_e, ↓iSq_e, ↓iRng1_e, ↓dNeg_e, ↓dNegO_e, ↓dFld_e, ↓dLc_e, ↓dBM_e, ↓dFmt_e, ↓dB1_e, ↓dSl_e, ↓dPart_e, ↓dNoPart_e, ↓dfl_e0, ↓tMul_ii, ↓tAdd_ii, ↓tSub_ii, ↓tFdiv_ii, ↓tMod_ii, ↓tPow_ii, ↓tCm_ii, ↓rdP0, ↓rdP1, ↓rdV0, ↓rdV1, ↓rdA,
      kBl, kTru, rIsN_f, rIsN_t, isNon_non, isNon_int, isNon_str, isNon_tup, isNon_lst, isNon_parts, isNon_amt, rIsiD, kSome, startD, kI2, rInt2,
      List.map_cons, List.map_nil, List.length_cons, List.length_nil, List.cons_append, List.nil_append, List.getElem?_cons_zero, List.getElem?_cons_succ, List.replicate, Nat.reduceSub, Nat.reduceAdd, Nat.reduceLeDiff, Nat.zero_add, Nat.add_zero, Nat.sub_self, Nat.sub_zero, List.set_cons_zero, List.set_cons_succ, List.append_nil, List.drop, List.drop_zero,
      Option.some.injEq, exists_eq_left', exists_eq_left, true_and, and_true, if_true, if_false, Bool.false_eq_true, Bool.not_true, Bool.not_false, ite_true, ite_false, reduceIte, reduceCtorEq, Nat.le_refl, t_Amount_init, spi_int, spi_odd e1]
        exact ⟨hb, q⟩
      | some j =>
        rw [eb] at q
        obtain rfl := intD_s eb
        have q : if j = 0 then E (badA "bottom") W else Bg j ∧ Q .non (put W p (.ins 0 [(0, partsD (Rat.divInt i j))])) := q
        by_cases hz : j = 0
        · rw [if_pos hz] at q
          subst hz
          simp only [↓dSeq_e, ↓dNext_e, ↓dBreak_e, ↓dCont_e, ↓dNever_e, ↓dRet_e, ↓dRetN_e, ↓dDrop_e, ↓dIfS_e, ↓dAsg_e, ↓dPar_e, ↓dPar3_e, ↓gN_e, ↓gTp_e, ↓gNs_e, ↓gN0_e, ↓dVar_e, ↓dC_e, ↓dCB_e, ↓dCons_e, ↓dNil_e, ↓dTup_e, ↓dLst_e, ↓dLstM_e, ↓dOpMul_e, ↓dOpAdd_e, ↓dOpSub_e, ↓dOpFdv_e, ↓dOpMod_e, ↓dOpPow_e, ↓dOpCm_e, ↓dOpEq_e, ↓dOpIn_e, ↓dOpIs_e, ↓dTst_e, ↓dTbl_e, ↓dNot_e, ↓dAnd_e, ↓dOr_e, ↓dAndV_e, ↓dOrV_e, ↓dNotV_e, ↓dIf_e, ↓dCall_e, ↓dSm_e, ↓dCm_e, ↓dMeth_e, ↓dFor_e, ↓iSq_e, ↓iRng1_e, ↓dNeg_e, ↓dNegO_e, ↓dFld_e, ↓dLc_e, ↓dBM_e, ↓dFmt_e, ↓dB1_e, ↓dSl_e, ↓dPart_e, ↓dNoPart_e, ↓dfl_e0, ↓tMul_ii, ↓tAdd_ii, ↓tSub_ii, ↓tFdiv_ii, ↓tMod_ii, ↓tPow_ii, ↓tCm_ii, ↓rdP0, ↓rdP1, ↓rdV0, ↓rdV1, ↓rdA,
      kBl, kTru, rIsN_f, rIsN_t, isNon_non, isNon_int, isNon_str, isNon_tup, isNon_lst, isNon_parts, isNon_amt, rIsiD, kSome, startD, kI2, rInt2,
      List.map_cons, List.map_nil, List.length_cons, List.length_nil, List.cons_append, List.nil_append, List.getElem?_cons_zero, List.getElem?_cons_succ, List.replicate, Nat.reduceSub, Nat.reduceAdd, Nat.reduceLeDiff, Nat.zero_add, Nat.add_zero, Nat.sub_self, Nat.sub_zero, List.set_cons_zero, List.set_cons_succ, List.append_nil, List.drop, List.drop_zero,
      Option.some.injEq, exists_eq_left', exists_eq_left, true_and, and_true, if_true, if_false, Bool.false_eq_true, Bool.not_true, Bool.not_false, ite_true, ite_false, reduceIte, reduceCtorEq, Nat.le_refl, t_Amount_init, spi_int, rEqQ, eqI, D.dp, beq_self_eq_true]
          first
            | exact ⟨by decide, q⟩
            | exact q
        · rw [if_neg hz] at q
          have e : (j == 0) = false := by simpa using hz
          simp only [↓dSeq_e, ↓dNext_e, ↓dBreak_e, ↓dCont_e, ↓dNever_e, ↓dRet_e, ↓dRetN_e, ↓dDrop_e, ↓dIfS_e, ↓dAsg_e, ↓dPar_e, ↓dPar3_e, ↓gN_e, ↓gTp_e, ↓gNs_e, ↓gN0_e, ↓dVar_e, ↓dC_e, ↓dCB_e, ↓dCons_e, ↓dNil_e, ↓dTup_e, ↓dLst_e, ↓dLstM_e, ↓dOpMul_e, ↓dOpAdd_e, ↓dOpSub_e, ↓dOpFdv_e, ↓dOpMod_e, ↓dOpPow_e, ↓dOpCm_e, ↓dOpEq_e, ↓dOpIn_e, ↓dOpIs_e, ↓dTst_e, ↓dTbl_e, ↓dNot_e, ↓dAnd_e, ↓dOr_e, ↓dAndV_e, ↓dOrV_e, ↓dNotV_e, ↓dIf_e, ↓dCall_e, ↓dSm_e, ↓dCm_e, ↓dMeth_e, ↓dFor_e, ↓iSq_e, ↓iRng1_e, ↓dNeg_e, ↓dNegO_e, ↓dFld_e, ↓dLc_e, ↓dBM_e, ↓dFmt_e, ↓dB1_e, ↓dSl_e, ↓dPart_e, ↓dNoPart_e, ↓dfl_e0, ↓tMul_ii, ↓tAdd_ii, ↓tSub_ii, ↓tFdiv_ii, ↓tMod_ii, ↓tPow_ii, ↓tCm_ii, ↓rdP0, ↓rdP1, ↓rdV0, ↓rdV1, ↓rdA,
      kBl, kTru, rIsN_f, rIsN_t, isNon_non, isNon_int, isNon_str, isNon_tup, isNon_lst, isNon_parts, isNon_amt, rIsiD, kSome, startD, kI2, rInt2,
      List.map_cons, List.map_nil, List.length_cons, List.length_nil, List.cons_append, List.nil_append, List.getElem?_cons_zero, List.getElem?_cons_succ, List.replicate, Nat.reduceSub, Nat.reduceAdd, Nat.reduceLeDiff, Nat.zero_add, Nat.add_zero, Nat.sub_self, Nat.sub_zero, List.set_cons_zero, List.set_cons_succ, List.append_nil, List.drop, List.drop_zero,
      Option.some.injEq, exists_eq_left', exists_eq_left, true_and, and_true, if_true, if_false, Bool.false_eq_true, Bool.not_true, Bool.not_false, ite_true, ite_false, reduceIte, reduceCtorEq, Nat.le_refl, t_Amount_init, spi_int, rEqQ, eqI, e, sp_lowest, hp, putN, D.dp]
          exact ⟨hz, q.1, by decide, q.2⟩
def mkA (S : Sy) (Q : QD) (E : QX) (sd : SD) (ds : List D) (W1 : Wd) : Prop := ∀ p, W1 p = none → dfl 3 [.int 1] (.ptr p :: ds) fun ds' => sp_Amount_init S ds' (put W1 p (.ins 0 [])) (fun d W2 => kNon d (match W2 p with
    | some m => Q m.d (cut W2 p)
    | none => False)) (fun x W' => E x sd (cut W' p))
theorem dMk_amt {S : Sy} {T : DA} {sd : SD} {W : Wd} {Q : QD} {E : QX} : dFrz (dMake 0 3 [.int 1] (sp_Amount_init S) T) sd W Q E = T sd W (mkA S Q E sd) E := rfl
theorem mkA_2 {S : Sy} {Q : QD} {E : QX} {sd : SD} {W : Wd} {t b : Int} (hb : b ≠ 0) (hz : Bg b) (q : Q (amt (Rat.divInt t b)) W) : mkA S Q E sd [.int t, .int b] W := by
  intro p hp
  refine ⟨Nat.le_refl _, Nat.le_add_right _ _, put_same, knT_int, knT_int, ?_⟩
  show if b = 0 then _ else Bg b ∧ _
  rw [if_neg hb]
  refine ⟨hz, ?_⟩
  show (match put (put W p (.ins 0 [])) p (.ins 0 [(0, partsD (Rat.divInt t b))]) p with | some m => Q m.d (cut (put (put W p (.ins 0 [])) p (.ins 0 [(0, partsD (Rat.divInt t b))])) p) | none => False)
  rw [put_put, put_same, cut_put hp]
  exact q
theorem mkA_1 {S : Sy} {Q : QD} {E : QX} {sd : SD} {W : Wd} {t : Int} (q : Q (amt (t : Rat)) W) : mkA S Q E sd [.int t] W := by
  have e : Rat.divInt t 1 = (t : Rat) := by rw [Rat.divInt_eq_div]; grind
  intro p hp
  obtain ⟨_, _, h⟩ := mkA_2 (S := S) (Q := Q) (E := E) (sd := sd) (W := W) (t := t) (b := 1) (by decide) bg1 (by rw [e]; exact q) p hp
  exact ⟨Nat.le_succ _, Nat.le_refl _, h⟩
/-! ### its parts; of -/
theorem attrP {S : Sy} {p : Rat} {k : D → Prop} : ((0 ∈ (a_parts S).fl ∧ match [((0 : Nat), partsD p)].lookup 0 with
    | some x => k x
    | none => False) ∨ (0 ∈ (a_parts S).pr ∧ False)) = k (partsD p) := by
  simp [a_parts, List.lookup]
theorem len_Amount_top (S : Sy) : ∀ ds W Q E, sp_Amount_top S ds W Q E → ds.length = 1 := fun ds W Q E h => by
  match ds, h with
  | [d], h => rfl
theorem pf_Amount_top (S : Sy) : ∀ ds W Q2 E2, sp_Amount_top S ds W Q2 E2 → t_Amount_top S { nx := fun _ W => Q2 .non W, rt := Q2 } (startD ["self"] ds) W (fun x _ W => E2 x W) := by
  intro ds W Q E h
  match ds, h with
  | [d], h =>
    obtain ⟨p, hp, q⟩ := h.inv
    obtain rfl := amQ_some hp
    simp only [↓dSeq_e, ↓dNext_e, ↓dBreak_e, ↓dCont_e, ↓dNever_e, ↓dRet_e, ↓dRetN_e, ↓dDrop_e, ↓dIfS_e, ↓dAsg_e, ↓dPar_e, ↓dPar3_e, ↓gN_e, ↓gTp_e, ↓gNs_e, ↓gN0_e, ↓dVar_e, ↓dC_e, ↓dCB_e, ↓dCons_e, ↓dNil_e, ↓dTup_e, ↓dLst_e, ↓dLstM_e, ↓dOpMul_e, ↓dOpAdd_e, ↓dOpSub_e, ↓dOpFdv_e, ↓dOpMod_e, ↓dOpPow_e, ↓dOpCm_e, ↓dOpEq_e, ↓dOpIn_e, ↓dOpIs_e, ↓dTst_e, ↓dTbl_e, ↓dNot_e, ↓dAnd_e, ↓dOr_e, ↓dAndV_e, ↓dOrV_e, ↓dNotV_e, ↓dIf_e, ↓dCall_e, ↓dSm_e, ↓dCm_e, ↓dMeth_e, ↓dFor_e, ↓iSq_e, ↓iRng1_e, ↓dNeg_e, ↓dNegO_e, ↓dFld_e, ↓dLc_e, ↓dBM_e, ↓dFmt_e, ↓dB1_e, ↓dSl_e, ↓dPart_e, ↓dNoPart_e, ↓dfl_e0, ↓tMul_ii, ↓tAdd_ii, ↓tSub_ii, ↓tFdiv_ii, ↓tMod_ii, ↓tPow_ii, ↓tCm_ii, ↓rdP0, ↓rdP1, ↓rdV0, ↓rdV1, ↓rdA,
      kBl, kTru, rIsN_f, rIsN_t, isNon_non, isNon_int, isNon_str, isNon_tup, isNon_lst, isNon_parts, isNon_amt, rIsiD, kSome, startD, kI2, rInt2,
      List.map_cons, List.map_nil, List.length_cons, List.length_nil, List.cons_append, List.nil_append, List.getElem?_cons_zero, List.getElem?_cons_succ, List.replicate, Nat.reduceSub, Nat.reduceAdd, Nat.reduceLeDiff, Nat.zero_add, Nat.add_zero, Nat.sub_self, Nat.sub_zero, List.set_cons_zero, List.set_cons_succ, List.append_nil, List.drop, List.drop_zero,
      Option.some.injEq, exists_eq_left', exists_eq_left, true_and, and_true, if_true, if_false, Bool.false_eq_true, Bool.not_true, Bool.not_false, ite_true, ite_false, reduceIte, reduceCtorEq, Nat.le_refl, t_Amount_top]
    exact q
theorem len_Amount_bottom (S : Sy) : ∀ ds W Q E, sp_Amount_bottom S ds W Q E → ds.length = 1 := fun ds W Q E h => by
  match ds, h with
  | [d], h => rfl
theorem pf_Amount_bottom (S : Sy) : ∀ ds W Q2 E2, sp_Amount_bottom S ds W Q2 E2 → t_Amount_bottom S { nx := fun _ W => Q2 .non W, rt := Q2 } (startD ["self"] ds) W (fun x _ W => E2 x W) := by
  intro ds W Q E h
  match ds, h with
  | [d], h =>
    obtain ⟨p, hp, q⟩ := h.inv
    obtain rfl := amQ_some hp
    simp only [↓dSeq_e, ↓dNext_e, ↓dBreak_e, ↓dCont_e, ↓dNever_e, ↓dRet_e, ↓dRetN_e, ↓dDrop_e, ↓dIfS_e, ↓dAsg_e, ↓dPar_e, ↓dPar3_e, ↓gN_e, ↓gTp_e, ↓gNs_e, ↓gN0_e, ↓dVar_e, ↓dC_e, ↓dCB_e, ↓dCons_e, ↓dNil_e, ↓dTup_e, ↓dLst_e, ↓dLstM_e, ↓dOpMul_e, ↓dOpAdd_e, ↓dOpSub_e, ↓dOpFdv_e, ↓dOpMod_e, ↓dOpPow_e, ↓dOpCm_e, ↓dOpEq_e, ↓dOpIn_e, ↓dOpIs_e, ↓dTst_e, ↓dTbl_e, ↓dNot_e, ↓dAnd_e, ↓dOr_e, ↓dAndV_e, ↓dOrV_e, ↓dNotV_e, ↓dIf_e, ↓dCall_e, ↓dSm_e, ↓dCm_e, ↓dMeth_e, ↓dFor_e, ↓iSq_e, ↓iRng1_e, ↓dNeg_e, ↓dNegO_e, ↓dFld_e, ↓dLc_e, ↓dBM_e, ↓dFmt_e, ↓dB1_e, ↓dSl_e, ↓dPart_e, ↓dNoPart_e, ↓dfl_e0, ↓tMul_ii, ↓tAdd_ii, ↓tSub_ii, ↓tFdiv_ii, ↓tMod_ii, ↓tPow_ii, ↓tCm_ii, ↓rdP0, ↓rdP1, ↓rdV0, ↓rdV1, ↓rdA,
      kBl, kTru, rIsN_f, rIsN_t, isNon_non, isNon_int, isNon_str, isNon_tup, isNon_lst, isNon_parts, isNon_amt, rIsiD, kSome, startD, kI2, rInt2,
      List.map_cons, List.map_nil, List.length_cons, List.length_nil, List.cons_append, List.nil_append, List.getElem?_cons_zero, List.getElem?_cons_succ, List.replicate, Nat.reduceSub, Nat.reduceAdd, Nat.reduceLeDiff, Nat.zero_add, Nat.add_zero, Nat.sub_self, Nat.sub_zero, List.set_cons_zero, List.set_cons_succ, List.append_nil, List.drop, List.drop_zero,
      Option.some.injEq, exists_eq_left', exists_eq_left, true_and, and_true, if_true, if_false, Bool.false_eq_true, Bool.not_true, Bool.not_false, ite_true, ite_false, reduceIte, reduceCtorEq, Nat.le_refl, t_Amount_bottom]
    exact q
theorem len_Amount_of (S : Sy) : ∀ ds W Q E, sp_Amount_of S ds W Q E → ds.length = 1 := fun ds W Q E h => by
  match ds, h with
  | [d], h => rfl
theorem pf_Amount_of (S : Sy) : ∀ ds W Q2 E2, sp_Amount_of S ds W Q2 E2 → t_Amount_of S { nx := fun _ W => Q2 .non W, rt := Q2 } (startD ["value"] ds) W (fun x _ W => E2 x W) := by
  intro ds W Q E h
  match ds, h with
  | [d], h =>
    obtain ⟨⟨⟨t, ht, ho⟩, hk⟩, h0, q⟩ := h
    cases hq : toQ d with
    | some r =>
      rw [hq] at q
      rcases toQ_some hq with ⟨i, rfl, rfl⟩ | rfl
      · simp only [↓dSeq_e, ↓dNext_e, ↓dBreak_e, ↓dCont_e, ↓dNever_e, ↓dRet_e, ↓dRetN_e, ↓dDrop_e, ↓dIfS_e, ↓dAsg_e, ↓dPar_e, ↓dPar3_e, ↓gN_e, ↓gTp_e, ↓gNs_e, ↓gN0_e, ↓dVar_e, ↓dC_e, ↓dCB_e, ↓dCons_e, ↓dNil_e, ↓dTup_e, ↓dLst_e, ↓dLstM_e, ↓dOpMul_e, ↓dOpAdd_e, ↓dOpSub_e, ↓dOpFdv_e, ↓dOpMod_e, ↓dOpPow_e, ↓dOpCm_e, ↓dOpEq_e, ↓dOpIn_e, ↓dOpIs_e, ↓dTst_e, ↓dTbl_e, ↓dNot_e, ↓dAnd_e, ↓dOr_e, ↓dAndV_e, ↓dOrV_e, ↓dNotV_e, ↓dIf_e, ↓dCall_e, ↓dSm_e, ↓dCm_e, ↓dMeth_e, ↓dFor_e, ↓iSq_e, ↓iRng1_e, ↓dNeg_e, ↓dNegO_e, ↓dFld_e, ↓dLc_e, ↓dBM_e, ↓dFmt_e, ↓dB1_e, ↓dSl_e, ↓dPart_e, ↓dNoPart_e, ↓dfl_e0, ↓tMul_ii, ↓tAdd_ii, ↓tSub_ii, ↓tFdiv_ii, ↓tMod_ii, ↓tPow_ii, ↓tCm_ii, ↓rdP0, ↓rdP1, ↓rdV0, ↓rdV1, ↓rdA,
      kBl, kTru, rIsN_f, rIsN_t, isNon_non, isNon_int, isNon_str, isNon_tup, isNon_lst, isNon_parts, isNon_amt, rIsiD, kSome, startD, kI2, rInt2,
      List.map_cons, List.map_nil, List.length_cons, List.length_nil, List.cons_append, List.nil_append, List.getElem?_cons_zero, List.getElem?_cons_succ, List.replicate, Nat.reduceSub, Nat.reduceAdd, Nat.reduceLeDiff, Nat.zero_add, Nat.add_zero, Nat.sub_self, Nat.sub_zero, List.set_cons_zero, List.set_cons_succ, List.append_nil, List.drop, List.drop_zero,
      Option.some.injEq, exists_eq_left', exists_eq_left, true_and, and_true, if_true, if_false, Bool.false_eq_true, Bool.not_true, Bool.not_false, ite_true, ite_false, reduceIte, reduceCtorEq, Nat.le_refl, t_Amount_of, ↓dMk_amt, tkD, isiOwn, spi_int]
        exact mkA_1 q
      · simp only [↓dSeq_e, ↓dNext_e, ↓dBreak_e, ↓dCont_e, ↓dNever_e, ↓dRet_e, ↓dRetN_e, ↓dDrop_e, ↓dIfS_e, ↓dAsg_e, ↓dPar_e, ↓dPar3_e, ↓gN_e, ↓gTp_e, ↓gNs_e, ↓gN0_e, ↓dVar_e, ↓dC_e, ↓dCB_e, ↓dCons_e, ↓dNil_e, ↓dTup_e, ↓dLst_e, ↓dLstM_e, ↓dOpMul_e, ↓dOpAdd_e, ↓dOpSub_e, ↓dOpFdv_e, ↓dOpMod_e, ↓dOpPow_e, ↓dOpCm_e, ↓dOpEq_e, ↓dOpIn_e, ↓dOpIs_e, ↓dTst_e, ↓dTbl_e, ↓dNot_e, ↓dAnd_e, ↓dOr_e, ↓dAndV_e, ↓dOrV_e, ↓dNotV_e, ↓dIf_e, ↓dCall_e, ↓dSm_e, ↓dCm_e, ↓dMeth_e, ↓dFor_e, ↓iSq_e, ↓iRng1_e, ↓dNeg_e, ↓dNegO_e, ↓dFld_e, ↓dLc_e, ↓dBM_e, ↓dFmt_e, ↓dB1_e, ↓dSl_e, ↓dPart_e, ↓dNoPart_e, ↓dfl_e0, ↓tMul_ii, ↓tAdd_ii, ↓tSub_ii, ↓tFdiv_ii, ↓tMod_ii, ↓tPow_ii, ↓tCm_ii, ↓rdP0, ↓rdP1, ↓rdV0, ↓rdV1, ↓rdA,
      kBl, kTru, rIsN_f, rIsN_t, isNon_non, isNon_int, isNon_str, isNon_tup, isNon_lst, isNon_parts, isNon_amt, rIsiD, kSome, startD, kI2, rInt2,
      List.map_cons, List.map_nil, List.length_cons, List.length_nil, List.cons_append, List.nil_append, List.getElem?_cons_zero, List.getElem?_cons_succ, List.replicate, Nat.reduceSub, Nat.reduceAdd, Nat.reduceLeDiff, Nat.zero_add, Nat.add_zero, Nat.sub_self, Nat.sub_zero, List.set_cons_zero, List.set_cons_succ, List.append_nil, List.drop, List.drop_zero,
      Option.some.injEq, exists_eq_left', exists_eq_left, true_and, and_true, if_true, if_false, Bool.false_eq_true, Bool.not_true, Bool.not_false, ite_true, ite_false, reduceIte, reduceCtorEq, Nat.le_refl, t_Amount_of, ↓dMk_amt, tkD_amt, isiOwn, h0, List.contains_cons, beq_self_eq_true, Bool.true_or]
        exact q
    | none =>
      rw [hq] at q
      obtain ⟨e1, e2⟩ := odd_of (cl := S.cl) ht ho hk hq
      simp only [↓dSeq_e, ↓dNext_e, ↓dBreak_e, ↓dCont_e, ↓dNever_e, ↓dRet_e, ↓dRetN_e, ↓dDrop_e, ↓dIfS_e, ↓dAsg_e, ↓dPar_e, ↓dPar3_e, ↓gN_e, ↓gTp_e, ↓gNs_e, ↓gN0_e, ↓dVar_e, ↓dC_e, ↓dCB_e, ↓dCons_e, ↓dNil_e, ↓dTup_e, ↓dLst_e, ↓dLstM_e, ↓dOpMul_e, ↓dOpAdd_e, ↓dOpSub_e, ↓dOpFdv_e, ↓dOpMod_e, ↓dOpPow_e, ↓dOpCm_e, ↓dOpEq_e, ↓dOpIn_e, ↓dOpIs_e, ↓dTst_e, ↓dTbl_e, ↓dNot_e, ↓dAnd_e, ↓dOr_e, ↓dAndV_e, ↓dOrV_e, ↓dNotV_e, ↓dIf_e, ↓dCall_e, ↓dSm_e, ↓dCm_e, ↓dMeth_e, ↓dFor_e, ↓iSq_e, ↓iRng1_e, ↓dNeg_e, ↓dNegO_e, ↓dFld_e, ↓dLc_e, ↓dBM_e, ↓dFmt_e, ↓dB1_e, ↓dSl_e, ↓dPart_e, ↓dNoPart_e, ↓dfl_e0, ↓tMul_ii, ↓tAdd_ii, ↓tSub_ii, ↓tFdiv_ii, ↓tMod_ii, ↓tPow_ii, ↓tCm_ii, ↓rdP0, ↓rdP1, ↓rdV0, ↓rdV1, ↓rdA,
      kBl, kTru, rIsN_f, rIsN_t, isNon_non, isNon_int, isNon_str, isNon_tup, isNon_lst, isNon_parts, isNon_amt, rIsiD, kSome, startD, kI2, rInt2,
      List.map_cons, List.map_nil, List.length_cons, List.length_nil, List.cons_append, List.nil_append, List.getElem?_cons_zero, List.getElem?_cons_succ, List.replicate, Nat.reduceSub, Nat.reduceAdd, Nat.reduceLeDiff, Nat.zero_add, Nat.add_zero, Nat.sub_self, Nat.sub_zero, List.set_cons_zero, List.set_cons_succ, List.append_nil, List.drop, List.drop_zero,
      Option.some.injEq, exists_eq_left', exists_eq_left, true_and, and_true, if_true, if_false, Bool.false_eq_true, Bool.not_true, Bool.not_false, ite_true, ite_false, reduceIte, reduceCtorEq, Nat.le_refl, t_Amount_of, ht, e1, sp_is_integer, e2]
      exact ⟨fun j e => ho j e, q⟩
/-! ### sums, products -/
theorem mulW {a b : Int} (ha : Sm a) (hb : Sm b) : CMulW a b ∨ CMul a b := .inl (wide_mul ha hb (by decide) (by decide) (by decide))
theorem denz (p : Rat) : ((p.den : Nat) : Int) ≠ 0 := by
  have := p.den_pos
  omega
theorem den_mul {p q : Rat} : ((p.den : Int) * (q.den : Int)) ≠ 0 := Int.mul_ne_zero (denz p) (denz q)
theorem mul_small {a b : Int} (ha : Sm a) (hb : Sm b) : Bg (a * b) := Nat.lt_of_lt_of_le (wide_lt ha hb) (Nat.pow_le_pow_right (by decide) (by decide))
theorem partsN {p : Rat} : isNon (partsD p) = false := rfl
theorem len2 {f : Rat → Rat → Rat} {ds : List D} {W : Wd} {Q E : QD} (h : spBin f ds W Q E) : ds.length = 2 := by
  match ds, h with
  | [c, d], h => rfl
theorem rat_nd (p : Rat) : p = (p.num : Rat) / ((p.den : Int) : Rat) := by
  have h := (Rat.mkRat_self p).symm
  rw [Rat.mkRat_eq_div] at h
  exact h
theorem denR (p : Rat) : ((p.den : Int) : Rat) ≠ 0 := by
  intro h
  have : ((p.den : Int)) = 0 := by exact_mod_cast h
  exact denz p this
theorem rat_add {p r : Rat} : Rat.divInt (p.num * r.den + r.num * p.den) (p.den * r.den) = p + r := by
  have h1 := rat_nd p
  have h2 := rat_nd r
  have d1 := denR p
  have d2 := denR r
  rw [Rat.divInt_eq_div, Rat.intCast_add, Rat.intCast_mul, Rat.intCast_mul, Rat.intCast_mul]
  generalize (p.num : Rat) = a at *
  generalize ((p.den : Int) : Rat) = b at *
  generalize (r.num : Rat) = c at *
  generalize ((r.den : Int) : Rat) = d at *
  subst h1 h2
  grind
theorem rat_sub {p r : Rat} : Rat.divInt (p.num * r.den - r.num * p.den) (p.den * r.den) = p - r := by
  have h1 := rat_nd p
  have h2 := rat_nd r
  have d1 := denR p
  have d2 := denR r
  rw [Rat.divInt_eq_div, Rat.intCast_sub, Rat.intCast_mul, Rat.intCast_mul, Rat.intCast_mul]
  generalize (p.num : Rat) = a at *
  generalize ((p.den : Int) : Rat) = b at *
  generalize (r.num : Rat) = c at *
  generalize ((r.den : Int) : Rat) = d at *
  subst h1 h2
  grind
theorem rat_mul {p r : Rat} : Rat.divInt (p.num * r.num) (p.den * r.den) = p * r := by
  have h1 := rat_nd p
  have h2 := rat_nd r
  have d1 := denR p
  have d2 := denR r
  rw [Rat.divInt_eq_div, Rat.intCast_mul, Rat.intCast_mul]
  generalize (p.num : Rat) = a at *
  generalize ((p.den : Int) : Rat) = b at *
  generalize (r.num : Rat) = c at *
  generalize ((r.den : Int) : Rat) = d at *
  subst h1 h2
  grind
theorem rat_div {p r : Rat} (h0 : r ≠ 0) : Rat.divInt (p.num * r.den) (p.den * r.num) = p / r := by
  have h1 := rat_nd p
  have h2 := rat_nd r
  have d1 := denR p
  have d2 := denR r
  rw [Rat.divInt_eq_div, Rat.intCast_mul, Rat.intCast_mul]
  generalize (p.num : Rat) = a at *
  generalize ((p.den : Int) : Rat) = b at *
  generalize (r.num : Rat) = c at *
  generalize ((r.den : Int) : Rat) = d at *
  subst h1 h2
  grind
theorem rat_neg {p : Rat} : Rat.divInt (-p.num) p.den = -p := by
  have h1 := rat_nd p
  have d1 := denR p
  rw [Rat.divInt_eq_div, Rat.intCast_neg]
  generalize (p.num : Rat) = a at *
  generalize ((p.den : Int) : Rat) = b at *
  subst h1
  grind
theorem len_Amount_add (S : Sy) : ∀ ds W Q E, sp_Amount_add S ds W Q E → ds.length = 2 := fun ds W Q E h => len2 h.2
theorem pf_Amount_add (S : Sy) : ∀ ds W Q2 E2, sp_Amount_add S ds W Q2 E2 → t_Amount_add S { nx := fun _ W => Q2 .non W, rt := Q2 } (startD ["self", "other", "parts"] ds) W (fun x _ W => E2 x W) := by
  intro ds W Q E h
  match ds, h with
  | [c, d], h =>
    obtain ⟨h0, h⟩ := h
    obtain ⟨p, hp, h⟩ := h.inv
    obtain ⟨r, hr, zp, zr, q⟩ := h.inv
    obtain rfl := amQ_some hp
    simp only [↓dSeq_e, ↓dNext_e, ↓dBreak_e, ↓dCont_e, ↓dNever_e, ↓dRet_e, ↓dRetN_e, ↓dDrop_e, ↓dIfS_e, ↓dAsg_e, ↓dPar_e, ↓dPar3_e, ↓gN_e, ↓gTp_e, ↓gNs_e, ↓gN0_e, ↓dVar_e, ↓dC_e, ↓dCB_e, ↓dCons_e, ↓dNil_e, ↓dTup_e, ↓dLst_e, ↓dLstM_e, ↓dOpMul_e, ↓dOpAdd_e, ↓dOpSub_e, ↓dOpFdv_e, ↓dOpMod_e, ↓dOpPow_e, ↓dOpCm_e, ↓dOpEq_e, ↓dOpIn_e, ↓dOpIs_e, ↓dTst_e, ↓dTbl_e, ↓dNot_e, ↓dAnd_e, ↓dOr_e, ↓dAndV_e, ↓dOrV_e, ↓dNotV_e, ↓dIf_e, ↓dCall_e, ↓dSm_e, ↓dCm_e, ↓dMeth_e, ↓dFor_e, ↓iSq_e, ↓iRng1_e, ↓dNeg_e, ↓dNegO_e, ↓dFld_e, ↓dLc_e, ↓dBM_e, ↓dFmt_e, ↓dB1_e, ↓dSl_e, ↓dPart_e, ↓dNoPart_e, ↓dfl_e0, ↓tMul_ii, ↓tAdd_ii, ↓tSub_ii, ↓tFdiv_ii, ↓tMod_ii, ↓tPow_ii, ↓tCm_ii, ↓rdP0, ↓rdP1, ↓rdV0, ↓rdV1, ↓rdA,
      kBl, kTru, rIsN_f, rIsN_t, isNon_non, isNon_int, isNon_str, isNon_tup, isNon_lst, isNon_parts, isNon_amt, rIsiD, kSome, startD, kI2, rInt2,
      List.map_cons, List.map_nil, List.length_cons, List.length_nil, List.cons_append, List.nil_append, List.getElem?_cons_zero, List.getElem?_cons_succ, List.replicate, Nat.reduceSub, Nat.reduceAdd, Nat.reduceLeDiff, Nat.zero_add, Nat.add_zero, Nat.sub_self, Nat.sub_zero, List.set_cons_zero, List.set_cons_succ, List.append_nil, List.drop, List.drop_zero,
      Option.some.injEq, exists_eq_left', exists_eq_left, true_and, and_true, if_true, if_false, Bool.false_eq_true, Bool.not_true, Bool.not_false, ite_true, ite_false, reduceIte, reduceCtorEq, Nat.le_refl, t_Amount_add]
    refine spp_Q h0 hr ?_
    simp only [↓dSeq_e, ↓dNext_e, ↓dBreak_e, ↓dCont_e, ↓dNever_e, ↓dRet_e, ↓dRetN_e, ↓dDrop_e, ↓dIfS_e, ↓dAsg_e, ↓dPar_e, ↓dPar3_e, ↓gN_e, ↓gTp_e, ↓gNs_e, ↓gN0_e, ↓dVar_e, ↓dC_e, ↓dCB_e, ↓dCons_e, ↓dNil_e, ↓dTup_e, ↓dLst_e, ↓dLstM_e, ↓dOpMul_e, ↓dOpAdd_e, ↓dOpSub_e, ↓dOpFdv_e, ↓dOpMod_e, ↓dOpPow_e, ↓dOpCm_e, ↓dOpEq_e, ↓dOpIn_e, ↓dOpIs_e, ↓dTst_e, ↓dTbl_e, ↓dNot_e, ↓dAnd_e, ↓dOr_e, ↓dAndV_e, ↓dOrV_e, ↓dNotV_e, ↓dIf_e, ↓dCall_e, ↓dSm_e, ↓dCm_e, ↓dMeth_e, ↓dFor_e, ↓iSq_e, ↓iRng1_e, ↓dNeg_e, ↓dNegO_e, ↓dFld_e, ↓dLc_e, ↓dBM_e, ↓dFmt_e, ↓dB1_e, ↓dSl_e, ↓dPart_e, ↓dNoPart_e, ↓dfl_e0, ↓tMul_ii, ↓tAdd_ii, ↓tSub_ii, ↓tFdiv_ii, ↓tMod_ii, ↓tPow_ii, ↓tCm_ii, ↓rdP0, ↓rdP1, ↓rdV0, ↓rdV1, ↓rdA,
      kBl, kTru, rIsN_f, rIsN_t, isNon_non, isNon_int, isNon_str, isNon_tup, isNon_lst, isNon_parts, isNon_amt, rIsiD, kSome, startD, kI2, rInt2,
      List.map_cons, List.map_nil, List.length_cons, List.length_nil, List.cons_append, List.nil_append, List.getElem?_cons_zero, List.getElem?_cons_succ, List.replicate, Nat.reduceSub, Nat.reduceAdd, Nat.reduceLeDiff, Nat.zero_add, Nat.add_zero, Nat.sub_self, Nat.sub_zero, List.set_cons_zero, List.set_cons_succ, List.append_nil, List.drop, List.drop_zero,
      Option.some.injEq, exists_eq_left', exists_eq_left, true_and, and_true, if_true, if_false, Bool.false_eq_true, Bool.not_true, Bool.not_false, ite_true, ite_false, reduceIte, reduceCtorEq, Nat.le_refl, ↓dMk_amt, partsN, mulW zp.1 (zr.2), mulW zr.1 (zp.2), mulW (zp.2) (zr.2)]
    refine mkA_2 den_mul (mul_small (zp.2) (zr.2)) ?_
    rw [rat_add]
    exact q
theorem len_Amount_sub (S : Sy) : ∀ ds W Q E, sp_Amount_sub S ds W Q E → ds.length = 2 := fun ds W Q E h => len2 h.2
theorem pf_Amount_sub (S : Sy) : ∀ ds W Q2 E2, sp_Amount_sub S ds W Q2 E2 → t_Amount_sub S { nx := fun _ W => Q2 .non W, rt := Q2 } (startD ["self", "other", "parts"] ds) W (fun x _ W => E2 x W) := by
  intro ds W Q E h
  match ds, h with
  | [c, d], h =>
    obtain ⟨h0, h⟩ := h
    obtain ⟨p, hp, h⟩ := h.inv
    obtain ⟨r, hr, zp, zr, q⟩ := h.inv
    obtain rfl := amQ_some hp
    simp only [↓dSeq_e, ↓dNext_e, ↓dBreak_e, ↓dCont_e, ↓dNever_e, ↓dRet_e, ↓dRetN_e, ↓dDrop_e, ↓dIfS_e, ↓dAsg_e, ↓dPar_e, ↓dPar3_e, ↓gN_e, ↓gTp_e, ↓gNs_e, ↓gN0_e, ↓dVar_e, ↓dC_e, ↓dCB_e, ↓dCons_e, ↓dNil_e, ↓dTup_e, ↓dLst_e, ↓dLstM_e, ↓dOpMul_e, ↓dOpAdd_e, ↓dOpSub_e, ↓dOpFdv_e, ↓dOpMod_e, ↓dOpPow_e, ↓dOpCm_e, ↓dOpEq_e, ↓dOpIn_e, ↓dOpIs_e, ↓dTst_e, ↓dTbl_e, ↓dNot_e, ↓dAnd_e, ↓dOr_e, ↓dAndV_e, ↓dOrV_e, ↓dNotV_e, ↓dIf_e, ↓dCall_e, ↓dSm_e, ↓dCm_e, ↓dMeth_e, ↓dFor_e, ↓iSq_e, ↓iRng1_e, ↓dNeg_e, ↓dNegO_e, ↓dFld_e, ↓dLc_e, ↓dBM_e, ↓dFmt_e, ↓dB1_e, ↓dSl_e, ↓dPart_e, ↓dNoPart_e, ↓dfl_e0, ↓tMul_ii, ↓tAdd_ii, ↓tSub_ii, ↓tFdiv_ii, ↓tMod_ii, ↓tPow_ii, ↓tCm_ii, ↓rdP0, ↓rdP1, ↓rdV0, ↓rdV1, ↓rdA,
      kBl, kTru, rIsN_f, rIsN_t, isNon_non, isNon_int, isNon_str, isNon_tup, isNon_lst, isNon_parts, isNon_amt, rIsiD, kSome, startD, kI2, rInt2,
      List.map_cons, List.map_nil, List.length_cons, List.length_nil, List.cons_append, List.nil_append, List.getElem?_cons_zero, List.getElem?_cons_succ, List.replicate, Nat.reduceSub, Nat.reduceAdd, Nat.reduceLeDiff, Nat.zero_add, Nat.add_zero, Nat.sub_self, Nat.sub_zero, List.set_cons_zero, List.set_cons_succ, List.append_nil, List.drop, List.drop_zero,
      Option.some.injEq, exists_eq_left', exists_eq_left, true_and, and_true, if_true, if_false, Bool.false_eq_true, Bool.not_true, Bool.not_false, ite_true, ite_false, reduceIte, reduceCtorEq, Nat.le_refl, t_Amount_sub]
    refine spp_Q h0 hr ?_
    simp only [↓dSeq_e, ↓dNext_e, ↓dBreak_e, ↓dCont_e, ↓dNever_e, ↓dRet_e, ↓dRetN_e, ↓dDrop_e, ↓dIfS_e, ↓dAsg_e, ↓dPar_e, ↓dPar3_e, ↓gN_e, ↓gTp_e, ↓gNs_e, ↓gN0_e, ↓dVar_e, ↓dC_e, ↓dCB_e, ↓dCons_e, ↓dNil_e, ↓dTup_e, ↓dLst_e, ↓dLstM_e, ↓dOpMul_e, ↓dOpAdd_e, ↓dOpSub_e, ↓dOpFdv_e, ↓dOpMod_e, ↓dOpPow_e, ↓dOpCm_e, ↓dOpEq_e, ↓dOpIn_e, ↓dOpIs_e, ↓dTst_e, ↓dTbl_e, ↓dNot_e, ↓dAnd_e, ↓dOr_e, ↓dAndV_e, ↓dOrV_e, ↓dNotV_e, ↓dIf_e, ↓dCall_e, ↓dSm_e, ↓dCm_e, ↓dMeth_e, ↓dFor_e, ↓iSq_e, ↓iRng1_e, ↓dNeg_e, ↓dNegO_e, ↓dFld_e, ↓dLc_e, ↓dBM_e, ↓dFmt_e, ↓dB1_e, ↓dSl_e, ↓dPart_e, ↓dNoPart_e, ↓dfl_e0, ↓tMul_ii, ↓tAdd_ii, ↓tSub_ii, ↓tFdiv_ii, ↓tMod_ii, ↓tPow_ii, ↓tCm_ii, ↓rdP0, ↓rdP1, ↓rdV0, ↓rdV1, ↓rdA,
      kBl, kTru, rIsN_f, rIsN_t, isNon_non, isNon_int, isNon_str, isNon_tup, isNon_lst, isNon_parts, isNon_amt, rIsiD, kSome, startD, kI2, rInt2,
      List.map_cons, List.map_nil, List.length_cons, List.length_nil, List.cons_append, List.nil_append, List.getElem?_cons_zero, List.getElem?_cons_succ, List.replicate, Nat.reduceSub, Nat.reduceAdd, Nat.reduceLeDiff, Nat.zero_add, Nat.add_zero, Nat.sub_self, Nat.sub_zero, List.set_cons_zero, List.set_cons_succ, List.append_nil, List.drop, List.drop_zero,
      Option.some.injEq, exists_eq_left', exists_eq_left, true_and, and_true, if_true, if_false, Bool.false_eq_true, Bool.not_true, Bool.not_false, ite_true, ite_false, reduceIte, reduceCtorEq, Nat.le_refl, ↓dMk_amt, partsN, mulW zp.1 (zr.2), mulW zr.1 (zp.2), mulW (zp.2) (zr.2), mulW zp.1 zr.1]
    refine mkA_2 den_mul (mul_small (zp.2) (zr.2)) ?_
    rw [rat_sub]
    exact q
theorem len_Amount_mul (S : Sy) : ∀ ds W Q E, sp_Amount_mul S ds W Q E → ds.length = 2 := fun ds W Q E h => len2 h.2
theorem pf_Amount_mul (S : Sy) : ∀ ds W Q2 E2, sp_Amount_mul S ds W Q2 E2 → t_Amount_mul S { nx := fun _ W => Q2 .non W, rt := Q2 } (startD ["self", "other", "parts"] ds) W (fun x _ W => E2 x W) := by
  intro ds W Q E h
  match ds, h with
  | [c, d], h =>
    obtain ⟨h0, h⟩ := h
    obtain ⟨p, hp, h⟩ := h.inv
    obtain ⟨r, hr, zp, zr, q⟩ := h.inv
    obtain rfl := amQ_some hp
    simp only [↓dSeq_e, ↓dNext_e, ↓dBreak_e, ↓dCont_e, ↓dNever_e, ↓dRet_e, ↓dRetN_e, ↓dDrop_e, ↓dIfS_e, ↓dAsg_e, ↓dPar_e, ↓dPar3_e, ↓gN_e, ↓gTp_e, ↓gNs_e, ↓gN0_e, ↓dVar_e, ↓dC_e, ↓dCB_e, ↓dCons_e, ↓dNil_e, ↓dTup_e, ↓dLst_e, ↓dLstM_e, ↓dOpMul_e, ↓dOpAdd_e, ↓dOpSub_e, ↓dOpFdv_e, ↓dOpMod_e, ↓dOpPow_e, ↓dOpCm_e, ↓dOpEq_e, ↓dOpIn_e, ↓dOpIs_e, ↓dTst_e, ↓dTbl_e, ↓dNot_e, ↓dAnd_e, ↓dOr_e, ↓dAndV_e, ↓dOrV_e, ↓dNotV_e, ↓dIf_e, ↓dCall_e, ↓dSm_e, ↓dCm_e, ↓dMeth_e, ↓dFor_e, ↓iSq_e, ↓iRng1_e, ↓dNeg_e, ↓dNegO_e, ↓dFld_e, ↓dLc_e, ↓dBM_e, ↓dFmt_e, ↓dB1_e, ↓dSl_e, ↓dPart_e, ↓dNoPart_e, ↓dfl_e0, ↓tMul_ii, ↓tAdd_ii, ↓tSub_ii, ↓tFdiv_ii, ↓tMod_ii, ↓tPow_ii, ↓tCm_ii, ↓rdP0, ↓rdP1, ↓rdV0, ↓rdV1, ↓rdA,
      kBl, kTru, rIsN_f, rIsN_t, isNon_non, isNon_int, isNon_str, isNon_tup, isNon_lst, isNon_parts, isNon_amt, rIsiD, kSome, startD, kI2, rInt2,
      List.map_cons, List.map_nil, List.length_cons, List.length_nil, List.cons_append, List.nil_append, List.getElem?_cons_zero, List.getElem?_cons_succ, List.replicate, Nat.reduceSub, Nat.reduceAdd, Nat.reduceLeDiff, Nat.zero_add, Nat.add_zero, Nat.sub_self, Nat.sub_zero, List.set_cons_zero, List.set_cons_succ, List.append_nil, List.drop, List.drop_zero,
      Option.some.injEq, exists_eq_left', exists_eq_left, true_and, and_true, if_true, if_false, Bool.false_eq_true, Bool.not_true, Bool.not_false, ite_true, ite_false, reduceIte, reduceCtorEq, Nat.le_refl, t_Amount_mul]
    refine spp_Q h0 hr ?_
    simp only [↓dSeq_e, ↓dNext_e, ↓dBreak_e, ↓dCont_e, ↓dNever_e, ↓dRet_e, ↓dRetN_e, ↓dDrop_e, ↓dIfS_e, ↓dAsg_e, ↓dPar_e, ↓dPar3_e, ↓gN_e, ↓gTp_e, ↓gNs_e, ↓gN0_e, ↓dVar_e, ↓dC_e, ↓dCB_e, ↓dCons_e, ↓dNil_e, ↓dTup_e, ↓dLst_e, ↓dLstM_e, ↓dOpMul_e, ↓dOpAdd_e, ↓dOpSub_e, ↓dOpFdv_e, ↓dOpMod_e, ↓dOpPow_e, ↓dOpCm_e, ↓dOpEq_e, ↓dOpIn_e, ↓dOpIs_e, ↓dTst_e, ↓dTbl_e, ↓dNot_e, ↓dAnd_e, ↓dOr_e, ↓dAndV_e, ↓dOrV_e, ↓dNotV_e, ↓dIf_e, ↓dCall_e, ↓dSm_e, ↓dCm_e, ↓dMeth_e, ↓dFor_e, ↓iSq_e, ↓iRng1_e, ↓dNeg_e, ↓dNegO_e, ↓dFld_e, ↓dLc_e, ↓dBM_e, ↓dFmt_e, ↓dB1_e, ↓dSl_e, ↓dPart_e, ↓dNoPart_e, ↓dfl_e0, ↓tMul_ii, ↓tAdd_ii, ↓tSub_ii, ↓tFdiv_ii, ↓tMod_ii, ↓tPow_ii, ↓tCm_ii, ↓rdP0, ↓rdP1, ↓rdV0, ↓rdV1, ↓rdA,
      kBl, kTru, rIsN_f, rIsN_t, isNon_non, isNon_int, isNon_str, isNon_tup, isNon_lst, isNon_parts, isNon_amt, rIsiD, kSome, startD, kI2, rInt2,
      List.map_cons, List.map_nil, List.length_cons, List.length_nil, List.cons_append, List.nil_append, List.getElem?_cons_zero, List.getElem?_cons_succ, List.replicate, Nat.reduceSub, Nat.reduceAdd, Nat.reduceLeDiff, Nat.zero_add, Nat.add_zero, Nat.sub_self, Nat.sub_zero, List.set_cons_zero, List.set_cons_succ, List.append_nil, List.drop, List.drop_zero,
      Option.some.injEq, exists_eq_left', exists_eq_left, true_and, and_true, if_true, if_false, Bool.false_eq_true, Bool.not_true, Bool.not_false, ite_true, ite_false, reduceIte, reduceCtorEq, Nat.le_refl, ↓dMk_amt, partsN, mulW zp.1 (zr.2), mulW zr.1 (zp.2), mulW (zp.2) (zr.2), mulW zp.1 zr.1]
    refine mkA_2 den_mul (mul_small (zp.2) (zr.2)) ?_
    rw [rat_mul]
    exact q
theorem lenC {g : Rat → Rat → Bool} {ds : List D} {W : Wd} {Q E : QD} (h : spCm g ds W Q E) : ds.length = 2 := by
  match ds, h with
  | [c, d], h => rfl
theorem len_Amount_lt (S : Sy) : ∀ ds W Q E, sp_Amount_lt S ds W Q E → ds.length = 2 := fun ds W Q E h => lenC h.2
theorem pf_Amount_lt (S : Sy) : ∀ ds W Q2 E2, sp_Amount_lt S ds W Q2 E2 → t_Amount_lt S { nx := fun _ W => Q2 .non W, rt := Q2 } (startD ["self", "other", "parts"] ds) W (fun x _ W => E2 x W) := by
  intro ds W Q E h
  match ds, h with
  | [c, d], h =>
    obtain ⟨h0, h⟩ := h
    obtain ⟨p, hp, h⟩ := h.inv
    obtain ⟨r, hr, zp, zr, q⟩ := h.inv
    obtain rfl := amQ_some hp
    simp only [↓dSeq_e, ↓dNext_e, ↓dBreak_e, ↓dCont_e, ↓dNever_e, ↓dRet_e, ↓dRetN_e, ↓dDrop_e, ↓dIfS_e, ↓dAsg_e, ↓dPar_e, ↓dPar3_e, ↓gN_e, ↓gTp_e, ↓gNs_e, ↓gN0_e, ↓dVar_e, ↓dC_e, ↓dCB_e, ↓dCons_e, ↓dNil_e, ↓dTup_e, ↓dLst_e, ↓dLstM_e, ↓dOpMul_e, ↓dOpAdd_e, ↓dOpSub_e, ↓dOpFdv_e, ↓dOpMod_e, ↓dOpPow_e, ↓dOpCm_e, ↓dOpEq_e, ↓dOpIn_e, ↓dOpIs_e, ↓dTst_e, ↓dTbl_e, ↓dNot_e, ↓dAnd_e, ↓dOr_e, ↓dAndV_e, ↓dOrV_e, ↓dNotV_e, ↓dIf_e, ↓dCall_e, ↓dSm_e, ↓dCm_e, ↓dMeth_e, ↓dFor_e, ↓iSq_e, ↓iRng1_e, ↓dNeg_e, ↓dNegO_e, ↓dFld_e, ↓dLc_e, ↓dBM_e, ↓dFmt_e, ↓dB1_e, ↓dSl_e, ↓dPart_e, ↓dNoPart_e, ↓dfl_e0, ↓tMul_ii, ↓tAdd_ii, ↓tSub_ii, ↓tFdiv_ii, ↓tMod_ii, ↓tPow_ii, ↓tCm_ii, ↓rdP0, ↓rdP1, ↓rdV0, ↓rdV1, ↓rdA,
      kBl, kTru, rIsN_f, rIsN_t, isNon_non, isNon_int, isNon_str, isNon_tup, isNon_lst, isNon_parts, isNon_amt, rIsiD, kSome, startD, kI2, rInt2,
      List.map_cons, List.map_nil, List.length_cons, List.length_nil, List.cons_append, List.nil_append, List.getElem?_cons_zero, List.getElem?_cons_succ, List.replicate, Nat.reduceSub, Nat.reduceAdd, Nat.reduceLeDiff, Nat.zero_add, Nat.add_zero, Nat.sub_self, Nat.sub_zero, List.set_cons_zero, List.set_cons_succ, List.append_nil, List.drop, List.drop_zero,
      Option.some.injEq, exists_eq_left', exists_eq_left, true_and, and_true, if_true, if_false, Bool.false_eq_true, Bool.not_true, Bool.not_false, ite_true, ite_false, reduceIte, reduceCtorEq, Nat.le_refl, t_Amount_lt]
    refine spp_Q h0 hr ?_
    simp only [↓dSeq_e, ↓dNext_e, ↓dBreak_e, ↓dCont_e, ↓dNever_e, ↓dRet_e, ↓dRetN_e, ↓dDrop_e, ↓dIfS_e, ↓dAsg_e, ↓dPar_e, ↓dPar3_e, ↓gN_e, ↓gTp_e, ↓gNs_e, ↓gN0_e, ↓dVar_e, ↓dC_e, ↓dCB_e, ↓dCons_e, ↓dNil_e, ↓dTup_e, ↓dLst_e, ↓dLstM_e, ↓dOpMul_e, ↓dOpAdd_e, ↓dOpSub_e, ↓dOpFdv_e, ↓dOpMod_e, ↓dOpPow_e, ↓dOpCm_e, ↓dOpEq_e, ↓dOpIn_e, ↓dOpIs_e, ↓dTst_e, ↓dTbl_e, ↓dNot_e, ↓dAnd_e, ↓dOr_e, ↓dAndV_e, ↓dOrV_e, ↓dNotV_e, ↓dIf_e, ↓dCall_e, ↓dSm_e, ↓dCm_e, ↓dMeth_e, ↓dFor_e, ↓iSq_e, ↓iRng1_e, ↓dNeg_e, ↓dNegO_e, ↓dFld_e, ↓dLc_e, ↓dBM_e, ↓dFmt_e, ↓dB1_e, ↓dSl_e, ↓dPart_e, ↓dNoPart_e, ↓dfl_e0, ↓tMul_ii, ↓tAdd_ii, ↓tSub_ii, ↓tFdiv_ii, ↓tMod_ii, ↓tPow_ii, ↓tCm_ii, ↓rdP0, ↓rdP1, ↓rdV0, ↓rdV1, ↓rdA,
      kBl, kTru, rIsN_f, rIsN_t, isNon_non, isNon_int, isNon_str, isNon_tup, isNon_lst, isNon_parts, isNon_amt, rIsiD, kSome, startD, kI2, rInt2,
      List.map_cons, List.map_nil, List.length_cons, List.length_nil, List.cons_append, List.nil_append, List.getElem?_cons_zero, List.getElem?_cons_succ, List.replicate, Nat.reduceSub, Nat.reduceAdd, Nat.reduceLeDiff, Nat.zero_add, Nat.add_zero, Nat.sub_self, Nat.sub_zero, List.set_cons_zero, List.set_cons_succ, List.append_nil, List.drop, List.drop_zero,
      Option.some.injEq, exists_eq_left', exists_eq_left, true_and, and_true, if_true, if_false, Bool.false_eq_true, Bool.not_true, Bool.not_false, ite_true, ite_false, reduceIte, reduceCtorEq, Nat.le_refl, mulW zp.1 (zr.2), mulW zr.1 (zp.2)]
    rw [decide_eq_decide.mpr (Rat.lt_iff p r |>.symm)]
    exact q
theorem len_Amount_gt (S : Sy) : ∀ ds W Q E, sp_Amount_gt S ds W Q E → ds.length = 2 := fun ds W Q E h => lenC h.2
theorem pf_Amount_gt (S : Sy) : ∀ ds W Q2 E2, sp_Amount_gt S ds W Q2 E2 → t_Amount_gt S { nx := fun _ W => Q2 .non W, rt := Q2 } (startD ["self", "other", "parts"] ds) W (fun x _ W => E2 x W) := by
  intro ds W Q E h
  match ds, h with
  | [c, d], h =>
    obtain ⟨h0, h⟩ := h
    obtain ⟨p, hp, h⟩ := h.inv
    obtain ⟨r, hr, zp, zr, q⟩ := h.inv
    obtain rfl := amQ_some hp
    simp only [↓dSeq_e, ↓dNext_e, ↓dBreak_e, ↓dCont_e, ↓dNever_e, ↓dRet_e, ↓dRetN_e, ↓dDrop_e, ↓dIfS_e, ↓dAsg_e, ↓dPar_e, ↓dPar3_e, ↓gN_e, ↓gTp_e, ↓gNs_e, ↓gN0_e, ↓dVar_e, ↓dC_e, ↓dCB_e, ↓dCons_e, ↓dNil_e, ↓dTup_e, ↓dLst_e, ↓dLstM_e, ↓dOpMul_e, ↓dOpAdd_e, ↓dOpSub_e, ↓dOpFdv_e, ↓dOpMod_e, ↓dOpPow_e, ↓dOpCm_e, ↓dOpEq_e, ↓dOpIn_e, ↓dOpIs_e, ↓dTst_e, ↓dTbl_e, ↓dNot_e, ↓dAnd_e, ↓dOr_e, ↓dAndV_e, ↓dOrV_e, ↓dNotV_e, ↓dIf_e, ↓dCall_e, ↓dSm_e, ↓dCm_e, ↓dMeth_e, ↓dFor_e, ↓iSq_e, ↓iRng1_e, ↓dNeg_e, ↓dNegO_e, ↓dFld_e, ↓dLc_e, ↓dBM_e, ↓dFmt_e, ↓dB1_e, ↓dSl_e, ↓dPart_e, ↓dNoPart_e, ↓dfl_e0, ↓tMul_ii, ↓tAdd_ii, ↓tSub_ii, ↓tFdiv_ii, ↓tMod_ii, ↓tPow_ii, ↓tCm_ii, ↓rdP0, ↓rdP1, ↓rdV0, ↓rdV1, ↓rdA,
      kBl, kTru, rIsN_f, rIsN_t, isNon_non, isNon_int, isNon_str, isNon_tup, isNon_lst, isNon_parts, isNon_amt, rIsiD, kSome, startD, kI2, rInt2,
      List.map_cons, List.map_nil, List.length_cons, List.length_nil, List.cons_append, List.nil_append, List.getElem?_cons_zero, List.getElem?_cons_succ, List.replicate, Nat.reduceSub, Nat.reduceAdd, Nat.reduceLeDiff, Nat.zero_add, Nat.add_zero, Nat.sub_self, Nat.sub_zero, List.set_cons_zero, List.set_cons_succ, List.append_nil, List.drop, List.drop_zero,
      Option.some.injEq, exists_eq_left', exists_eq_left, true_and, and_true, if_true, if_false, Bool.false_eq_true, Bool.not_true, Bool.not_false, ite_true, ite_false, reduceIte, reduceCtorEq, Nat.le_refl, t_Amount_gt]
    refine spp_Q h0 hr ?_
    simp only [↓dSeq_e, ↓dNext_e, ↓dBreak_e, ↓dCont_e, ↓dNever_e, ↓dRet_e, ↓dRetN_e, ↓dDrop_e, ↓dIfS_e, ↓dAsg_e, ↓dPar_e, ↓dPar3_e, ↓gN_e, ↓gTp_e, ↓gNs_e, ↓gN0_e, ↓dVar_e, ↓dC_e, ↓dCB_e, ↓dCons_e, ↓dNil_e, ↓dTup_e, ↓dLst_e, ↓dLstM_e, ↓dOpMul_e, ↓dOpAdd_e, ↓dOpSub_e, ↓dOpFdv_e, ↓dOpMod_e, ↓dOpPow_e, ↓dOpCm_e, ↓dOpEq_e, ↓dOpIn_e, ↓dOpIs_e, ↓dTst_e, ↓dTbl_e, ↓dNot_e, ↓dAnd_e, ↓dOr_e, ↓dAndV_e, ↓dOrV_e, ↓dNotV_e, ↓dIf_e, ↓dCall_e, ↓dSm_e, ↓dCm_e, ↓dMeth_e, ↓dFor_e, ↓iSq_e, ↓iRng1_e, ↓dNeg_e, ↓dNegO_e, ↓dFld_e, ↓dLc_e, ↓dBM_e, ↓dFmt_e, ↓dB1_e, ↓dSl_e, ↓dPart_e, ↓dNoPart_e, ↓dfl_e0, ↓tMul_ii, ↓tAdd_ii, ↓tSub_ii, ↓tFdiv_ii, ↓tMod_ii, ↓tPow_ii, ↓tCm_ii, ↓rdP0, ↓rdP1, ↓rdV0, ↓rdV1, ↓rdA,
      kBl, kTru, rIsN_f, rIsN_t, isNon_non, isNon_int, isNon_str, isNon_tup, isNon_lst, isNon_parts, isNon_amt, rIsiD, kSome, startD, kI2, rInt2,
      List.map_cons, List.map_nil, List.length_cons, List.length_nil, List.cons_append, List.nil_append, List.getElem?_cons_zero, List.getElem?_cons_succ, List.replicate, Nat.reduceSub, Nat.reduceAdd, Nat.reduceLeDiff, Nat.zero_add, Nat.add_zero, Nat.sub_self, Nat.sub_zero, List.set_cons_zero, List.set_cons_succ, List.append_nil, List.drop, List.drop_zero,
      Option.some.injEq, exists_eq_left', exists_eq_left, true_and, and_true, if_true, if_false, Bool.false_eq_true, Bool.not_true, Bool.not_false, ite_true, ite_false, reduceIte, reduceCtorEq, Nat.le_refl, mulW zp.1 (zr.2), mulW zr.1 (zp.2)]
    rw [decide_eq_decide.mpr (Rat.lt_iff r p |>.symm)]
    exact q
/-! ### the operators at amounts -/
section
variable {S : Sy} {sd : SD} {W : Wd} {Q : QD} {E : QX} {p r : Rat} {c d : D} {MR : Mts}
theorem rhs_Q (h : toQ d = some r) : rhsIS 0 d W := by
  rcases toQ_some h with ⟨i, rfl, e⟩ | rfl
  · trivial
  · rfl
theorem own_amt {sp : Sy → DSp} (h : toQ d = some r) (q : sp S [amt p, d] W Q (fun x W' => E x sd W')) : rOwn (mt1 2 sp S) rhsIS (amt p) d sd W Q E :=
  ⟨List.mem_singleton.mpr rfl, rhs_Q h, Nat.le_refl _, Nat.le_refl _, q⟩
theorem own_amtR {sp : Sy → DSp} {i : Int} (q : sp S [amt p, .int i] W Q (fun x W' => E x sd W')) : rOwnR (mt1 2 sp S) isInt (.int i) (amt p) sd W Q E :=
  ⟨List.mem_singleton.mpr rfl, trivial, Nat.le_refl _, Nat.le_refl _, q⟩
theorem spBin_Q {f : Rat → Rat → Rat} {E : QD} (h : toQ d = some r) (zp : SZ p) (zr : SZ r) (q : Q (amt (f p r)) W) : spBin f [amt p, d] W Q E := by
  show kSome (amQ (amt p)) _
  rw [amQ_amt]
  show kSome (toQ d) _
  rw [h]
  exact ⟨zp, zr, q⟩
theorem spCm_Q {f : Rat → Rat → Bool} {E : QD} (h : toQ d = some r) (zp : SZ p) (zr : SZ r) (q : Q (.bl (f p r)) W) : spCm f [amt p, d] W Q E := by
  show kSome (amQ (amt p)) _
  rw [amQ_amt]
  show kSome (toQ d) _
  rw [h]
  exact ⟨zp, zr, q⟩
theorem toA (d : D) (p : Rat) : Mv.tAdd (mAdd S) MR (amt p) d sd W Q E = rOwn (mAdd S) rhsIS (amt p) d sd W Q E := by cases d <;> rfl
theorem toS (d : D) (p : Rat) : Mv.tSub (mSub S) MR (amt p) d sd W Q E = rOwn (mSub S) rhsIS (amt p) d sd W Q E := by cases d <;> rfl
theorem toM (d : D) (p : Rat) : Mv.tMul (mMul S) MR (amt p) d sd W Q E = rOwn (mMul S) rhsIS (amt p) d sd W Q E := by cases d <;> rfl
theorem oAdd (h0 : 0 ∈ S.cl) (h : toQ d = some r) (zp : SZ p) (zr : SZ r) (q : Q (amt (p + r)) W) : Mv.tAdd (mAdd S) MR (amt p) d sd W Q E := by
  rw [toA]
  exact own_amt h ⟨h0, spBin_Q (f := fun p q => p + q) h zp zr q⟩
theorem oMul (h0 : 0 ∈ S.cl) (h : toQ d = some r) (zp : SZ p) (zr : SZ r) (q : Q (amt (p * r)) W) : Mv.tMul (mMul S) MR (amt p) d sd W Q E := by
  rw [toM]
  exact own_amt h ⟨h0, spBin_Q (f := fun p q => p * q) h zp zr q⟩
theorem oSub (h0 : 0 ∈ S.cl) (h : toQ d = some r) (zp : SZ p) (zr : SZ r) (q : Q (amt (p - r)) W) : Mv.tSub (mSub S) MR (amt p) d sd W Q E := by
  rw [toS]
  exact own_amt h ⟨h0, spBin_Q (f := fun p q => p - q) h zp zr q⟩
end
theorem Sm_neg {a : Int} (h : Sm a) : Sm (-a) := by unfold Sm at *; rw [Int.natAbs_neg]; exact h
theorem SZ_neg {p : Rat} (h : SZ p) : SZ (-p) := ⟨by rw [Rat.neg_num]; exact Sm_neg h.1, by rw [Rat.neg_den]; exact h.2⟩
theorem Bg_of {a : Int} (h : Sm a) : Bg a := Nat.lt_of_lt_of_le h (Nat.pow_le_pow_right (by decide) (by decide))
/-! ### the others -/
theorem len_Amount_radd (S : Sy) : ∀ ds W Q E, sp_Amount_radd S ds W Q E → ds.length = 2 := fun ds W Q E h => len2 h.2
theorem pf_Amount_radd (S : Sy) : ∀ ds W Q2 E2, sp_Amount_radd S ds W Q2 E2 → t_Amount_radd S { nx := fun _ W => Q2 .non W, rt := Q2 } (startD ["self", "other"] ds) W (fun x _ W => E2 x W) := by
  intro ds W Q E h
  match ds, h with
  | [c, d], h =>
    obtain ⟨h0, h⟩ := h
    obtain ⟨p, hp, h⟩ := h.inv
    obtain ⟨r, hr, zp, zr, q⟩ := h.inv
    obtain rfl := amQ_some hp
    simp only [↓dSeq_e, ↓dNext_e, ↓dBreak_e, ↓dCont_e, ↓dNever_e, ↓dRet_e, ↓dRetN_e, ↓dDrop_e, ↓dIfS_e, ↓dAsg_e, ↓dPar_e, ↓dPar3_e, ↓gN_e, ↓gTp_e, ↓gNs_e, ↓gN0_e, ↓dVar_e, ↓dC_e, ↓dCB_e, ↓dCons_e, ↓dNil_e, ↓dTup_e, ↓dLst_e, ↓dLstM_e, ↓dOpMul_e, ↓dOpAdd_e, ↓dOpSub_e, ↓dOpFdv_e, ↓dOpMod_e, ↓dOpPow_e, ↓dOpCm_e, ↓dOpEq_e, ↓dOpIn_e, ↓dOpIs_e, ↓dTst_e, ↓dTbl_e, ↓dNot_e, ↓dAnd_e, ↓dOr_e, ↓dAndV_e, ↓dOrV_e, ↓dNotV_e, ↓dIf_e, ↓dCall_e, ↓dSm_e, ↓dCm_e, ↓dMeth_e, ↓dFor_e, ↓iSq_e, ↓iRng1_e, ↓dNeg_e, ↓dNegO_e, ↓dFld_e, ↓dLc_e, ↓dBM_e, ↓dFmt_e, ↓dB1_e, ↓dSl_e, ↓dPart_e, ↓dNoPart_e, ↓dfl_e0, ↓tMul_ii, ↓tAdd_ii, ↓tSub_ii, ↓tFdiv_ii, ↓tMod_ii, ↓tPow_ii, ↓tCm_ii, ↓rdP0, ↓rdP1, ↓rdV0, ↓rdV1, ↓rdA,
      kBl, kTru, rIsN_f, rIsN_t, isNon_non, isNon_int, isNon_str, isNon_tup, isNon_lst, isNon_parts, isNon_amt, rIsiD, kSome, startD, kI2, rInt2,
      List.map_cons, List.map_nil, List.length_cons, List.length_nil, List.cons_append, List.nil_append, List.getElem?_cons_zero, List.getElem?_cons_succ, List.replicate, Nat.reduceSub, Nat.reduceAdd, Nat.reduceLeDiff, Nat.zero_add, Nat.add_zero, Nat.sub_self, Nat.sub_zero, List.set_cons_zero, List.set_cons_succ, List.append_nil, List.drop, List.drop_zero,
      Option.some.injEq, exists_eq_left', exists_eq_left, true_and, and_true, if_true, if_false, Bool.false_eq_true, Bool.not_true, Bool.not_false, ite_true, ite_false, reduceIte, reduceCtorEq, Nat.le_refl, t_Amount_radd]
    refine oAdd h0 hr zp zr ?_
    rw [Rat.add_comm]
    exact q
theorem len_Amount_rmul (S : Sy) : ∀ ds W Q E, sp_Amount_rmul S ds W Q E → ds.length = 2 := fun ds W Q E h => len2 h.2
theorem pf_Amount_rmul (S : Sy) : ∀ ds W Q2 E2, sp_Amount_rmul S ds W Q2 E2 → t_Amount_rmul S { nx := fun _ W => Q2 .non W, rt := Q2 } (startD ["self", "other"] ds) W (fun x _ W => E2 x W) := by
  intro ds W Q E h
  match ds, h with
  | [c, d], h =>
    obtain ⟨h0, h⟩ := h
    obtain ⟨p, hp, h⟩ := h.inv
    obtain ⟨r, hr, zp, zr, q⟩ := h.inv
    obtain rfl := amQ_some hp
    simp only [↓dSeq_e, ↓dNext_e, ↓dBreak_e, ↓dCont_e, ↓dNever_e, ↓dRet_e, ↓dRetN_e, ↓dDrop_e, ↓dIfS_e, ↓dAsg_e, ↓dPar_e, ↓dPar3_e, ↓gN_e, ↓gTp_e, ↓gNs_e, ↓gN0_e, ↓dVar_e, ↓dC_e, ↓dCB_e, ↓dCons_e, ↓dNil_e, ↓dTup_e, ↓dLst_e, ↓dLstM_e, ↓dOpMul_e, ↓dOpAdd_e, ↓dOpSub_e, ↓dOpFdv_e, ↓dOpMod_e, ↓dOpPow_e, ↓dOpCm_e, ↓dOpEq_e, ↓dOpIn_e, ↓dOpIs_e, ↓dTst_e, ↓dTbl_e, ↓dNot_e, ↓dAnd_e, ↓dOr_e, ↓dAndV_e, ↓dOrV_e, ↓dNotV_e, ↓dIf_e, ↓dCall_e, ↓dSm_e, ↓dCm_e, ↓dMeth_e, ↓dFor_e, ↓iSq_e, ↓iRng1_e, ↓dNeg_e, ↓dNegO_e, ↓dFld_e, ↓dLc_e, ↓dBM_e, ↓dFmt_e, ↓dB1_e, ↓dSl_e, ↓dPart_e, ↓dNoPart_e, ↓dfl_e0, ↓tMul_ii, ↓tAdd_ii, ↓tSub_ii, ↓tFdiv_ii, ↓tMod_ii, ↓tPow_ii, ↓tCm_ii, ↓rdP0, ↓rdP1, ↓rdV0, ↓rdV1, ↓rdA,
      kBl, kTru, rIsN_f, rIsN_t, isNon_non, isNon_int, isNon_str, isNon_tup, isNon_lst, isNon_parts, isNon_amt, rIsiD, kSome, startD, kI2, rInt2,
      List.map_cons, List.map_nil, List.length_cons, List.length_nil, List.cons_append, List.nil_append, List.getElem?_cons_zero, List.getElem?_cons_succ, List.replicate, Nat.reduceSub, Nat.reduceAdd, Nat.reduceLeDiff, Nat.zero_add, Nat.add_zero, Nat.sub_self, Nat.sub_zero, List.set_cons_zero, List.set_cons_succ, List.append_nil, List.drop, List.drop_zero,
      Option.some.injEq, exists_eq_left', exists_eq_left, true_and, and_true, if_true, if_false, Bool.false_eq_true, Bool.not_true, Bool.not_false, ite_true, ite_false, reduceIte, reduceCtorEq, Nat.le_refl, t_Amount_rmul]
    refine oMul h0 hr zp zr ?_
    rw [Rat.mul_comm]
    exact q
theorem spUn_Q {f : Rat → Rat} {W : Wd} {Q E : QD} {p : Rat} (zp : SZ p) (q : Q (amt (f p)) W) : spUn f [amt p] W Q E := by
  show kSome (amQ (amt p)) _
  rw [amQ_amt]
  exact ⟨zp, q⟩
theorem lenU {f : Rat → Rat} {ds : List D} {W : Wd} {Q E : QD} (h : spUn f ds W Q E) : ds.length = 1 := by
  match ds, h with
  | [c], h => rfl
theorem len_Amount_rsub (S : Sy) : ∀ ds W Q E, sp_Amount_rsub S ds W Q E → ds.length = 2 := fun ds W Q E h => len2 h.2
theorem pf_Amount_rsub (S : Sy) : ∀ ds W Q2 E2, sp_Amount_rsub S ds W Q2 E2 → t_Amount_rsub S { nx := fun _ W => Q2 .non W, rt := Q2 } (startD ["self", "other"] ds) W (fun x _ W => E2 x W) := by
  intro ds W Q E h
  match ds, h with
  | [c, d], h =>
    obtain ⟨h0, h⟩ := h
    obtain ⟨p, hp, h⟩ := h.inv
    obtain ⟨r, hr, zp, zr, q⟩ := h.inv
    obtain rfl := amQ_some hp
    simp only [↓dSeq_e, ↓dNext_e, ↓dBreak_e, ↓dCont_e, ↓dNever_e, ↓dRet_e, ↓dRetN_e, ↓dDrop_e, ↓dIfS_e, ↓dAsg_e, ↓dPar_e, ↓dPar3_e, ↓gN_e, ↓gTp_e, ↓gNs_e, ↓gN0_e, ↓dVar_e, ↓dC_e, ↓dCB_e, ↓dCons_e, ↓dNil_e, ↓dTup_e, ↓dLst_e, ↓dLstM_e, ↓dOpMul_e, ↓dOpAdd_e, ↓dOpSub_e, ↓dOpFdv_e, ↓dOpMod_e, ↓dOpPow_e, ↓dOpCm_e, ↓dOpEq_e, ↓dOpIn_e, ↓dOpIs_e, ↓dTst_e, ↓dTbl_e, ↓dNot_e, ↓dAnd_e, ↓dOr_e, ↓dAndV_e, ↓dOrV_e, ↓dNotV_e, ↓dIf_e, ↓dCall_e, ↓dSm_e, ↓dCm_e, ↓dMeth_e, ↓dFor_e, ↓iSq_e, ↓iRng1_e, ↓dNeg_e, ↓dNegO_e, ↓dFld_e, ↓dLc_e, ↓dBM_e, ↓dFmt_e, ↓dB1_e, ↓dSl_e, ↓dPart_e, ↓dNoPart_e, ↓dfl_e0, ↓tMul_ii, ↓tAdd_ii, ↓tSub_ii, ↓tFdiv_ii, ↓tMod_ii, ↓tPow_ii, ↓tCm_ii, ↓rdP0, ↓rdP1, ↓rdV0, ↓rdV1, ↓rdA,
      kBl, kTru, rIsN_f, rIsN_t, isNon_non, isNon_int, isNon_str, isNon_tup, isNon_lst, isNon_parts, isNon_amt, rIsiD, kSome, startD, kI2, rInt2,
      List.map_cons, List.map_nil, List.length_cons, List.length_nil, List.cons_append, List.nil_append, List.getElem?_cons_zero, List.getElem?_cons_succ, List.replicate, Nat.reduceSub, Nat.reduceAdd, Nat.reduceLeDiff, Nat.zero_add, Nat.add_zero, Nat.sub_self, Nat.sub_zero, List.set_cons_zero, List.set_cons_succ, List.append_nil, List.drop, List.drop_zero,
      Option.some.injEq, exists_eq_left', exists_eq_left, true_and, and_true, if_true, if_false, Bool.false_eq_true, Bool.not_true, Bool.not_false, ite_true, ite_false, reduceIte, reduceCtorEq, Nat.le_refl, t_Amount_rsub]
    refine ⟨List.mem_singleton.mpr rfl, Nat.le_refl _, Nat.le_refl _, h0, spUn_Q (f := fun p => -p) zp ?_⟩
    refine oAdd h0 hr (SZ_neg zp) zr ?_
    have e : -p + r = r - p := by grind
    rw [e]
    exact q
theorem len_Amount_neg (S : Sy) : ∀ ds W Q E, sp_Amount_neg S ds W Q E → ds.length = 1 := fun ds W Q E h => lenU h.2
theorem pf_Amount_neg (S : Sy) : ∀ ds W Q2 E2, sp_Amount_neg S ds W Q2 E2 → t_Amount_neg S { nx := fun _ W => Q2 .non W, rt := Q2 } (startD ["self"] ds) W (fun x _ W => E2 x W) := by
  intro ds W Q E h
  match ds, h with
  | [c], h =>
    obtain ⟨h0, h⟩ := h
    obtain ⟨p, hp, zp, q⟩ := h.inv
    obtain rfl := amQ_some hp
    simp only [↓dSeq_e, ↓dNext_e, ↓dBreak_e, ↓dCont_e, ↓dNever_e, ↓dRet_e, ↓dRetN_e, ↓dDrop_e, ↓dIfS_e, ↓dAsg_e, ↓dPar_e, ↓dPar3_e, ↓gN_e, ↓gTp_e, ↓gNs_e, ↓gN0_e, ↓dVar_e, ↓dC_e, ↓dCB_e, ↓dCons_e, ↓dNil_e, ↓dTup_e, ↓dLst_e, ↓dLstM_e, ↓dOpMul_e, ↓dOpAdd_e, ↓dOpSub_e, ↓dOpFdv_e, ↓dOpMod_e, ↓dOpPow_e, ↓dOpCm_e, ↓dOpEq_e, ↓dOpIn_e, ↓dOpIs_e, ↓dTst_e, ↓dTbl_e, ↓dNot_e, ↓dAnd_e, ↓dOr_e, ↓dAndV_e, ↓dOrV_e, ↓dNotV_e, ↓dIf_e, ↓dCall_e, ↓dSm_e, ↓dCm_e, ↓dMeth_e, ↓dFor_e, ↓iSq_e, ↓iRng1_e, ↓dNeg_e, ↓dNegO_e, ↓dFld_e, ↓dLc_e, ↓dBM_e, ↓dFmt_e, ↓dB1_e, ↓dSl_e, ↓dPart_e, ↓dNoPart_e, ↓dfl_e0, ↓tMul_ii, ↓tAdd_ii, ↓tSub_ii, ↓tFdiv_ii, ↓tMod_ii, ↓tPow_ii, ↓tCm_ii, ↓rdP0, ↓rdP1, ↓rdV0, ↓rdV1, ↓rdA,
      kBl, kTru, rIsN_f, rIsN_t, isNon_non, isNon_int, isNon_str, isNon_tup, isNon_lst, isNon_parts, isNon_amt, rIsiD, kSome, startD, kI2, rInt2,
      List.map_cons, List.map_nil, List.length_cons, List.length_nil, List.cons_append, List.nil_append, List.getElem?_cons_zero, List.getElem?_cons_succ, List.replicate, Nat.reduceSub, Nat.reduceAdd, Nat.reduceLeDiff, Nat.zero_add, Nat.add_zero, Nat.sub_self, Nat.sub_zero, List.set_cons_zero, List.set_cons_succ, List.append_nil, List.drop, List.drop_zero,
      Option.some.injEq, exists_eq_left', exists_eq_left, true_and, and_true, if_true, if_false, Bool.false_eq_true, Bool.not_true, Bool.not_false, ite_true, ite_false, reduceIte, reduceCtorEq, Nat.le_refl, t_Amount_neg, ↓dMk_amt]
    refine mkA_2 (denz p) (Bg_of zp.2) ?_
    rw [rat_neg]
    exact q
theorem num_neg {p : Rat} : p.num < 0 ↔ p < 0 := by
  have := Rat.lt_iff p 0
  simpa using this.symm
theorem absQ_eq (p : Rat) : Rat.divInt (if p.num < 0 then -p.num else p.num) p.den = absQ p := by
  unfold absQ
  by_cases h : p.num < 0
  · rw [if_pos h, if_pos (num_neg.mp h), rat_neg]
  · rw [if_neg h, if_neg fun z => h (num_neg.mpr z)]
    have h1 := rat_nd p
    rw [Rat.divInt_eq_div]
    exact h1.symm
theorem len_Amount_abs (S : Sy) : ∀ ds W Q E, sp_Amount_abs S ds W Q E → ds.length = 1 := fun ds W Q E h => lenU h.2
theorem pf_Amount_abs (S : Sy) : ∀ ds W Q2 E2, sp_Amount_abs S ds W Q2 E2 → t_Amount_abs S { nx := fun _ W => Q2 .non W, rt := Q2 } (startD ["self"] ds) W (fun x _ W => E2 x W) := by
  intro ds W Q E h
  match ds, h with
  | [c], h =>
    obtain ⟨h0, h⟩ := h
    obtain ⟨p, hp, zp, q⟩ := h.inv
    obtain rfl := amQ_some hp
    simp only [↓dSeq_e, ↓dNext_e, ↓dBreak_e, ↓dCont_e, ↓dNever_e, ↓dRet_e, ↓dRetN_e, ↓dDrop_e, ↓dIfS_e, ↓dAsg_e, ↓dPar_e, ↓dPar3_e, ↓gN_e, ↓gTp_e, ↓gNs_e, ↓gN0_e, ↓dVar_e, ↓dC_e, ↓dCB_e, ↓dCons_e, ↓dNil_e, ↓dTup_e, ↓dLst_e, ↓dLstM_e, ↓dOpMul_e, ↓dOpAdd_e, ↓dOpSub_e, ↓dOpFdv_e, ↓dOpMod_e, ↓dOpPow_e, ↓dOpCm_e, ↓dOpEq_e, ↓dOpIn_e, ↓dOpIs_e, ↓dTst_e, ↓dTbl_e, ↓dNot_e, ↓dAnd_e, ↓dOr_e, ↓dAndV_e, ↓dOrV_e, ↓dNotV_e, ↓dIf_e, ↓dCall_e, ↓dSm_e, ↓dCm_e, ↓dMeth_e, ↓dFor_e, ↓iSq_e, ↓iRng1_e, ↓dNeg_e, ↓dNegO_e, ↓dFld_e, ↓dLc_e, ↓dBM_e, ↓dFmt_e, ↓dB1_e, ↓dSl_e, ↓dPart_e, ↓dNoPart_e, ↓dfl_e0, ↓tMul_ii, ↓tAdd_ii, ↓tSub_ii, ↓tFdiv_ii, ↓tMod_ii, ↓tPow_ii, ↓tCm_ii, ↓rdP0, ↓rdP1, ↓rdV0, ↓rdV1, ↓rdA,
      kBl, kTru, rIsN_f, rIsN_t, isNon_non, isNon_int, isNon_str, isNon_tup, isNon_lst, isNon_parts, isNon_amt, rIsiD, kSome, startD, kI2, rInt2,
      List.map_cons, List.map_nil, List.length_cons, List.length_nil, List.cons_append, List.nil_append, List.getElem?_cons_zero, List.getElem?_cons_succ, List.replicate, Nat.reduceSub, Nat.reduceAdd, Nat.reduceLeDiff, Nat.zero_add, Nat.add_zero, Nat.sub_self, Nat.sub_zero, List.set_cons_zero, List.set_cons_succ, List.append_nil, List.drop, List.drop_zero,
      Option.some.injEq, exists_eq_left', exists_eq_left, true_and, and_true, if_true, if_false, Bool.false_eq_true, Bool.not_true, Bool.not_false, ite_true, ite_false, reduceIte, reduceCtorEq, Nat.le_refl, t_Amount_abs, ↓dMk_amt, rAbsD]
    refine mkA_2 (denz p) (Bg_of zp.2) ?_
    rw [absQ_eq]
    exact q
/-! ### whole times, rests -/
theorem gTp_parts {p : Rat} {t : DGs} {sd : SD} {W : Wd} {QS : SD → Wd → Prop} : gTp 2 t (partsD p) sd W QS = t [.int p.num, .int p.den] sd W QS := by simp [gTp, partsD]
theorem num_ne {r : Rat} (h : r ≠ 0) : r.num ≠ 0 := fun e => h (Rat.num_eq_zero.mp e)
theorem len_times_of (S : Sy) : ∀ ds W Q E, sp_times_of S ds W Q E → ds.length = 2 := fun ds W Q E h => by
  match ds, h with
  | [.tup [.int a, .int b], .tup [.int c, .int d]], h => rfl
theorem pf_times_of (S : Sy) : ∀ ds W Q2 E2, sp_times_of S ds W Q2 E2 → t_times_of S { nx := fun _ W => Q2 .non W, rt := Q2 } (startD ["parts", "other"] ds) W (fun x _ W => E2 x W) := by
  intro ds W Q E h
  match ds, h with
  | [.tup [.int a, .int b], .tup [.int c, .int d]], h =>
    have h : if c ≤ 0 then E (badA "other") W else 0 < b ∧ 0 < d ∧ Sm a ∧ Sm b ∧ Sm c ∧ Sm d ∧ Q (.int (a * d / (b * c))) W := h
    by_cases e : c ≤ 0
    · rw [if_pos e] at h
      simp only [↓dSeq_e, ↓dNext_e, ↓dBreak_e, ↓dCont_e, ↓dNever_e, ↓dRet_e, ↓dRetN_e, ↓dDrop_e, ↓dIfS_e, ↓dAsg_e, ↓dPar_e, ↓dPar3_e, ↓gN_e, ↓gTp_e, ↓gNs_e, ↓gN0_e, ↓dVar_e, ↓dC_e, ↓dCB_e, ↓dCons_e, ↓dNil_e, ↓dTup_e, ↓dLst_e, ↓dLstM_e, ↓dOpMul_e, ↓dOpAdd_e, ↓dOpSub_e, ↓dOpFdv_e, ↓dOpMod_e, ↓dOpPow_e, ↓dOpCm_e, ↓dOpEq_e, ↓dOpIn_e, ↓dOpIs_e, ↓dTst_e, ↓dTbl_e, ↓dNot_e, ↓dAnd_e, ↓dOr_e, ↓dAndV_e, ↓dOrV_e, ↓dNotV_e, ↓dIf_e, ↓dCall_e, ↓dSm_e, ↓dCm_e, ↓dMeth_e, ↓dFor_e, ↓iSq_e, ↓iRng1_e, ↓dNeg_e, ↓dNegO_e, ↓dFld_e, ↓dLc_e, ↓dBM_e, ↓dFmt_e, ↓dB1_e, ↓dSl_e, ↓dPart_e, ↓dNoPart_e, ↓dfl_e0, ↓tMul_ii, ↓tAdd_ii, ↓tSub_ii, ↓tFdiv_ii, ↓tMod_ii, ↓tPow_ii, ↓tCm_ii, ↓rdP0, ↓rdP1, ↓rdV0, ↓rdV1, ↓rdA,
      kBl, kTru, rIsN_f, rIsN_t, isNon_non, isNon_int, isNon_str, isNon_tup, isNon_lst, isNon_parts, isNon_amt, rIsiD, kSome, startD, kI2, rInt2,
      List.map_cons, List.map_nil, List.length_cons, List.length_nil, List.cons_append, List.nil_append, List.getElem?_cons_zero, List.getElem?_cons_succ, List.replicate, Nat.reduceSub, Nat.reduceAdd, Nat.reduceLeDiff, Nat.zero_add, Nat.add_zero, Nat.sub_self, Nat.sub_zero, List.set_cons_zero, List.set_cons_succ, List.append_nil, List.drop, List.drop_zero,
      Option.some.injEq, exists_eq_left', exists_eq_left, true_and, and_true, if_true, if_false, Bool.false_eq_true, Bool.not_true, Bool.not_false, ite_true, ite_false, reduceIte, reduceCtorEq, Nat.le_refl, t_times_of, ↓dOp_e, tIx, rIxSq, kSeq, ix0, e, decide_true]
      exact h
    rw [if_neg e] at h
    obtain ⟨hb, hd, za, zb, zc, zd, q⟩ := h
    have hc : 0 < c := by omega
    have hdiv : CDivW (a * d) (b * c) := wide_div (b := 8800) (Int.mul_pos hb hc) (wide_lt zb zc) (by decide) (by decide)
    simp only [↓dSeq_e, ↓dNext_e, ↓dBreak_e, ↓dCont_e, ↓dNever_e, ↓dRet_e, ↓dRetN_e, ↓dDrop_e, ↓dIfS_e, ↓dAsg_e, ↓dPar_e, ↓dPar3_e, ↓gN_e, ↓gTp_e, ↓gNs_e, ↓gN0_e, ↓dVar_e, ↓dC_e, ↓dCB_e, ↓dCons_e, ↓dNil_e, ↓dTup_e, ↓dLst_e, ↓dLstM_e, ↓dOpMul_e, ↓dOpAdd_e, ↓dOpSub_e, ↓dOpFdv_e, ↓dOpMod_e, ↓dOpPow_e, ↓dOpCm_e, ↓dOpEq_e, ↓dOpIn_e, ↓dOpIs_e, ↓dTst_e, ↓dTbl_e, ↓dNot_e, ↓dAnd_e, ↓dOr_e, ↓dAndV_e, ↓dOrV_e, ↓dNotV_e, ↓dIf_e, ↓dCall_e, ↓dSm_e, ↓dCm_e, ↓dMeth_e, ↓dFor_e, ↓iSq_e, ↓iRng1_e, ↓dNeg_e, ↓dNegO_e, ↓dFld_e, ↓dLc_e, ↓dBM_e, ↓dFmt_e, ↓dB1_e, ↓dSl_e, ↓dPart_e, ↓dNoPart_e, ↓dfl_e0, ↓tMul_ii, ↓tAdd_ii, ↓tSub_ii, ↓tFdiv_ii, ↓tMod_ii, ↓tPow_ii, ↓tCm_ii, ↓rdP0, ↓rdP1, ↓rdV0, ↓rdV1, ↓rdA,
      kBl, kTru, rIsN_f, rIsN_t, isNon_non, isNon_int, isNon_str, isNon_tup, isNon_lst, isNon_parts, isNon_amt, rIsiD, kSome, startD, kI2, rInt2,
      List.map_cons, List.map_nil, List.length_cons, List.length_nil, List.cons_append, List.nil_append, List.getElem?_cons_zero, List.getElem?_cons_succ, List.replicate, Nat.reduceSub, Nat.reduceAdd, Nat.reduceLeDiff, Nat.zero_add, Nat.add_zero, Nat.sub_self, Nat.sub_zero, List.set_cons_zero, List.set_cons_succ, List.append_nil, List.drop, List.drop_zero,
      Option.some.injEq, exists_eq_left', exists_eq_left, true_and, and_true, if_true, if_false, Bool.false_eq_true, Bool.not_true, Bool.not_false, ite_true, ite_false, reduceIte, reduceCtorEq, Nat.le_refl, t_times_of, ↓dOp_e, tIx, rIxSq, kSeq, ix0, ix1, e, decide_false, mulW za zd, mulW zb zc, hdiv]
    exact q
theorem spt_Q {S : Sy} {p r : Rat} {W : Wd} {Q E : QD} (hz : 0 < r) (zp : SZ p) (zr : SZ r) (q : Q (.int (flQ p r)) W) : sp_times_of S [partsD p, partsD r] W Q E := by
  show if r.num ≤ 0 then _ else _
  have hn : 0 < r.num := by
    have := Rat.lt_iff 0 r
    simpa using this.mp hz
  rw [if_neg (by omega)]
  refine ⟨?_, ?_, zp.1, zp.2, zr.1, zr.2, q⟩
  · have := p.den_pos; omega
  · have := r.den_pos; omega
theorem spt_X {S : Sy} {p r : Rat} {W : Wd} {Q E : QD} (hz : r ≤ 0) (q : E (badA "other") W) : sp_times_of S [partsD p, partsD r] W Q E := by
  show if r.num ≤ 0 then _ else _
  have hn : r.num ≤ 0 := by
    have := Rat.le_iff r 0
    simpa using this.mp hz
  rw [if_pos hn]
  exact q
theorem len_Amount_floordiv (S : Sy) : ∀ ds W Q E, sp_Amount_floordiv S ds W Q E → ds.length = 2 := fun ds W Q E h => by
  match ds, h with
  | [c, d], h => rfl
theorem pf_Amount_floordiv (S : Sy) : ∀ ds W Q2 E2, sp_Amount_floordiv S ds W Q2 E2 → t_Amount_floordiv S { nx := fun _ W => Q2 .non W, rt := Q2 } (startD ["self", "other"] ds) W (fun x _ W => E2 x W) := by
  intro ds W Q E h
  match ds, h with
  | [c, d], h =>
    obtain ⟨h0, h⟩ := h
    obtain ⟨p, hp, h⟩ := h.inv
    obtain ⟨r, hr, h2⟩ := h.inv
    obtain rfl := amQ_some hp
    simp only [↓dSeq_e, ↓dNext_e, ↓dBreak_e, ↓dCont_e, ↓dNever_e, ↓dRet_e, ↓dRetN_e, ↓dDrop_e, ↓dIfS_e, ↓dAsg_e, ↓dPar_e, ↓dPar3_e, ↓gN_e, ↓gTp_e, ↓gNs_e, ↓gN0_e, ↓dVar_e, ↓dC_e, ↓dCB_e, ↓dCons_e, ↓dNil_e, ↓dTup_e, ↓dLst_e, ↓dLstM_e, ↓dOpMul_e, ↓dOpAdd_e, ↓dOpSub_e, ↓dOpFdv_e, ↓dOpMod_e, ↓dOpPow_e, ↓dOpCm_e, ↓dOpEq_e, ↓dOpIn_e, ↓dOpIs_e, ↓dTst_e, ↓dTbl_e, ↓dNot_e, ↓dAnd_e, ↓dOr_e, ↓dAndV_e, ↓dOrV_e, ↓dNotV_e, ↓dIf_e, ↓dCall_e, ↓dSm_e, ↓dCm_e, ↓dMeth_e, ↓dFor_e, ↓iSq_e, ↓iRng1_e, ↓dNeg_e, ↓dNegO_e, ↓dFld_e, ↓dLc_e, ↓dBM_e, ↓dFmt_e, ↓dB1_e, ↓dSl_e, ↓dPart_e, ↓dNoPart_e, ↓dfl_e0, ↓tMul_ii, ↓tAdd_ii, ↓tSub_ii, ↓tFdiv_ii, ↓tMod_ii, ↓tPow_ii, ↓tCm_ii, ↓rdP0, ↓rdP1, ↓rdV0, ↓rdV1, ↓rdA,
      kBl, kTru, rIsN_f, rIsN_t, isNon_non, isNon_int, isNon_str, isNon_tup, isNon_lst, isNon_parts, isNon_amt, rIsiD, kSome, startD, kI2, rInt2,
      List.map_cons, List.map_nil, List.length_cons, List.length_nil, List.cons_append, List.nil_append, List.getElem?_cons_zero, List.getElem?_cons_succ, List.replicate, Nat.reduceSub, Nat.reduceAdd, Nat.reduceLeDiff, Nat.zero_add, Nat.add_zero, Nat.sub_self, Nat.sub_zero, List.set_cons_zero, List.set_cons_succ, List.append_nil, List.drop, List.drop_zero,
      Option.some.injEq, exists_eq_left', exists_eq_left, true_and, and_true, if_true, if_false, Bool.false_eq_true, Bool.not_true, Bool.not_false, ite_true, ite_false, reduceIte, reduceCtorEq, Nat.le_refl, t_Amount_floordiv]
    refine spp_Q h0 hr ?_
    by_cases hz : r ≤ 0
    · rw [if_pos hz] at h2
      exact spt_X hz h2
    · rw [if_neg hz] at h2
      exact spt_Q (Rat.not_le.mp hz) h2.1 h2.2.1 h2.2.2
theorem len_Amount_mod (S : Sy) : ∀ ds W Q E, sp_Amount_mod S ds W Q E → ds.length = 2 := fun ds W Q E h => by
  match ds, h with
  | [c, d], h => rfl
theorem rat_mod {p r : Rat} {k : Int} : Rat.divInt (p.num * r.den - k * r.num * p.den) (p.den * r.den) = p - k * r := by
  have h1 := rat_nd p
  have h2 := rat_nd r
  have d1 := denR p
  have d2 := denR r
  rw [Rat.divInt_eq_div, Rat.intCast_sub, Rat.intCast_mul, Rat.intCast_mul, Rat.intCast_mul, Rat.intCast_mul]
  generalize (p.num : Rat) = a at *
  generalize ((p.den : Int) : Rat) = b at *
  generalize (r.num : Rat) = c at *
  generalize ((r.den : Int) : Rat) = d at *
  generalize (k : Rat) = e at *
  subst h1 h2
  grind
theorem flQ_small {p r : Rat} (zp : SZ p) (zr : SZ r) (hz : 0 < r) : (flQ p r).natAbs < 2 ^ 8801 := by
  unfold flQ
  have hn : 0 < r.num := by
    have := Rat.lt_iff 0 r
    simpa using this.mp hz
  have hd := p.den_pos
  have h1 : (p.num * r.den).natAbs < 2 ^ 8800 := wide_lt zp.1 zr.2
  have h2 : 0 < (p.den : Int) * r.num := Int.mul_pos (by omega) hn
  generalize p.num * (r.den : Int) = a at *
  generalize (p.den : Int) * r.num = b at *
  have e : (2 : Nat) ^ 8801 = 2 ^ 8800 * 2 := by rw [show (8801 : Nat) = 8800 + 1 from rfl, Nat.pow_succ]
  rw [e]
  generalize (2 : Nat) ^ 8800 = M at *
  have l1 : (a / b).natAbs ≤ a.natAbs + 1 := by
    rcases Int.le_total 0 a with ha | ha
    · have := Int.ediv_nonneg ha (Int.le_of_lt h2)
      have := Int.ediv_le_self b ha
      omega
    · have h3 : a ≤ a / b := by
        rw [Int.le_ediv_iff_mul_le h2]
        have := Int.mul_le_mul_of_nonpos_left ha (show 1 ≤ b by omega)
        omega
      have h4 : a / b ≤ 0 := Int.ediv_nonpos_of_nonpos_of_neg ha h2
      omega
  omega
theorem pf_Amount_mod (S : Sy) : ∀ ds W Q2 E2, sp_Amount_mod S ds W Q2 E2 → t_Amount_mod S { nx := fun _ W => Q2 .non W, rt := Q2 } (startD ["self", "other", "parts", "times"] ds) W (fun x _ W => E2 x W) := by
  intro ds W Q E h
  match ds, h with
  | [c, d], h =>
    obtain ⟨h0, h⟩ := h
    obtain ⟨p, hp, h⟩ := h.inv
    obtain ⟨r, hr, h2⟩ := h.inv
    obtain rfl := amQ_some hp
    simp only [↓dSeq_e, ↓dNext_e, ↓dBreak_e, ↓dCont_e, ↓dNever_e, ↓dRet_e, ↓dRetN_e, ↓dDrop_e, ↓dIfS_e, ↓dAsg_e, ↓dPar_e, ↓dPar3_e, ↓gN_e, ↓gTp_e, ↓gNs_e, ↓gN0_e, ↓dVar_e, ↓dC_e, ↓dCB_e, ↓dCons_e, ↓dNil_e, ↓dTup_e, ↓dLst_e, ↓dLstM_e, ↓dOpMul_e, ↓dOpAdd_e, ↓dOpSub_e, ↓dOpFdv_e, ↓dOpMod_e, ↓dOpPow_e, ↓dOpCm_e, ↓dOpEq_e, ↓dOpIn_e, ↓dOpIs_e, ↓dTst_e, ↓dTbl_e, ↓dNot_e, ↓dAnd_e, ↓dOr_e, ↓dAndV_e, ↓dOrV_e, ↓dNotV_e, ↓dIf_e, ↓dCall_e, ↓dSm_e, ↓dCm_e, ↓dMeth_e, ↓dFor_e, ↓iSq_e, ↓iRng1_e, ↓dNeg_e, ↓dNegO_e, ↓dFld_e, ↓dLc_e, ↓dBM_e, ↓dFmt_e, ↓dB1_e, ↓dSl_e, ↓dPart_e, ↓dNoPart_e, ↓dfl_e0, ↓tMul_ii, ↓tAdd_ii, ↓tSub_ii, ↓tFdiv_ii, ↓tMod_ii, ↓tPow_ii, ↓tCm_ii, ↓rdP0, ↓rdP1, ↓rdV0, ↓rdV1, ↓rdA,
      kBl, kTru, rIsN_f, rIsN_t, isNon_non, isNon_int, isNon_str, isNon_tup, isNon_lst, isNon_parts, isNon_amt, rIsiD, kSome, startD, kI2, rInt2,
      List.map_cons, List.map_nil, List.length_cons, List.length_nil, List.cons_append, List.nil_append, List.getElem?_cons_zero, List.getElem?_cons_succ, List.replicate, Nat.reduceSub, Nat.reduceAdd, Nat.reduceLeDiff, Nat.zero_add, Nat.add_zero, Nat.sub_self, Nat.sub_zero, List.set_cons_zero, List.set_cons_succ, List.append_nil, List.drop, List.drop_zero,
      Option.some.injEq, exists_eq_left', exists_eq_left, true_and, and_true, if_true, if_false, Bool.false_eq_true, Bool.not_true, Bool.not_false, ite_true, ite_false, reduceIte, reduceCtorEq, Nat.le_refl, t_Amount_mod]
    refine spp_Q h0 hr ?_
    by_cases hz : r ≤ 0
    · rw [if_pos hz] at h2
      exact spt_X hz h2
    rw [if_neg hz] at h2
    have hz := Rat.not_le.mp hz
    obtain ⟨zp, zr, q⟩ := h2
    refine spt_Q hz zp zr ?_
    have f1 := flQ_small zp zr hz
    have m1 : CMulW (flQ p r) r.num := wide_mul f1 zr.1 (by decide) (by decide) (by decide)
    have m2 : CMulW (flQ p r * r.num) p.den := wide_mul (a := 13201) (b := 4400) (wide_lt f1 zr.1) zp.2 (by decide) (by decide) (by decide)
    simp only [↓dSeq_e, ↓dNext_e, ↓dBreak_e, ↓dCont_e, ↓dNever_e, ↓dRet_e, ↓dRetN_e, ↓dDrop_e, ↓dIfS_e, ↓dAsg_e, ↓dPar_e, ↓dPar3_e, ↓gN_e, ↓gTp_e, ↓gNs_e, ↓gN0_e, ↓dVar_e, ↓dC_e, ↓dCB_e, ↓dCons_e, ↓dNil_e, ↓dTup_e, ↓dLst_e, ↓dLstM_e, ↓dOpMul_e, ↓dOpAdd_e, ↓dOpSub_e, ↓dOpFdv_e, ↓dOpMod_e, ↓dOpPow_e, ↓dOpCm_e, ↓dOpEq_e, ↓dOpIn_e, ↓dOpIs_e, ↓dTst_e, ↓dTbl_e, ↓dNot_e, ↓dAnd_e, ↓dOr_e, ↓dAndV_e, ↓dOrV_e, ↓dNotV_e, ↓dIf_e, ↓dCall_e, ↓dSm_e, ↓dCm_e, ↓dMeth_e, ↓dFor_e, ↓iSq_e, ↓iRng1_e, ↓dNeg_e, ↓dNegO_e, ↓dFld_e, ↓dLc_e, ↓dBM_e, ↓dFmt_e, ↓dB1_e, ↓dSl_e, ↓dPart_e, ↓dNoPart_e, ↓dfl_e0, ↓tMul_ii, ↓tAdd_ii, ↓tSub_ii, ↓tFdiv_ii, ↓tMod_ii, ↓tPow_ii, ↓tCm_ii, ↓rdP0, ↓rdP1, ↓rdV0, ↓rdV1, ↓rdA,
      kBl, kTru, rIsN_f, rIsN_t, isNon_non, isNon_int, isNon_str, isNon_tup, isNon_lst, isNon_parts, isNon_amt, rIsiD, kSome, startD, kI2, rInt2,
      List.map_cons, List.map_nil, List.length_cons, List.length_nil, List.cons_append, List.nil_append, List.getElem?_cons_zero, List.getElem?_cons_succ, List.replicate, Nat.reduceSub, Nat.reduceAdd, Nat.reduceLeDiff, Nat.zero_add, Nat.add_zero, Nat.sub_self, Nat.sub_zero, List.set_cons_zero, List.set_cons_succ, List.append_nil, List.drop, List.drop_zero,
      Option.some.injEq, exists_eq_left', exists_eq_left, true_and, and_true, if_true, if_false, Bool.false_eq_true, Bool.not_true, Bool.not_false, ite_true, ite_false, reduceIte, reduceCtorEq, Nat.le_refl, ↓dMk_amt, mulW zp.1 (zr.2), mulW (zp.2) (zr.2), m1, m2, true_or]
    refine mkA_2 den_mul (mul_small (zp.2) (zr.2)) ?_
    rw [rat_mod]
    exact q
theorem len_Amount_bool (S : Sy) : ∀ ds W Q E, sp_Amount_bool S ds W Q E → ds.length = 1 := fun ds W Q E h => by
  match ds, h with
  | [c], h => rfl
theorem pf_Amount_bool (S : Sy) : ∀ ds W Q2 E2, sp_Amount_bool S ds W Q2 E2 → t_Amount_bool S { nx := fun _ W => Q2 .non W, rt := Q2 } (startD ["self"] ds) W (fun x _ W => E2 x W) := by
  intro ds W Q E h
  match ds, h with
  | [c], h =>
    obtain ⟨p, hp, q⟩ := h.inv
    obtain rfl := amQ_some hp
    simp only [↓dSeq_e, ↓dNext_e, ↓dBreak_e, ↓dCont_e, ↓dNever_e, ↓dRet_e, ↓dRetN_e, ↓dDrop_e, ↓dIfS_e, ↓dAsg_e, ↓dPar_e, ↓dPar3_e, ↓gN_e, ↓gTp_e, ↓gNs_e, ↓gN0_e, ↓dVar_e, ↓dC_e, ↓dCB_e, ↓dCons_e, ↓dNil_e, ↓dTup_e, ↓dLst_e, ↓dLstM_e, ↓dOpMul_e, ↓dOpAdd_e, ↓dOpSub_e, ↓dOpFdv_e, ↓dOpMod_e, ↓dOpPow_e, ↓dOpCm_e, ↓dOpEq_e, ↓dOpIn_e, ↓dOpIs_e, ↓dTst_e, ↓dTbl_e, ↓dNot_e, ↓dAnd_e, ↓dOr_e, ↓dAndV_e, ↓dOrV_e, ↓dNotV_e, ↓dIf_e, ↓dCall_e, ↓dSm_e, ↓dCm_e, ↓dMeth_e, ↓dFor_e, ↓iSq_e, ↓iRng1_e, ↓dNeg_e, ↓dNegO_e, ↓dFld_e, ↓dLc_e, ↓dBM_e, ↓dFmt_e, ↓dB1_e, ↓dSl_e, ↓dPart_e, ↓dNoPart_e, ↓dfl_e0, ↓tMul_ii, ↓tAdd_ii, ↓tSub_ii, ↓tFdiv_ii, ↓tMod_ii, ↓tPow_ii, ↓tCm_ii, ↓rdP0, ↓rdP1, ↓rdV0, ↓rdV1, ↓rdA,
      kBl, kTru, rIsN_f, rIsN_t, isNon_non, isNon_int, isNon_str, isNon_tup, isNon_lst, isNon_parts, isNon_amt, rIsiD, kSome, startD, kI2, rInt2,
      List.map_cons, List.map_nil, List.length_cons, List.length_nil, List.cons_append, List.nil_append, List.getElem?_cons_zero, List.getElem?_cons_succ, List.replicate, Nat.reduceSub, Nat.reduceAdd, Nat.reduceLeDiff, Nat.zero_add, Nat.add_zero, Nat.sub_self, Nat.sub_zero, List.set_cons_zero, List.set_cons_succ, List.append_nil, List.drop, List.drop_zero,
      Option.some.injEq, exists_eq_left', exists_eq_left, true_and, and_true, if_true, if_false, Bool.false_eq_true, Bool.not_true, Bool.not_false, ite_true, ite_false, reduceIte, reduceCtorEq, Nat.le_refl, t_Amount_bool, rEqQ, eqI, D.dp, rBoolD]
    have e : (!(p.num == 0)) = decide (p ≠ 0) := by
      by_cases h : p = 0
      · subst h; rfl
      · have := num_ne h
        simp [h, this]
    rw [e]
    exact q
theorem len_Amount_eq (S : Sy) : ∀ ds W Q E, sp_Amount_eq S ds W Q E → ds.length = 2 := fun ds W Q E h => by
  match ds, h with
  | [c, d], h => rfl
theorem eq_parts {p r : Rat} : eqD qN (partsD r) (partsD p) = some (decide (p = r)) := by
  show (match eqD qN (.int r.num) (.int p.num) with
    | some true => eqDs qN [.int r.den] [.int p.den]
    | some false => some false
    | none => none) = _
  rw [eqI]
  by_cases h : r.num = p.num
  · rw [show (r.num == p.num) = true by simpa using h]
    show (match eqD qN (.int r.den) (.int p.den) with
      | some true => eqDs qN [] []
      | some false => some false
      | none => none) = _
    rw [eqI]
    by_cases h2 : (r.den : Int) = (p.den : Int)
    · rw [show ((r.den : Int) == (p.den : Int)) = true by simpa using h2]
      have : p = r := Rat.ext h.symm (by omega)
      simp [eqDs, this]
    · rw [show ((r.den : Int) == (p.den : Int)) = false by simpa using h2]
      have : p ≠ r := fun e => h2 (by rw [e])
      simp [this]
  · rw [show (r.num == p.num) = false by simpa using h]
    have : p ≠ r := fun e => h (by rw [e])
    simp [this]
theorem pf_Amount_eq (S : Sy) : ∀ ds W Q2 E2, sp_Amount_eq S ds W Q2 E2 → t_Amount_eq S { nx := fun _ W => Q2 .non W, rt := Q2 } (startD ["self", "other"] ds) W (fun x _ W => E2 x W) := by
  intro ds W Q E h
  match ds, h with
  | [c, d], h =>
    obtain ⟨b, hb, q⟩ := h.inv
    cases c with
    | ins n fs =>
      obtain ⟨⟨rfl, h0⟩, p, hp, h⟩ := qA_inv hb
      rw [hp]
      simp only [↓dSeq_e, ↓dNext_e, ↓dBreak_e, ↓dCont_e, ↓dNever_e, ↓dRet_e, ↓dRetN_e, ↓dDrop_e, ↓dIfS_e, ↓dAsg_e, ↓dPar_e, ↓dPar3_e, ↓gN_e, ↓gTp_e, ↓gNs_e, ↓gN0_e, ↓dVar_e, ↓dC_e, ↓dCB_e, ↓dCons_e, ↓dNil_e, ↓dTup_e, ↓dLst_e, ↓dLstM_e, ↓dOpMul_e, ↓dOpAdd_e, ↓dOpSub_e, ↓dOpFdv_e, ↓dOpMod_e, ↓dOpPow_e, ↓dOpCm_e, ↓dOpEq_e, ↓dOpIn_e, ↓dOpIs_e, ↓dTst_e, ↓dTbl_e, ↓dNot_e, ↓dAnd_e, ↓dOr_e, ↓dAndV_e, ↓dOrV_e, ↓dNotV_e, ↓dIf_e, ↓dCall_e, ↓dSm_e, ↓dCm_e, ↓dMeth_e, ↓dFor_e, ↓iSq_e, ↓iRng1_e, ↓dNeg_e, ↓dNegO_e, ↓dFld_e, ↓dLc_e, ↓dBM_e, ↓dFmt_e, ↓dB1_e, ↓dSl_e, ↓dPart_e, ↓dNoPart_e, ↓dfl_e0, ↓tMul_ii, ↓tAdd_ii, ↓tSub_ii, ↓tFdiv_ii, ↓tMod_ii, ↓tPow_ii, ↓tCm_ii, ↓rdP0, ↓rdP1, ↓rdV0, ↓rdV1, ↓rdA,
      kBl, kTru, rIsN_f, rIsN_t, isNon_non, isNon_int, isNon_str, isNon_tup, isNon_lst, isNon_parts, isNon_amt, rIsiD, kSome, startD, kI2, rInt2,
      List.map_cons, List.map_nil, List.length_cons, List.length_nil, List.cons_append, List.nil_append, List.getElem?_cons_zero, List.getElem?_cons_succ, List.replicate, Nat.reduceSub, Nat.reduceAdd, Nat.reduceLeDiff, Nat.zero_add, Nat.add_zero, Nat.sub_self, Nat.sub_zero, List.set_cons_zero, List.set_cons_succ, List.append_nil, List.drop, List.drop_zero,
      Option.some.injEq, exists_eq_left', exists_eq_left, true_and, and_true, if_true, if_false, Bool.false_eq_true, Bool.not_true, Bool.not_false, ite_true, ite_false, reduceIte, reduceCtorEq, Nat.le_refl, t_Amount_eq]
      rcases h with ⟨r, hr, rfl⟩ | ⟨hn, rfl, hpf, t, ht, ho⟩
      · refine spp_Q h0 hr ?_
        simp only [↓dSeq_e, ↓dNext_e, ↓dBreak_e, ↓dCont_e, ↓dNever_e, ↓dRet_e, ↓dRetN_e, ↓dDrop_e, ↓dIfS_e, ↓dAsg_e, ↓dPar_e, ↓dPar3_e, ↓gN_e, ↓gTp_e, ↓gNs_e, ↓gN0_e, ↓dVar_e, ↓dC_e, ↓dCB_e, ↓dCons_e, ↓dNil_e, ↓dTup_e, ↓dLst_e, ↓dLstM_e, ↓dOpMul_e, ↓dOpAdd_e, ↓dOpSub_e, ↓dOpFdv_e, ↓dOpMod_e, ↓dOpPow_e, ↓dOpCm_e, ↓dOpEq_e, ↓dOpIn_e, ↓dOpIs_e, ↓dTst_e, ↓dTbl_e, ↓dNot_e, ↓dAnd_e, ↓dOr_e, ↓dAndV_e, ↓dOrV_e, ↓dNotV_e, ↓dIf_e, ↓dCall_e, ↓dSm_e, ↓dCm_e, ↓dMeth_e, ↓dFor_e, ↓iSq_e, ↓iRng1_e, ↓dNeg_e, ↓dNegO_e, ↓dFld_e, ↓dLc_e, ↓dBM_e, ↓dFmt_e, ↓dB1_e, ↓dSl_e, ↓dPart_e, ↓dNoPart_e, ↓dfl_e0, ↓tMul_ii, ↓tAdd_ii, ↓tSub_ii, ↓tFdiv_ii, ↓tMod_ii, ↓tPow_ii, ↓tCm_ii, ↓rdP0, ↓rdP1, ↓rdV0, ↓rdV1, ↓rdA,
      kBl, kTru, rIsN_f, rIsN_t, isNon_non, isNon_int, isNon_str, isNon_tup, isNon_lst, isNon_parts, isNon_amt, rIsiD, kSome, startD, kI2, rInt2,
      List.map_cons, List.map_nil, List.length_cons, List.length_nil, List.cons_append, List.nil_append, List.getElem?_cons_zero, List.getElem?_cons_succ, List.replicate, Nat.reduceSub, Nat.reduceAdd, Nat.reduceLeDiff, Nat.zero_add, Nat.add_zero, Nat.sub_self, Nat.sub_zero, List.set_cons_zero, List.set_cons_succ, List.append_nil, List.drop, List.drop_zero,
      Option.some.injEq, exists_eq_left', exists_eq_left, true_and, and_true, if_true, if_false, Bool.false_eq_true, Bool.not_true, Bool.not_false, ite_true, ite_false, reduceIte, reduceCtorEq, Nat.le_refl, rEqQ, eq_parts]
        exact ⟨(show (1 : Nat) ≤ 6 by decide), q⟩
      · have ht2 : tkD W d = some t := by
          cases d <;> first | exact ht | cases ht
        refine ⟨⟨⟨t, ht2, fun j e => (ho j e).1⟩, fun h => ?_⟩, h0, ?_⟩
        · exfalso
          cases d with
          | ins j fs => cases ht; exact (ho j rfl).2 h
          | ptr a => cases ht
          | _ => exact h
        · rw [hn]
          simp only [↓dSeq_e, ↓dNext_e, ↓dBreak_e, ↓dCont_e, ↓dNever_e, ↓dRet_e, ↓dRetN_e, ↓dDrop_e, ↓dIfS_e, ↓dAsg_e, ↓dPar_e, ↓dPar3_e, ↓gN_e, ↓gTp_e, ↓gNs_e, ↓gN0_e, ↓dVar_e, ↓dC_e, ↓dCB_e, ↓dCons_e, ↓dNil_e, ↓dTup_e, ↓dLst_e, ↓dLstM_e, ↓dOpMul_e, ↓dOpAdd_e, ↓dOpSub_e, ↓dOpFdv_e, ↓dOpMod_e, ↓dOpPow_e, ↓dOpCm_e, ↓dOpEq_e, ↓dOpIn_e, ↓dOpIs_e, ↓dTst_e, ↓dTbl_e, ↓dNot_e, ↓dAnd_e, ↓dOr_e, ↓dAndV_e, ↓dOrV_e, ↓dNotV_e, ↓dIf_e, ↓dCall_e, ↓dSm_e, ↓dCm_e, ↓dMeth_e, ↓dFor_e, ↓iSq_e, ↓iRng1_e, ↓dNeg_e, ↓dNegO_e, ↓dFld_e, ↓dLc_e, ↓dBM_e, ↓dFmt_e, ↓dB1_e, ↓dSl_e, ↓dPart_e, ↓dNoPart_e, ↓dfl_e0, ↓tMul_ii, ↓tAdd_ii, ↓tSub_ii, ↓tFdiv_ii, ↓tMod_ii, ↓tPow_ii, ↓tCm_ii, ↓rdP0, ↓rdP1, ↓rdV0, ↓rdV1, ↓rdA,
      kBl, kTru, rIsN_f, rIsN_t, isNon_non, isNon_int, isNon_str, isNon_tup, isNon_lst, isNon_parts, isNon_amt, rIsiD, kSome, startD, kI2, rInt2,
      List.map_cons, List.map_nil, List.length_cons, List.length_nil, List.cons_append, List.nil_append, List.getElem?_cons_zero, List.getElem?_cons_succ, List.replicate, Nat.reduceSub, Nat.reduceAdd, Nat.reduceLeDiff, Nat.zero_add, Nat.add_zero, Nat.sub_self, Nat.sub_zero, List.set_cons_zero, List.set_cons_succ, List.append_nil, List.drop, List.drop_zero,
      Option.some.injEq, exists_eq_left', exists_eq_left, true_and, and_true, if_true, if_false, Bool.false_eq_true, Bool.not_true, Bool.not_false, ite_true, ite_false, reduceIte, reduceCtorEq, Nat.le_refl, rEqQ, eqD]
          exact ⟨Nat.zero_le _, q⟩
    | _ => cases hb
/-! ### its text -/
theorem Ss {i : Int} (h : i.natAbs < 2 ^ 1900) : i.natAbs.log2 < 1920 := Nat.lt_of_lt_of_le (PySem.Flt.log2_lt_of (by decide) h) (by decide)
theorem str_len {i : Int} (h : i.natAbs < 2 ^ 1900) : (toString i : Str).length ≤ 1901 := by
  have h1 := PySem.int_text_length_le (a := i) (k := 1900) (by decide) (PySem.Flt.log2_lt_of (by decide) h)
  rw [PySem.ofString_length]
  exact h1
theorem dJs_cons {t : DE} {ts : List DE} {acc : Str} {sd : SD} {W : Wd} {Q : Str → Wd → Prop} {E : QX} : dJs (t :: ts) acc sd W Q E = t sd W (fun d W1 => match d with
    | .str y => (acc ++ y).length ≤ sizeLine ∧ dJs ts (acc ++ y) sd W1 Q E
    | _ => False) E := rfl
theorem dJs_nil {acc : Str} {sd : SD} {W : Wd} {Q : Str → Wd → Prop} {E : QX} : dJs [] acc sd W Q E = Q acc W := rfl
theorem se (y : Str) : Str.empty ++ y = y := by
  cases y with
  | mk c =>
    show (⟨#[] ++ c⟩ : Str) = ⟨c⟩
    simp
theorem sl (a b : Str) : (a ++ b).length = a.length + b.length := by
  show (a.cps ++ b.cps).size = a.cps.size + b.cps.size
  simp
theorem sdiv : (Str.ofString "/").length = 1 := by decide
theorem len_Amount_str (S : Sy) : ∀ ds W Q E, sp_Amount_str S ds W Q E → ds.length = 1 := fun ds W Q E h => by
  match ds, h with
  | [c], h => rfl
theorem pf_Amount_str (S : Sy) : ∀ ds W Q2 E2, sp_Amount_str S ds W Q2 E2 → t_Amount_str S { nx := fun _ W => Q2 .non W, rt := Q2 } (startD ["self"] ds) W (fun x _ W => E2 x W) := by
  intro ds W Q E h
  match ds, h with
  | [c], h =>
    obtain ⟨p, hp, zs, q⟩ := h.inv
    obtain rfl := amQ_some hp
    have l1 := str_len zs.1
    have l2 := str_len (i := (p.den : Int)) zs.2
    have e1 := sizeLine_eq
    simp only [↓dSeq_e, ↓dNext_e, ↓dBreak_e, ↓dCont_e, ↓dNever_e, ↓dRet_e, ↓dRetN_e, ↓dDrop_e, ↓dIfS_e, ↓dAsg_e, ↓dPar_e, ↓dPar3_e, ↓gN_e, ↓gTp_e, ↓gNs_e, ↓gN0_e, ↓dVar_e, ↓dC_e, ↓dCB_e, ↓dCons_e, ↓dNil_e, ↓dTup_e, ↓dLst_e, ↓dLstM_e, ↓dOpMul_e, ↓dOpAdd_e, ↓dOpSub_e, ↓dOpFdv_e, ↓dOpMod_e, ↓dOpPow_e, ↓dOpCm_e, ↓dOpEq_e, ↓dOpIn_e, ↓dOpIs_e, ↓dTst_e, ↓dTbl_e, ↓dNot_e, ↓dAnd_e, ↓dOr_e, ↓dAndV_e, ↓dOrV_e, ↓dNotV_e, ↓dIf_e, ↓dCall_e, ↓dSm_e, ↓dCm_e, ↓dMeth_e, ↓dFor_e, ↓iSq_e, ↓iRng1_e, ↓dNeg_e, ↓dNegO_e, ↓dFld_e, ↓dLc_e, ↓dBM_e, ↓dFmt_e, ↓dB1_e, ↓dSl_e, ↓dPart_e, ↓dNoPart_e, ↓dfl_e0, ↓tMul_ii, ↓tAdd_ii, ↓tSub_ii, ↓tFdiv_ii, ↓tMod_ii, ↓tPow_ii, ↓tCm_ii, ↓rdP0, ↓rdP1, ↓rdV0, ↓rdV1, ↓rdA,
      kBl, kTru, rIsN_f, rIsN_t, isNon_non, isNon_int, isNon_str, isNon_tup, isNon_lst, isNon_parts, isNon_amt, rIsiD, kSome, startD, kI2, rInt2,
      List.map_cons, List.map_nil, List.length_cons, List.length_nil, List.cons_append, List.nil_append, List.getElem?_cons_zero, List.getElem?_cons_succ, List.replicate, Nat.reduceSub, Nat.reduceAdd, Nat.reduceLeDiff, Nat.zero_add, Nat.add_zero, Nat.sub_self, Nat.sub_zero, List.set_cons_zero, List.set_cons_succ, List.append_nil, List.drop, List.drop_zero,
      Option.some.injEq, exists_eq_left', exists_eq_left, true_and, and_true, if_true, if_false, Bool.false_eq_true, Bool.not_true, Bool.not_false, ite_true, ite_false, reduceIte, reduceCtorEq, Nat.le_refl, t_Amount_str, rEqQ, eqI, D.dp]
    by_cases hd : p.den = 1
    · have e : (((p.den : Nat) : Int) == 1) = true := by rw [hd]; rfl
      rw [qStr, if_pos hd] at q
      simp only [e, if_true]
      exact ⟨Ss zs.1, q⟩
    · have e : (((p.den : Nat) : Int) == 1) = false := by
        simp only [beq_eq_false_iff_ne]
        omega
      rw [qStr, if_neg hd] at q
      simp only [e, if_false, Bool.false_eq_true]
      simp only [↓dSeq_e, ↓dNext_e, ↓dBreak_e, ↓dCont_e, ↓dNever_e, ↓dRet_e, ↓dRetN_e, ↓dDrop_e, ↓dIfS_e, ↓dAsg_e, ↓dPar_e, ↓dPar3_e, ↓gN_e, ↓gTp_e, ↓gNs_e, ↓gN0_e, ↓dVar_e, ↓dC_e, ↓dCB_e, ↓dCons_e, ↓dNil_e, ↓dTup_e, ↓dLst_e, ↓dLstM_e, ↓dOpMul_e, ↓dOpAdd_e, ↓dOpSub_e, ↓dOpFdv_e, ↓dOpMod_e, ↓dOpPow_e, ↓dOpCm_e, ↓dOpEq_e, ↓dOpIn_e, ↓dOpIs_e, ↓dTst_e, ↓dTbl_e, ↓dNot_e, ↓dAnd_e, ↓dOr_e, ↓dAndV_e, ↓dOrV_e, ↓dNotV_e, ↓dIf_e, ↓dCall_e, ↓dSm_e, ↓dCm_e, ↓dMeth_e, ↓dFor_e, ↓iSq_e, ↓iRng1_e, ↓dNeg_e, ↓dNegO_e, ↓dFld_e, ↓dLc_e, ↓dBM_e, ↓dFmt_e, ↓dB1_e, ↓dSl_e, ↓dPart_e, ↓dNoPart_e, ↓dfl_e0, ↓tMul_ii, ↓tAdd_ii, ↓tSub_ii, ↓tFdiv_ii, ↓tMod_ii, ↓tPow_ii, ↓tCm_ii, ↓rdP0, ↓rdP1, ↓rdV0, ↓rdV1, ↓rdA,
      kBl, kTru, rIsN_f, rIsN_t, isNon_non, isNon_int, isNon_str, isNon_tup, isNon_lst, isNon_parts, isNon_amt, rIsiD, kSome, startD, kI2, rInt2,
      List.map_cons, List.map_nil, List.length_cons, List.length_nil, List.cons_append, List.nil_append, List.getElem?_cons_zero, List.getElem?_cons_succ, List.replicate, Nat.reduceSub, Nat.reduceAdd, Nat.reduceLeDiff, Nat.zero_add, Nat.add_zero, Nat.sub_self, Nat.sub_zero, List.set_cons_zero, List.set_cons_succ, List.append_nil, List.drop, List.drop_zero,
      Option.some.injEq, exists_eq_left', exists_eq_left, true_and, and_true, if_true, if_false, Bool.false_eq_true, Bool.not_true, Bool.not_false, ite_true, ite_false, reduceIte, reduceCtorEq, Nat.le_refl, ↓dJs_cons, dJs_nil, se, sl, sdiv]
      refine ⟨Ss zs.1, by omega, by omega, Ss (i := (p.den : Int)) zs.2, by omega, q⟩
/-! ### total, least, greatest -/
theorem kLi_of {W : Wd} {d : D} {q : List D → Prop} {r : LiD → Prop} (h : kSeq W d q) (c : ∀ l : LiD, l.ok W → q l.items → r l) : kLi W d r := by
  cases d with
  | tup ds => exact c ⟨ds, none⟩ trivial h
  | lst ds => exact c ⟨ds, none⟩ trivial h
  | ptr a =>
    have h2 : (match W a with | some (.lst ds) => q ds | _ => False) := h
    show (match W a with | some (.lst ds) => r ⟨ds, some a⟩ | _ => False)
    cases e : W a with
    | none => rw [e] at h2; exact h2.elim
    | some m =>
      rw [e] at h2
      cases m with
      | lst ds => exact c ⟨ds, some a⟩ e h2
      | _ => exact h2.elim
  | _ => exact h.elim
theorem loopD_nil {ok : Wd → Prop} {g : DG} {tb : DS} {D : DEnds} {E : QX} {sd : SD} {W : Wd} : loopD ok g tb D E [] sd W = (ok W ∧ D.nx sd W) := rfl
theorem loopD_cons {ok : Wd → Prop} {g : DG} {tb : DS} {D : DEnds} {E : QX} {sd : SD} {W : Wd} {d : Mv.D} {ds : List Mv.D} : loopD ok g tb D E (d :: ds) sd W = (ok W ∧ g d sd W (fun sd1 W1 => tb { D with nx := loopD ok g tb D E ds, ct := loopD ok g tb D E ds, bk := D.nx } sd1 W1 E)) := rfl
theorem qsD_cons {d : D} {ds : List D} {qs : List Rat} (h : qsD (d :: ds) = some qs) : ∃ q r, toQ d = some q ∧ qsD ds = some r ∧ qs = q :: r := by
  unfold qsD at h
  cases hd : toQ d with
  | none => rw [hd] at h; cases h
  | some q =>
    cases hs : qsD ds with
    | none => rw [hd, hs] at h; cases h
    | some r => rw [hd, hs] at h; cases h; exact ⟨q, r, rfl, rfl, rfl⟩
theorem total_loop {S : Sy} (h0 : 0 ∈ S.cl) {ok : Wd → Prop} {W : Wd} {E : QX} {D : DEnds} {d : Mv.D} (hok : ok W) : ∀ (xs : List Mv.D) (qs : List Rat) (acc : Rat) (x2 : Option Mv.D), qsD xs = some qs → (∀ i, SZ ((qs.take i).foldl (· + ·) acc)) → (∀ q ∈ qs, SZ q) →
    (∀ x, D.nx [some d, some (amt (qs.foldl (· + ·) acc)), x] W) → loopD ok (gN 2) (dAsg (dOp (Mv.tAdd (mAdd S) .none) (dVar 1) (dVar 2)) (gN 1)) D E xs [some d, some (amt acc), x2] W
  | [], qs, acc, x2, hq, _, _, h => by
    cases hq
    exact ⟨hok, h x2⟩
  | x :: xs, qs, acc, x2, hq, h1, h2, h => by
    obtain ⟨q, r, hx, hr, rfl⟩ := qsD_cons hq
    rw [loopD_cons]
    simp only [↓dSeq_e, ↓dNext_e, ↓dBreak_e, ↓dCont_e, ↓dNever_e, ↓dRet_e, ↓dRetN_e, ↓dDrop_e, ↓dIfS_e, ↓dAsg_e, ↓dPar_e, ↓dPar3_e, ↓gN_e, ↓gTp_e, ↓gNs_e, ↓gN0_e, ↓dVar_e, ↓dC_e, ↓dCB_e, ↓dCons_e, ↓dNil_e, ↓dTup_e, ↓dLst_e, ↓dLstM_e, ↓dOpMul_e, ↓dOpAdd_e, ↓dOpSub_e, ↓dOpFdv_e, ↓dOpMod_e, ↓dOpPow_e, ↓dOpCm_e, ↓dOpEq_e, ↓dOpIn_e, ↓dOpIs_e, ↓dTst_e, ↓dTbl_e, ↓dNot_e, ↓dAnd_e, ↓dOr_e, ↓dAndV_e, ↓dOrV_e, ↓dNotV_e, ↓dIf_e, ↓dCall_e, ↓dSm_e, ↓dCm_e, ↓dMeth_e, ↓dFor_e, ↓iSq_e, ↓iRng1_e, ↓dNeg_e, ↓dNegO_e, ↓dFld_e, ↓dLc_e, ↓dBM_e, ↓dFmt_e, ↓dB1_e, ↓dSl_e, ↓dPart_e, ↓dNoPart_e, ↓dfl_e0, ↓tMul_ii, ↓tAdd_ii, ↓tSub_ii, ↓tFdiv_ii, ↓tMod_ii, ↓tPow_ii, ↓tCm_ii, ↓rdP0, ↓rdP1, ↓rdV0, ↓rdV1, ↓rdA,
      kBl, kTru, rIsN_f, rIsN_t, isNon_non, isNon_int, isNon_str, isNon_tup, isNon_lst, isNon_parts, isNon_amt, rIsiD, kSome, startD, kI2, rInt2,
      List.map_cons, List.map_nil, List.length_cons, List.length_nil, List.cons_append, List.nil_append, List.getElem?_cons_zero, List.getElem?_cons_succ, List.replicate, Nat.reduceSub, Nat.reduceAdd, Nat.reduceLeDiff, Nat.zero_add, Nat.add_zero, Nat.sub_self, Nat.sub_zero, List.set_cons_zero, List.set_cons_succ, List.append_nil, List.drop, List.drop_zero,
      Option.some.injEq, exists_eq_left', exists_eq_left, true_and, and_true, if_true, if_false, Bool.false_eq_true, Bool.not_true, Bool.not_false, ite_true, ite_false, reduceIte, reduceCtorEq, Nat.le_refl]
    refine ⟨hok, oAdd h0 hx (h1 0) (h2 q List.mem_cons_self) ?_⟩
    exact total_loop h0 hok xs r (acc + q) _ hr (fun i => h1 (i + 1)) (fun z hz => h2 z (List.mem_cons_of_mem _ hz)) h
theorem at0 {x : D} {xs : List D} : atI (x :: xs) (0 : Int) = some x := by simp [L2.atI, L2.ixN]
theorem oCm {S : Sy} {sd : SD} {W : Wd} {Q : QD} {E : QX} {p r : Rat} {d : D} {MR : Mts} {sp : Sy → DSp} {g : Int → Int → Bool} {f : Rat → Rat → Bool} (hs : ∀ Q E, spCm f [amt p, d] W Q E → sp S [amt p, d] W Q E) (h : toQ d = some r) (zp : SZ p) (zr : SZ r) (q : Q (.bl (f p r)) W) : tCm (mt1 2 sp S) MR g (amt p) d sd W Q E := by
  have e : tCm (mt1 2 sp S) MR g (amt p) d sd W Q E = rOwn (mt1 2 sp S) rhsIS (amt p) d sd W Q E := by cases d <;> rfl
  rw [e]
  exact own_amt h (hs _ _ (spCm_Q h zp zr q))
theorem spo_Q {S : Sy} {d : D} {r : Rat} {W : Wd} {Q E : QD} (h0 : 0 ∈ S.cl) (h : toQ d = some r) (q : Q (amt r) W) : sp_Amount_of S [d] W Q E := by
  refine ⟨knQ h0 h, h0, ?_⟩
  rw [h]
  exact q
theorem least_loop {S : Sy} (h0 : 0 ∈ S.cl) {ok : Wd → Prop} {W : Wd} {E : QX} {D : DEnds} {d : Mv.D} (hok : ok W) : ∀ (xs : List Mv.D) (qs : List Rat) (acc : Rat) (x2 : Option Mv.D), qsD xs = some qs → SZ acc → (∀ q ∈ qs, SZ q) →
    (∀ x, D.nx [some d, some (amt (qs.foldl (fun a v => if v < a then v else a) acc)), x] W) → loopD ok (gN 2) (dIfS (dTbl (dOp (tCm (mGt S) .none (fun i j => decide (j < i))) (dVar 1) (dVar 2))) (dAsg (dSm (S.ca 0) 1 [] (sp_Amount_of S) (dC (.ptr (S.ca 0))) (dCons (dVar 2) (dNil))) (gN 1)) (dNext)) D E xs [some d, some (amt acc), x2] W
  | [], qs, acc, x2, hq, _, _, h => by
    cases hq
    exact ⟨hok, h x2⟩
  | x :: xs, qs, acc, x2, hq, h1, h2, h => by
    obtain ⟨q, r, hx, hr, rfl⟩ := qsD_cons hq
    rw [loopD_cons]
    simp only [↓dSeq_e, ↓dNext_e, ↓dBreak_e, ↓dCont_e, ↓dNever_e, ↓dRet_e, ↓dRetN_e, ↓dDrop_e, ↓dIfS_e, ↓dAsg_e, ↓dPar_e, ↓dPar3_e, ↓gN_e, ↓gTp_e, ↓gNs_e, ↓gN0_e, ↓dVar_e, ↓dC_e, ↓dCB_e, ↓dCons_e, ↓dNil_e, ↓dTup_e, ↓dLst_e, ↓dLstM_e, ↓dOpMul_e, ↓dOpAdd_e, ↓dOpSub_e, ↓dOpFdv_e, ↓dOpMod_e, ↓dOpPow_e, ↓dOpCm_e, ↓dOpEq_e, ↓dOpIn_e, ↓dOpIs_e, ↓dTst_e, ↓dTbl_e, ↓dNot_e, ↓dAnd_e, ↓dOr_e, ↓dAndV_e, ↓dOrV_e, ↓dNotV_e, ↓dIf_e, ↓dCall_e, ↓dSm_e, ↓dCm_e, ↓dMeth_e, ↓dFor_e, ↓iSq_e, ↓iRng1_e, ↓dNeg_e, ↓dNegO_e, ↓dFld_e, ↓dLc_e, ↓dBM_e, ↓dFmt_e, ↓dB1_e, ↓dSl_e, ↓dPart_e, ↓dNoPart_e, ↓dfl_e0, ↓tMul_ii, ↓tAdd_ii, ↓tSub_ii, ↓tFdiv_ii, ↓tMod_ii, ↓tPow_ii, ↓tCm_ii, ↓rdP0, ↓rdP1, ↓rdV0, ↓rdV1, ↓rdA,
      kBl, kTru, rIsN_f, rIsN_t, isNon_non, isNon_int, isNon_str, isNon_tup, isNon_lst, isNon_parts, isNon_amt, rIsiD, kSome, startD, kI2, rInt2,
      List.map_cons, List.map_nil, List.length_cons, List.length_nil, List.cons_append, List.nil_append, List.getElem?_cons_zero, List.getElem?_cons_succ, List.replicate, Nat.reduceSub, Nat.reduceAdd, Nat.reduceLeDiff, Nat.zero_add, Nat.add_zero, Nat.sub_self, Nat.sub_zero, List.set_cons_zero, List.set_cons_succ, List.append_nil, List.drop, List.drop_zero,
      Option.some.injEq, exists_eq_left', exists_eq_left, true_and, and_true, if_true, if_false, Bool.false_eq_true, Bool.not_true, Bool.not_false, ite_true, ite_false, reduceIte, reduceCtorEq, Nat.le_refl]
    refine ⟨hok, oCm (sp := sp_Amount_gt) (f := fun p q => decide (q < p)) (fun _ _ h => ⟨h0, h⟩) hx h1 (h2 q List.mem_cons_self) ?_⟩
    by_cases hlt : q < acc
    · simp only [↓dSeq_e, ↓dNext_e, ↓dBreak_e, ↓dCont_e, ↓dNever_e, ↓dRet_e, ↓dRetN_e, ↓dDrop_e, ↓dIfS_e, ↓dAsg_e, ↓dPar_e, ↓dPar3_e, ↓gN_e, ↓gTp_e, ↓gNs_e, ↓gN0_e, ↓dVar_e, ↓dC_e, ↓dCB_e, ↓dCons_e, ↓dNil_e, ↓dTup_e, ↓dLst_e, ↓dLstM_e, ↓dOpMul_e, ↓dOpAdd_e, ↓dOpSub_e, ↓dOpFdv_e, ↓dOpMod_e, ↓dOpPow_e, ↓dOpCm_e, ↓dOpEq_e, ↓dOpIn_e, ↓dOpIs_e, ↓dTst_e, ↓dTbl_e, ↓dNot_e, ↓dAnd_e, ↓dOr_e, ↓dAndV_e, ↓dOrV_e, ↓dNotV_e, ↓dIf_e, ↓dCall_e, ↓dSm_e, ↓dCm_e, ↓dMeth_e, ↓dFor_e, ↓iSq_e, ↓iRng1_e, ↓dNeg_e, ↓dNegO_e, ↓dFld_e, ↓dLc_e, ↓dBM_e, ↓dFmt_e, ↓dB1_e, ↓dSl_e, ↓dPart_e, ↓dNoPart_e, ↓dfl_e0, ↓tMul_ii, ↓tAdd_ii, ↓tSub_ii, ↓tFdiv_ii, ↓tMod_ii, ↓tPow_ii, ↓tCm_ii, ↓rdP0, ↓rdP1, ↓rdV0, ↓rdV1, ↓rdA,
      kBl, kTru, rIsN_f, rIsN_t, isNon_non, isNon_int, isNon_str, isNon_tup, isNon_lst, isNon_parts, isNon_amt, rIsiD, kSome, startD, kI2, rInt2,
      List.map_cons, List.map_nil, List.length_cons, List.length_nil, List.cons_append, List.nil_append, List.getElem?_cons_zero, List.getElem?_cons_succ, List.replicate, Nat.reduceSub, Nat.reduceAdd, Nat.reduceLeDiff, Nat.zero_add, Nat.add_zero, Nat.sub_self, Nat.sub_zero, List.set_cons_zero, List.set_cons_succ, List.append_nil, List.drop, List.drop_zero,
      Option.some.injEq, exists_eq_left', exists_eq_left, true_and, and_true, if_true, if_false, Bool.false_eq_true, Bool.not_true, Bool.not_false, ite_true, ite_false, reduceIte, reduceCtorEq, Nat.le_refl, hlt, decide_true]
      refine spo_Q h0 hx ?_
      refine least_loop h0 hok xs r q _ hr (h2 q List.mem_cons_self) (fun z hz => h2 z (List.mem_cons_of_mem _ hz)) fun z => ?_
      have := h z
      rw [List.foldl_cons, if_pos hlt] at this
      exact this
    · simp only [↓dSeq_e, ↓dNext_e, ↓dBreak_e, ↓dCont_e, ↓dNever_e, ↓dRet_e, ↓dRetN_e, ↓dDrop_e, ↓dIfS_e, ↓dAsg_e, ↓dPar_e, ↓dPar3_e, ↓gN_e, ↓gTp_e, ↓gNs_e, ↓gN0_e, ↓dVar_e, ↓dC_e, ↓dCB_e, ↓dCons_e, ↓dNil_e, ↓dTup_e, ↓dLst_e, ↓dLstM_e, ↓dOpMul_e, ↓dOpAdd_e, ↓dOpSub_e, ↓dOpFdv_e, ↓dOpMod_e, ↓dOpPow_e, ↓dOpCm_e, ↓dOpEq_e, ↓dOpIn_e, ↓dOpIs_e, ↓dTst_e, ↓dTbl_e, ↓dNot_e, ↓dAnd_e, ↓dOr_e, ↓dAndV_e, ↓dOrV_e, ↓dNotV_e, ↓dIf_e, ↓dCall_e, ↓dSm_e, ↓dCm_e, ↓dMeth_e, ↓dFor_e, ↓iSq_e, ↓iRng1_e, ↓dNeg_e, ↓dNegO_e, ↓dFld_e, ↓dLc_e, ↓dBM_e, ↓dFmt_e, ↓dB1_e, ↓dSl_e, ↓dPart_e, ↓dNoPart_e, ↓dfl_e0, ↓tMul_ii, ↓tAdd_ii, ↓tSub_ii, ↓tFdiv_ii, ↓tMod_ii, ↓tPow_ii, ↓tCm_ii, ↓rdP0, ↓rdP1, ↓rdV0, ↓rdV1, ↓rdA,
      kBl, kTru, rIsN_f, rIsN_t, isNon_non, isNon_int, isNon_str, isNon_tup, isNon_lst, isNon_parts, isNon_amt, rIsiD, kSome, startD, kI2, rInt2,
      List.map_cons, List.map_nil, List.length_cons, List.length_nil, List.cons_append, List.nil_append, List.getElem?_cons_zero, List.getElem?_cons_succ, List.replicate, Nat.reduceSub, Nat.reduceAdd, Nat.reduceLeDiff, Nat.zero_add, Nat.add_zero, Nat.sub_self, Nat.sub_zero, List.set_cons_zero, List.set_cons_succ, List.append_nil, List.drop, List.drop_zero,
      Option.some.injEq, exists_eq_left', exists_eq_left, true_and, and_true, if_true, if_false, Bool.false_eq_true, Bool.not_true, Bool.not_false, ite_true, ite_false, reduceIte, reduceCtorEq, Nat.le_refl, hlt, decide_false]
      refine least_loop h0 hok xs r acc _ hr h1 (fun z hz => h2 z (List.mem_cons_of_mem _ hz)) fun z => ?_
      have := h z
      rw [List.foldl_cons, if_neg hlt] at this
      exact this
theorem most_loop {S : Sy} (h0 : 0 ∈ S.cl) {ok : Wd → Prop} {W : Wd} {E : QX} {D : DEnds} {d : Mv.D} (hok : ok W) : ∀ (xs : List Mv.D) (qs : List Rat) (acc : Rat) (x2 : Option Mv.D), qsD xs = some qs → SZ acc → (∀ q ∈ qs, SZ q) →
    (∀ x, D.nx [some d, some (amt (qs.foldl (fun a v => if a < v then v else a) acc)), x] W) → loopD ok (gN 2) (dIfS (dTbl (dOp (tCm (mLt S) .none (fun i j => decide (i < j))) (dVar 1) (dVar 2))) (dAsg (dSm (S.ca 0) 1 [] (sp_Amount_of S) (dC (.ptr (S.ca 0))) (dCons (dVar 2) (dNil))) (gN 1)) (dNext)) D E xs [some d, some (amt acc), x2] W
  | [], qs, acc, x2, hq, _, _, h => by
    cases hq
    exact ⟨hok, h x2⟩
  | x :: xs, qs, acc, x2, hq, h1, h2, h => by
    obtain ⟨q, r, hx, hr, rfl⟩ := qsD_cons hq
    rw [loopD_cons]
    simp only [↓dSeq_e, ↓dNext_e, ↓dBreak_e, ↓dCont_e, ↓dNever_e, ↓dRet_e, ↓dRetN_e, ↓dDrop_e, ↓dIfS_e, ↓dAsg_e, ↓dPar_e, ↓dPar3_e, ↓gN_e, ↓gTp_e, ↓gNs_e, ↓gN0_e, ↓dVar_e, ↓dC_e, ↓dCB_e, ↓dCons_e, ↓dNil_e, ↓dTup_e, ↓dLst_e, ↓dLstM_e, ↓dOpMul_e, ↓dOpAdd_e, ↓dOpSub_e, ↓dOpFdv_e, ↓dOpMod_e, ↓dOpPow_e, ↓dOpCm_e, ↓dOpEq_e, ↓dOpIn_e, ↓dOpIs_e, ↓dTst_e, ↓dTbl_e, ↓dNot_e, ↓dAnd_e, ↓dOr_e, ↓dAndV_e, ↓dOrV_e, ↓dNotV_e, ↓dIf_e, ↓dCall_e, ↓dSm_e, ↓dCm_e, ↓dMeth_e, ↓dFor_e, ↓iSq_e, ↓iRng1_e, ↓dNeg_e, ↓dNegO_e, ↓dFld_e, ↓dLc_e, ↓dBM_e, ↓dFmt_e, ↓dB1_e, ↓dSl_e, ↓dPart_e, ↓dNoPart_e, ↓dfl_e0, ↓tMul_ii, ↓tAdd_ii, ↓tSub_ii, ↓tFdiv_ii, ↓tMod_ii, ↓tPow_ii, ↓tCm_ii, ↓rdP0, ↓rdP1, ↓rdV0, ↓rdV1, ↓rdA,
      kBl, kTru, rIsN_f, rIsN_t, isNon_non, isNon_int, isNon_str, isNon_tup, isNon_lst, isNon_parts, isNon_amt, rIsiD, kSome, startD, kI2, rInt2,
      List.map_cons, List.map_nil, List.length_cons, List.length_nil, List.cons_append, List.nil_append, List.getElem?_cons_zero, List.getElem?_cons_succ, List.replicate, Nat.reduceSub, Nat.reduceAdd, Nat.reduceLeDiff, Nat.zero_add, Nat.add_zero, Nat.sub_self, Nat.sub_zero, List.set_cons_zero, List.set_cons_succ, List.append_nil, List.drop, List.drop_zero,
      Option.some.injEq, exists_eq_left', exists_eq_left, true_and, and_true, if_true, if_false, Bool.false_eq_true, Bool.not_true, Bool.not_false, ite_true, ite_false, reduceIte, reduceCtorEq, Nat.le_refl]
    refine ⟨hok, oCm (sp := sp_Amount_lt) (f := fun p q => decide (p < q)) (fun _ _ h => ⟨h0, h⟩) hx h1 (h2 q List.mem_cons_self) ?_⟩
    by_cases hlt : acc < q
    · simp only [↓dSeq_e, ↓dNext_e, ↓dBreak_e, ↓dCont_e, ↓dNever_e, ↓dRet_e, ↓dRetN_e, ↓dDrop_e, ↓dIfS_e, ↓dAsg_e, ↓dPar_e, ↓dPar3_e, ↓gN_e, ↓gTp_e, ↓gNs_e, ↓gN0_e, ↓dVar_e, ↓dC_e, ↓dCB_e, ↓dCons_e, ↓dNil_e, ↓dTup_e, ↓dLst_e, ↓dLstM_e, ↓dOpMul_e, ↓dOpAdd_e, ↓dOpSub_e, ↓dOpFdv_e, ↓dOpMod_e, ↓dOpPow_e, ↓dOpCm_e, ↓dOpEq_e, ↓dOpIn_e, ↓dOpIs_e, ↓dTst_e, ↓dTbl_e, ↓dNot_e, ↓dAnd_e, ↓dOr_e, ↓dAndV_e, ↓dOrV_e, ↓dNotV_e, ↓dIf_e, ↓dCall_e, ↓dSm_e, ↓dCm_e, ↓dMeth_e, ↓dFor_e, ↓iSq_e, ↓iRng1_e, ↓dNeg_e, ↓dNegO_e, ↓dFld_e, ↓dLc_e, ↓dBM_e, ↓dFmt_e, ↓dB1_e, ↓dSl_e, ↓dPart_e, ↓dNoPart_e, ↓dfl_e0, ↓tMul_ii, ↓tAdd_ii, ↓tSub_ii, ↓tFdiv_ii, ↓tMod_ii, ↓tPow_ii, ↓tCm_ii, ↓rdP0, ↓rdP1, ↓rdV0, ↓rdV1, ↓rdA,
      kBl, kTru, rIsN_f, rIsN_t, isNon_non, isNon_int, isNon_str, isNon_tup, isNon_lst, isNon_parts, isNon_amt, rIsiD, kSome, startD, kI2, rInt2,
      List.map_cons, List.map_nil, List.length_cons, List.length_nil, List.cons_append, List.nil_append, List.getElem?_cons_zero, List.getElem?_cons_succ, List.replicate, Nat.reduceSub, Nat.reduceAdd, Nat.reduceLeDiff, Nat.zero_add, Nat.add_zero, Nat.sub_self, Nat.sub_zero, List.set_cons_zero, List.set_cons_succ, List.append_nil, List.drop, List.drop_zero,
      Option.some.injEq, exists_eq_left', exists_eq_left, true_and, and_true, if_true, if_false, Bool.false_eq_true, Bool.not_true, Bool.not_false, ite_true, ite_false, reduceIte, reduceCtorEq, Nat.le_refl, hlt, decide_true]
      refine spo_Q h0 hx ?_
      refine most_loop h0 hok xs r q _ hr (h2 q List.mem_cons_self) (fun z hz => h2 z (List.mem_cons_of_mem _ hz)) fun z => ?_
      have := h z
      rw [List.foldl_cons, if_pos hlt] at this
      exact this
    · simp only [↓dSeq_e, ↓dNext_e, ↓dBreak_e, ↓dCont_e, ↓dNever_e, ↓dRet_e, ↓dRetN_e, ↓dDrop_e, ↓dIfS_e, ↓dAsg_e, ↓dPar_e, ↓dPar3_e, ↓gN_e, ↓gTp_e, ↓gNs_e, ↓gN0_e, ↓dVar_e, ↓dC_e, ↓dCB_e, ↓dCons_e, ↓dNil_e, ↓dTup_e, ↓dLst_e, ↓dLstM_e, ↓dOpMul_e, ↓dOpAdd_e, ↓dOpSub_e, ↓dOpFdv_e, ↓dOpMod_e, ↓dOpPow_e, ↓dOpCm_e, ↓dOpEq_e, ↓dOpIn_e, ↓dOpIs_e, ↓dTst_e, ↓dTbl_e, ↓dNot_e, ↓dAnd_e, ↓dOr_e, ↓dAndV_e, ↓dOrV_e, ↓dNotV_e, ↓dIf_e, ↓dCall_e, ↓dSm_e, ↓dCm_e, ↓dMeth_e, ↓dFor_e, ↓iSq_e, ↓iRng1_e, ↓dNeg_e, ↓dNegO_e, ↓dFld_e, ↓dLc_e, ↓dBM_e, ↓dFmt_e, ↓dB1_e, ↓dSl_e, ↓dPart_e, ↓dNoPart_e, ↓dfl_e0, ↓tMul_ii, ↓tAdd_ii, ↓tSub_ii, ↓tFdiv_ii, ↓tMod_ii, ↓tPow_ii, ↓tCm_ii, ↓rdP0, ↓rdP1, ↓rdV0, ↓rdV1, ↓rdA,
      kBl, kTru, rIsN_f, rIsN_t, isNon_non, isNon_int, isNon_str, isNon_tup, isNon_lst, isNon_parts, isNon_amt, rIsiD, kSome, startD, kI2, rInt2,
      List.map_cons, List.map_nil, List.length_cons, List.length_nil, List.cons_append, List.nil_append, List.getElem?_cons_zero, List.getElem?_cons_succ, List.replicate, Nat.reduceSub, Nat.reduceAdd, Nat.reduceLeDiff, Nat.zero_add, Nat.add_zero, Nat.sub_self, Nat.sub_zero, List.set_cons_zero, List.set_cons_succ, List.append_nil, List.drop, List.drop_zero,
      Option.some.injEq, exists_eq_left', exists_eq_left, true_and, and_true, if_true, if_false, Bool.false_eq_true, Bool.not_true, Bool.not_false, ite_true, ite_false, reduceIte, reduceCtorEq, Nat.le_refl, hlt, decide_false]
      refine most_loop h0 hok xs r acc _ hr h1 (fun z hz => h2 z (List.mem_cons_of_mem _ hz)) fun z => ?_
      have := h z
      rw [List.foldl_cons, if_neg hlt] at this
      exact this
end Mv
end
section
set_option Elab.async false
set_option linter.all false
set_option maxRecDepth 100000
set_option maxHeartbeats 4000000
namespace Mv
open PySem PySem.Spec L2
section
variable {S : Sy} {sd r : SD} {W : Wd} {Q : QD} {E : QX} {p : Addr} {cs : List Int} {k g : Int} {QS : SD → Wd → Prop}
theorem rdPen0 : dOp tIx (dVar 0) (dC (.int 0)) (some (.ptr p) :: r) (put W p (penM cs k g)) Q E = Q (.lst (cs.map D.int)) (put W p (penM cs k g)) := by
  simp only [dOp_e, dVar_e, List.getElem?_cons_zero, Option.some.injEq, exists_eq_left', dC_e]
  show (match put W p (penM cs k g) p with | some (.lst ds) => kSome (atI ds 0) fun x => Q x (put W p (penM cs k g)) | _ => False) = _
  rw [put_same]
  rfl
theorem rdPen1 : dOp tIx (dVar 0) (dC (.int 1)) (some (.ptr p) :: r) (put W p (penM cs k g)) Q E = Q (.int k) (put W p (penM cs k g)) := by
  simp only [dOp_e, dVar_e, List.getElem?_cons_zero, Option.some.injEq, exists_eq_left', dC_e]
  show (match put W p (penM cs k g) p with | some (.lst ds) => kSome (atI ds 1) fun x => Q x (put W p (penM cs k g)) | _ => False) = _
  rw [put_same]
  rfl
theorem rdPen2 : dOp tIx (dVar 0) (dC (.int 2)) (some (.ptr p) :: r) (put W p (penM cs k g)) Q E = Q (.int g) (put W p (penM cs k g)) := by
  simp only [dOp_e, dVar_e, List.getElem?_cons_zero, Option.some.injEq, exists_eq_left', dC_e]
  show (match put W p (penM cs k g) p with | some (.lst ds) => kSome (atI ds 2) fun x => Q x (put W p (penM cs k g)) | _ => False) = _
  rw [put_same]
  rfl
theorem rdPenX {b : DE} : dOp tIx (dOp tIx (dVar 0) (dC (.int 0))) b (some (.ptr p) :: r) (put W p (penM cs k g)) Q E = b (some (.ptr p) :: r) (put W p (penM cs k g)) (fun e W2 => tIx (.lst (cs.map D.int)) e (some (.ptr p) :: r) W2 Q E) E := by
  rw [dOp_e, rdPen0]
theorem setPen1 {j : Int} : gSetL (dVar 0) (dC (.int 1)) (.int j) (some (.ptr p) :: r) (put W p (penM cs k g)) QS = QS (some (.ptr p) :: r) (put W p (penM cs j g)) := by
  simp only [gSetL_e, dVar_e, List.getElem?_cons_zero, Option.some.injEq, exists_eq_left', dC_e]
  show (match put W p (penM cs k g) p with | some (.lst ds) => kSome (ixN ds.length 1) fun j' => QS (some (.ptr p) :: r) (put (put W p (penM cs k g)) p (.lst (ds.set j' (.int j)))) | _ => False) = _
  rw [put_same]
  show QS _ (put (put W p (penM cs k g)) p (penM cs j g)) = _
  rw [put_put]
theorem setPen2 {j : Int} : gSetL (dVar 0) (dC (.int 2)) (.int j) (some (.ptr p) :: r) (put W p (penM cs k g)) QS = QS (some (.ptr p) :: r) (put W p (penM cs k j)) := by
  simp only [gSetL_e, dVar_e, List.getElem?_cons_zero, Option.some.injEq, exists_eq_left', dC_e]
  show (match put W p (penM cs k g) p with | some (.lst ds) => kSome (ixN ds.length 2) fun j' => QS (some (.ptr p) :: r) (put (put W p (penM cs k g)) p (.lst (ds.set j' (.int j)))) | _ => False) = _
  rw [put_same]
  show QS _ (put (put W p (penM cs k g)) p (penM cs k j)) = _
  rw [put_put]
end
theorem rInt_int {i : Int} {Q : QD} : rIntD [.int i] W Q = Q (.int i) W := rfl
theorem rInt_bl {b : Bool} {Q : QD} : rIntD [.bl b] W Q = Q (.int (if b then 1 else 0)) W := rfl
theorem rLen_lst {ds : List D} {Q : QD} : rLenD [.lst ds] W Q = Q (.int ds.length) W := rfl
theorem rLen_tup {ds : List D} {Q : QD} : rLenD [.tup ds] W Q = Q (.int ds.length) W := rfl
theorem rAbs_int {i : Int} {Q : QD} : rAbsD [.int i] W Q = Q (.int (if i < 0 then -i else i)) W := rfl
theorem tIx_li {ds : List D} {i : Int} {Q : QD} : tIx (.lst ds) (.int i) sd W Q E = kSome (atI ds i) (fun x => Q x W) := rfl
theorem dps_ints : ∀ cs : List Int, dps (cs.map D.int) = 0
  | [] => rfl
  | c :: cs => by
    show max 0 (dps (cs.map D.int)) = 0
    rw [dps_ints cs]
    rfl
theorem eq_nil {q : EqI} : ∀ cs : List Int, eqD q (.lst (cs.map D.int)) (.lst []) = some cs.isEmpty
  | [] => rfl
  | c :: cs => rfl
theorem at_ints {cs : List Int} {i : Int} (h0 : 0 ≤ i) (h1 : i < cs.length) : ∃ c : Int, atI (cs.map D.int) i = some (.int c) := by
  have hl : i.toNat < cs.length := by omega
  refine ⟨cs[i.toNat], ?_⟩
  unfold L2.atI L2.ixN
  rw [if_pos h0]
  simp only [List.length_map]
  rw [if_pos h1]
  simp [hl]
theorem cm_l {a b : Int} (h1 : -18446744073709551616 < a) (h2 : a < 18446744073709551616) : (CMulW a b ∨ CMul a b) = True := by
  refine propext ⟨fun _ => trivial, fun _ => .inr (.inl ⟨?_, ?_⟩)⟩
  · have : (-(2 : Int) ^ 64) = -18446744073709551616 := by decide
    omega
  · have : (2 : Int) ^ 64 = 18446744073709551616 := by decide
    omega
theorem cm_s {a b : Int} (h1 : a.natAbs < 2 ^ 60) : (CMulW a b ∨ CMul a b) = True := by
  have e : (2 : Nat) ^ 60 = 1152921504606846976 := by decide
  exact cm_l (by omega) (by omega)
theorem cpow10 : CPow 10 18 = True := by simp [CPow]
theorem cpow {a : Int} (h : a.natAbs < 2 ^ 64) : CPow a 5 = True := by
  refine propext ⟨fun _ => trivial, fun _ => ⟨by decide, by decide, h⟩⟩
theorem cpow3 {a : Int} (h : a.natAbs < 2 ^ 64) : CPow a 3 = True := by
  refine propext ⟨fun _ => trivial, fun _ => ⟨by decide, by decide, h⟩⟩
theorem spPen.inv {n : Nat} {post : List D → (D → Prop) → Prop} {ds : List D} {W : Wd} {Q E : QD} (h : spPen n post ds W Q E) : ∃ p r cs k g, ds = .ptr p :: r ∧ PenAt W p cs k g ∧ k + n ≤ 100000 ∧ post r fun d => ∀ k' g' : Int, k ≤ k' → k' ≤ k + n → Q d (put W p (penM cs k' g')) := by
  unfold spPen at h
  split at h
  · obtain ⟨cs, k, g, h1, h2, h3⟩ := h
    exact ⟨_, _, cs, k, g, rfl, h1, h2, h3⟩
  · exact h.elim
theorem len_pen {n : Nat} {m : Nat} {post : List D → (D → Prop) → Prop} {ds : List D} {W : Wd} {Q E : QD} (h : spPen n post ds W Q E) (hp : ∀ r q, post r q → r.length = m) : ds.length = m + 1 := by
  obtain ⟨p, r, cs, k, g, rfl, _, _, h⟩ := h.inv
  rw [List.length_cons, hp _ _ h]
theorem len__law_draw (S : Sy) : ∀ ds W Q E, sp__law_draw S ds W Q E → ds.length = 2 := fun ds W Q E h => len_pen h fun r q h => by
  match r, h with
  | [.int m], h => rfl
theorem len__law_pick (S : Sy) : ∀ ds W Q E, sp__law_pick S ds W Q E → ds.length = 2 := fun ds W Q E h => len_pen h fun r q h => by
  match r, h with
  | [.lst m], h => rfl
  | [.tup m], h => rfl
def drawT (q : EqI) (n : Nat) (c1 c2 p1 c3 c4 p2 c5 c6 c7 p3 : Int) : DS := dSeq (dIfS (dTbl (dOp (tCm .none .none (fun i j => decide (j < i))) (dOp tIx (dVar 0) (dC (.int 2))) (dC (.int 0)))) (dSeq (dAsg (dOp (tMod .none) (dCB rIntD (dCons (dOp tIx (dVar 0) (dC (.int 2))) (dNil))) (dVar 1)) (gN 2)) (dSeq (dAsg (dOp (tFdiv .none) (dCB rIntD (dCons (dOp tIx (dVar 0) (dC (.int 2))) (dNil))) (dVar 1)) (gSetL (dVar 0) (dC (.int 2)))) (dRet (dVar 2)))) (dNext)) (dSeq (dAsg (dOp tIx (dVar 0) (dC (.int 1))) (gN 3)) (dSeq (dAsg (dOp (Mv.tAdd .none .none) (dVar 3) (dC (.int 1))) (gSetL (dVar 0) (dC (.int 1)))) (dSeq (dAsg (dOp (Mv.tAdd .none .none) (dOp (Mv.tMul .none .none) (dC (.int c1)) (dVar 3)) (dC (.int c2))) (gN 4)) (dSeq (dIfS (dTbl (dOp (rEqQ q true n) (dOp tIx (dVar 0) (dC (.int 0))) (dLst (dNil)))) (dAsg (dOp tIx (dOp tIx (dVar 0) (dC (.int 0))) (dOp (tMod .none) (dCB rIntD (dCons (dVar 3) (dNil))) (dCB rLenD (dCons (dOp tIx (dVar 0) (dC (.int 0))) (dNil))))) (gN 4)) (dNext)) (dSeq (dIfS (dAnd (dTbl (dOp (tCm .none .none (fun i j => decide (i < j))) (dVar 3) (dCB rLenD (dCons (dOp tIx (dVar 0) (dC (.int 0))) (dNil))))) (dTbl (dOp (tCm .none .none (fun i j => decide (j ≤ i))) (dCB rAbsD (dCons (dVar 4) (dNil))) (dOp tPow (dC (.int 10)) (dC (.int 18)))))) (dSeq (dAsg (dOp (Mv.tAdd .none .none) (dOp (Mv.tMul .none .none) (dC (.int 2)) (dOp (Mv.tSub .none .none) (dCB rAbsD (dCons (dVar 4) (dNil))) (dOp tPow (dC (.int 10)) (dC (.int 18))))) (dCB rIntD (dCons (dOp (tCm .none .none (fun i j => decide (i < j))) (dVar 4) (dC (.int 0))) (dNil)))) (gN 5)) (dSeq (dAsg (dOp (tFdiv .none) (dCB rIntD (dCons (dVar 5) (dNil))) (dVar 1)) (gSetL (dVar 0) (dC (.int 2)))) (dRet (dOp (tMod .none) (dCB rIntD (dCons (dVar 5) (dNil))) (dVar 1))))) (dNext)) (dSeq (dAsg (dOp (tMod .none) (dCB rIntD (dCons (dOp tPow (dOp (Mv.tAdd .none .none) (dOp (Mv.tAdd .none .none) (dOp (tMod .none) (dCB rIntD (dCons (dVar 4) (dNil))) (dC (.int p1))) (dOp (Mv.tMul .none .none) (dC (.int c3)) (dVar 3))) (dC (.int c4))) (dC (.int 5))) (dNil))) (dC (.int p2))) (gN 6)) (dSeq (dAsg (dOp (tMod .none) (dCB rIntD (dCons (dOp tPow (dOp (Mv.tAdd .none .none) (dOp (Mv.tAdd .none .none) (dOp (Mv.tMul .none .none) (dVar 6) (dOp (Mv.tAdd .none .none) (dOp (Mv.tMul .none .none) (dC (.int 2)) (dVar 3)) (dC (.int c5)))) (dOp (Mv.tMul .none .none) (dOp (Mv.tMul .none .none) (dC (.int c6)) (dVar 3)) (dVar 3))) (dC (.int c7))) (dC (.int 3))) (dNil))) (dC (.int p3))) (gN 6)) (dRet (dOp (tMod .none) (dCB rIntD (dCons (dOp (tFdiv .none) (dVar 6) (dC (.int 32))) (dNil))) (dVar 1))))))))))
def Sml (i : Int) : Prop := 0 ≤ i ∧ i ≤ 10000000
instance : Decidable (Sml i) := inferInstanceAs (Decidable (_ ∧ _))
def Pm (i : Int) : Prop := 0 < i ∧ i ≤ 2147483648
instance : Decidable (Pm i) := inferInstanceAs (Decidable (_ ∧ _))
theorem lin {c k : Int} (h : Sml c) (h0 : 0 ≤ k) (h1 : k ≤ 100000) : 0 ≤ c * k ∧ c * k ≤ 1000000000000 := by
  have a := Int.mul_le_mul h.2 h1 h0 (by decide)
  exact ⟨Int.mul_nonneg h.1 h0, a⟩
theorem quad {c k : Int} (h : Sml c) (h0 : 0 ≤ k) (h1 : k ≤ 100000) : 0 ≤ c * k * k ∧ c * k * k ≤ 100000000000000000 := by
  obtain ⟨a0, a1⟩ := lin h h0 h1
  have a := Int.mul_le_mul a1 h1 h0 (by decide)
  exact ⟨Int.mul_nonneg a0 h0, a⟩
theorem bil {x y : Int} (h0 : 0 ≤ x) (h1 : x ≤ 2147483648) (g0 : 0 ≤ y) (g1 : y ≤ 10200000) : 0 ≤ x * y ∧ x * y ≤ 21904333209600000 := by
  have a := Int.mul_le_mul h1 g1 g0 (by decide)
  exact ⟨Int.mul_nonneg h0 g0, a⟩
theorem draw_tail {R : Int → Prop} {c k m c3 c4 c5 c6 c7 p1 p2 p3 : Int} (hk0 : 0 ≤ k) (hk1 : k ≤ 100000) (hm : 0 < m) (s3 : Sml c3) (s4 : Sml c4) (s5 : Sml c5) (s6 : Sml c6) (s7 : Sml c7) (q1 : Pm p1) (q2 : Pm p2) (q3 : Pm p3) (hR : ∀ i, R (i % m)) :
    0 < p1 ∧ (CMulW c3 k ∨ CMul c3 k) ∧ CPow (c % p1 + c3 * k + c4) 5 ∧ 0 < p2 ∧ (CMulW 2 k ∨ CMul 2 k) ∧
      (CMulW ((c % p1 + c3 * k + c4) ^ Int.toNat 5 % p2) (2 * k + c5) ∨ CMul ((c % p1 + c3 * k + c4) ^ Int.toNat 5 % p2) (2 * k + c5)) ∧
      (CMulW c6 k ∨ CMul c6 k) ∧ (CMulW (c6 * k) k ∨ CMul (c6 * k) k) ∧
      CPow ((c % p1 + c3 * k + c4) ^ Int.toNat 5 % p2 * (2 * k + c5) + c6 * k * k + c7) 3 ∧ 0 < p3 ∧
      CDivW (((c % p1 + c3 * k + c4) ^ Int.toNat 5 % p2 * (2 * k + c5) + c6 * k * k + c7) ^ Int.toNat 3 % p3) 32 ∧ 0 < m ∧
      R (((c % p1 + c3 * k + c4) ^ Int.toNat 5 % p2 * (2 * k + c5) + c6 * k * k + c7) ^ Int.toNat 3 % p3 / 32 % m) := by
  have e1 := Int.emod_nonneg c (b := p1) (by have := q1.1; omega)
  have e2 := Int.emod_lt_of_pos c q1.1
  have l1 := lin s3 hk0 hk1
  have l2 := lin s6 hk0 hk1
  have l3 := quad s6 hk0 hk1
  obtain ⟨s40, s41⟩ := s4
  obtain ⟨s50, s51⟩ := s5
  obtain ⟨s70, s71⟩ := s7
  obtain ⟨s30, s31⟩ := s3
  obtain ⟨s60, s61⟩ := s6
  have q11 := q1.2
  have q21 := q2.2
  have q31 := q3.2
  generalize hx : (c % p1 + c3 * k + c4) ^ Int.toNat 5 % p2 = x
  have x0 : 0 ≤ x := by
    rw [← hx]
    exact Int.emod_nonneg _ (by have := q2.1; omega)
  have x1 : x < p2 := by
    rw [← hx]
    exact Int.emod_lt_of_pos _ q2.1
  have l4 := bil x0 (by omega) (y := 2 * k + c5) (by omega) (by omega)
  have e64 : (2 : Nat) ^ 64 = 18446744073709551616 := by decide
  refine ⟨q1.1, of_eq_true (cm_l (by omega) (by omega)), of_eq_true (cpow (by omega)), q2.1, of_eq_true (cm_l (by decide) (by decide)), of_eq_true (cm_l (by omega) (by omega)), of_eq_true (cm_l (by omega) (by omega)), of_eq_true (cm_l (by omega) (by omega)), of_eq_true (cpow3 (by omega)), q3.1, ?_, hm, hR _⟩
  exact wide_div (b := 8990) (by decide) (by decide) (by decide) (by decide)
theorem pf_draw {c1 c2 p1 c3 c4 p2 c5 c6 c7 p3 : Int} {q : EqI} {n : Nat} (s1 : Sml c1) (s3 : Sml c3) (s4 : Sml c4) (s5 : Sml c5) (s6 : Sml c6) (s7 : Sml c7) (q1 : Pm p1) (q2 : Pm p2) (q3 : Pm p3) {S : Sy} {x0 x1 x2 x3 x4 x5 x6 : Str} : ∀ ds W Q2 E2, sp__law_draw S ds W Q2 E2 → drawT q (n + 1) c1 c2 p1 c3 c4 p2 c5 c6 c7 p3 { nx := fun _ W => Q2 .non W, rt := Q2 } (startD [x0, x1, x2, x3, x4, x5, x6] ds) W (fun x _ W => E2 x W) := by
  intro ds W Q E h
  obtain ⟨p, r, cs, k, g, rfl, ⟨hW, hl, hk0, hk1⟩, hk, h⟩ := spPen.inv h
  match r, h with
  | [.int m], h =>
    obtain ⟨hm, hb, qq⟩ := h
    have eW : W = put W p (penM cs k g) := (put_get hW).symm
    rw [eW] at qq ⊢
    have md : ∀ i : Int, CDivW i m := fun i => wide_div (b := 8990) hm hb (by decide) (by decide)
    have fin : ∀ (i k' g' : Int), k ≤ k' → k' ≤ k + 1 → Q (.int (i % m)) (put W p (penM cs k' g')) := fun i k' g' h1 h2 => by
      have := qq (i % m) (Int.emod_nonneg _ (by omega)) (Int.emod_lt_of_pos _ hm) k' g' h1 h2
      rwa [put_put] at this
    clear qq eW hW
    simp only [↓dSeq_e, ↓dNext_e, ↓dBreak_e, ↓dCont_e, ↓dNever_e, ↓dRet_e, ↓dRetN_e, ↓dDrop_e, ↓dIfS_e, ↓dAsg_e, ↓dPar_e, ↓dPar3_e, ↓gN_e, ↓gTp_e, ↓gNs_e, ↓gN0_e, ↓dVar_e, ↓dC_e, ↓dCB_e, ↓dCons_e, ↓dNil_e, ↓dTup_e, ↓dLst_e, ↓dLstM_e, ↓dOpMul_e, ↓dOpAdd_e, ↓dOpSub_e, ↓dOpFdv_e, ↓dOpMod_e, ↓dOpPow_e, ↓dOpCm_e, ↓dOpEq_e, ↓dOpIn_e, ↓dOpIs_e, ↓dTst_e, ↓dTbl_e, ↓dNot_e, ↓dAnd_e, ↓dOr_e, ↓dAndV_e, ↓dOrV_e, ↓dNotV_e, ↓dIf_e, ↓dCall_e, ↓dSm_e, ↓dCm_e, ↓dMeth_e, ↓dFor_e, ↓iSq_e, ↓iRng1_e, ↓dNeg_e, ↓dNegO_e, ↓dFld_e, ↓dLc_e, ↓dBM_e, ↓dFmt_e, ↓dB1_e, ↓dSl_e, ↓dPart_e, ↓dNoPart_e, ↓dfl_e0, ↓tMul_ii, ↓tAdd_ii, ↓tSub_ii, ↓tFdiv_ii, ↓tMod_ii, ↓tPow_ii, ↓tCm_ii, ↓rdP0, ↓rdP1, ↓rdV0, ↓rdV1, ↓rdA,
      kBl, kTru, rIsN_f, rIsN_t, isNon_non, isNon_int, isNon_str, isNon_tup, isNon_lst, isNon_parts, isNon_amt, rIsiD, kSome, startD, kI2, rInt2,
      List.map_cons, List.map_nil, List.length_cons, List.length_nil, List.cons_append, List.nil_append, List.getElem?_cons_zero, List.getElem?_cons_succ, List.replicate, Nat.reduceSub, Nat.reduceAdd, Nat.reduceLeDiff, Nat.zero_add, Nat.add_zero, Nat.sub_self, Nat.sub_zero, List.set_cons_zero, List.set_cons_succ, List.append_nil, List.drop, List.drop_zero,
      Option.some.injEq, exists_eq_left', exists_eq_left, true_and, and_true, if_true, if_false, Bool.false_eq_true, Bool.not_true, Bool.not_false, ite_true, ite_false, reduceIte, reduceCtorEq, Nat.le_refl, drawT, ↓rdPen0, ↓rdPen1, ↓rdPen2]
    by_cases hg : 0 < g
    · simp only [↓dSeq_e, ↓dNext_e, ↓dBreak_e, ↓dCont_e, ↓dNever_e, ↓dRet_e, ↓dRetN_e, ↓dDrop_e, ↓dIfS_e, ↓dAsg_e, ↓dPar_e, ↓dPar3_e, ↓gN_e, ↓gTp_e, ↓gNs_e, ↓gN0_e, ↓dVar_e, ↓dC_e, ↓dCB_e, ↓dCons_e, ↓dNil_e, ↓dTup_e, ↓dLst_e, ↓dLstM_e, ↓dOpMul_e, ↓dOpAdd_e, ↓dOpSub_e, ↓dOpFdv_e, ↓dOpMod_e, ↓dOpPow_e, ↓dOpCm_e, ↓dOpEq_e, ↓dOpIn_e, ↓dOpIs_e, ↓dTst_e, ↓dTbl_e, ↓dNot_e, ↓dAnd_e, ↓dOr_e, ↓dAndV_e, ↓dOrV_e, ↓dNotV_e, ↓dIf_e, ↓dCall_e, ↓dSm_e, ↓dCm_e, ↓dMeth_e, ↓dFor_e, ↓iSq_e, ↓iRng1_e, ↓dNeg_e, ↓dNegO_e, ↓dFld_e, ↓dLc_e, ↓dBM_e, ↓dFmt_e, ↓dB1_e, ↓dSl_e, ↓dPart_e, ↓dNoPart_e, ↓dfl_e0, ↓tMul_ii, ↓tAdd_ii, ↓tSub_ii, ↓tFdiv_ii, ↓tMod_ii, ↓tPow_ii, ↓tCm_ii, ↓rdP0, ↓rdP1, ↓rdV0, ↓rdV1, ↓rdA,
      kBl, kTru, rIsN_f, rIsN_t, isNon_non, isNon_int, isNon_str, isNon_tup, isNon_lst, isNon_parts, isNon_amt, rIsiD, kSome, startD, kI2, rInt2,
      List.map_cons, List.map_nil, List.length_cons, List.length_nil, List.cons_append, List.nil_append, List.getElem?_cons_zero, List.getElem?_cons_succ, List.replicate, Nat.reduceSub, Nat.reduceAdd, Nat.reduceLeDiff, Nat.zero_add, Nat.add_zero, Nat.sub_self, Nat.sub_zero, List.set_cons_zero, List.set_cons_succ, List.append_nil, List.drop, List.drop_zero,
      Option.some.injEq, exists_eq_left', exists_eq_left, true_and, and_true, if_true, if_false, Bool.false_eq_true, Bool.not_true, Bool.not_false, ite_true, ite_false, reduceIte, reduceCtorEq, Nat.le_refl, hg, decide_true, ↓rInt_int, hm, ↓rdPen2, md, ↓setPen2]
      exact fin g k _ (Int.le_refl _) (by omega)
    · simp only [↓dSeq_e, ↓dNext_e, ↓dBreak_e, ↓dCont_e, ↓dNever_e, ↓dRet_e, ↓dRetN_e, ↓dDrop_e, ↓dIfS_e, ↓dAsg_e, ↓dPar_e, ↓dPar3_e, ↓gN_e, ↓gTp_e, ↓gNs_e, ↓gN0_e, ↓dVar_e, ↓dC_e, ↓dCB_e, ↓dCons_e, ↓dNil_e, ↓dTup_e, ↓dLst_e, ↓dLstM_e, ↓dOpMul_e, ↓dOpAdd_e, ↓dOpSub_e, ↓dOpFdv_e, ↓dOpMod_e, ↓dOpPow_e, ↓dOpCm_e, ↓dOpEq_e, ↓dOpIn_e, ↓dOpIs_e, ↓dTst_e, ↓dTbl_e, ↓dNot_e, ↓dAnd_e, ↓dOr_e, ↓dAndV_e, ↓dOrV_e, ↓dNotV_e, ↓dIf_e, ↓dCall_e, ↓dSm_e, ↓dCm_e, ↓dMeth_e, ↓dFor_e, ↓iSq_e, ↓iRng1_e, ↓dNeg_e, ↓dNegO_e, ↓dFld_e, ↓dLc_e, ↓dBM_e, ↓dFmt_e, ↓dB1_e, ↓dSl_e, ↓dPart_e, ↓dNoPart_e, ↓dfl_e0, ↓tMul_ii, ↓tAdd_ii, ↓tSub_ii, ↓tFdiv_ii, ↓tMod_ii, ↓tPow_ii, ↓tCm_ii, ↓rdP0, ↓rdP1, ↓rdV0, ↓rdV1, ↓rdA,
      kBl, kTru, rIsN_f, rIsN_t, isNon_non, isNon_int, isNon_str, isNon_tup, isNon_lst, isNon_parts, isNon_amt, rIsiD, kSome, startD, kI2, rInt2,
      List.map_cons, List.map_nil, List.length_cons, List.length_nil, List.cons_append, List.nil_append, List.getElem?_cons_zero, List.getElem?_cons_succ, List.replicate, Nat.reduceSub, Nat.reduceAdd, Nat.reduceLeDiff, Nat.zero_add, Nat.add_zero, Nat.sub_self, Nat.sub_zero, List.set_cons_zero, List.set_cons_succ, List.append_nil, List.drop, List.drop_zero,
      Option.some.injEq, exists_eq_left', exists_eq_left, true_and, and_true, if_true, if_false, Bool.false_eq_true, Bool.not_true, Bool.not_false, ite_true, ite_false, reduceIte, reduceCtorEq, Nat.le_refl, hg, decide_false, ↓rdPen1, ↓setPen1, rEqQ, eq_nil, D.dp, dps_ints, ↓rdPen0]
      have hc := lin s1 hk0 hk1
      refine ⟨of_eq_true (cm_l (by have := s1.1; omega) (by have := s1.2; omega)), ?_⟩
      cases he : cs.isEmpty
      · have hl0 : 0 < cs.length := by
          cases cs
          · cases he
          · simp
        obtain ⟨c, hc⟩ := at_ints (cs := cs) (i := k % (cs.length : Int)) (Int.emod_nonneg _ (by omega)) (Int.emod_lt_of_pos _ (by omega))
        simp only [↓dSeq_e, ↓dNext_e, ↓dBreak_e, ↓dCont_e, ↓dNever_e, ↓dRet_e, ↓dRetN_e, ↓dDrop_e, ↓dIfS_e, ↓dAsg_e, ↓dPar_e, ↓dPar3_e, ↓gN_e, ↓gTp_e, ↓gNs_e, ↓gN0_e, ↓dVar_e, ↓dC_e, ↓dCB_e, ↓dCons_e, ↓dNil_e, ↓dTup_e, ↓dLst_e, ↓dLstM_e, ↓dOpMul_e, ↓dOpAdd_e, ↓dOpSub_e, ↓dOpFdv_e, ↓dOpMod_e, ↓dOpPow_e, ↓dOpCm_e, ↓dOpEq_e, ↓dOpIn_e, ↓dOpIs_e, ↓dTst_e, ↓dTbl_e, ↓dNot_e, ↓dAnd_e, ↓dOr_e, ↓dAndV_e, ↓dOrV_e, ↓dNotV_e, ↓dIf_e, ↓dCall_e, ↓dSm_e, ↓dCm_e, ↓dMeth_e, ↓dFor_e, ↓iSq_e, ↓iRng1_e, ↓dNeg_e, ↓dNegO_e, ↓dFld_e, ↓dLc_e, ↓dBM_e, ↓dFmt_e, ↓dB1_e, ↓dSl_e, ↓dPart_e, ↓dNoPart_e, ↓dfl_e0, ↓tMul_ii, ↓tAdd_ii, ↓tSub_ii, ↓tFdiv_ii, ↓tMod_ii, ↓tPow_ii, ↓tCm_ii, ↓rdP0, ↓rdP1, ↓rdV0, ↓rdV1, ↓rdA,
      kBl, kTru, rIsN_f, rIsN_t, isNon_non, isNon_int, isNon_str, isNon_tup, isNon_lst, isNon_parts, isNon_amt, rIsiD, kSome, startD, kI2, rInt2,
      List.map_cons, List.map_nil, List.length_cons, List.length_nil, List.cons_append, List.nil_append, List.getElem?_cons_zero, List.getElem?_cons_succ, List.replicate, Nat.reduceSub, Nat.reduceAdd, Nat.reduceLeDiff, Nat.zero_add, Nat.add_zero, Nat.sub_self, Nat.sub_zero, List.set_cons_zero, List.set_cons_succ, List.append_nil, List.drop, List.drop_zero,
      Option.some.injEq, exists_eq_left', exists_eq_left, true_and, and_true, if_true, if_false, Bool.false_eq_true, Bool.not_true, Bool.not_false, ite_true, ite_false, reduceIte, reduceCtorEq, Nat.le_refl, List.isEmpty_cons, List.length_map, ↓rInt_int, ↓rInt_bl, ↓rLen_lst, ↓rLen_tup, ↓rAbs_int, ↓rdPenX, ↓tIx_li, ↓setPen2, hc, ↓rdPen0, hg]
        have tl := draw_tail (R := fun z => Q (.int z) (put W p (penM cs (k + 1) g))) (c := c) hk0 hk1 hm s3 s4 s5 s6 s7 q1 q2 q3 fun i => fin i _ _ (by omega) (by omega)
        refine ⟨by omega, ?_⟩
        generalize (if c < 0 then -c else c) = ac
        split
        · refine ⟨of_eq_true cpow10, ?_⟩
          split
          · exact ⟨of_eq_true cpow10, of_eq_true (cm_l (by decide) (by decide)), md _, hm, fin _ _ _ (by omega) (by omega)⟩
          · exact tl
        · exact tl
      · simp only [↓dSeq_e, ↓dNext_e, ↓dBreak_e, ↓dCont_e, ↓dNever_e, ↓dRet_e, ↓dRetN_e, ↓dDrop_e, ↓dIfS_e, ↓dAsg_e, ↓dPar_e, ↓dPar3_e, ↓gN_e, ↓gTp_e, ↓gNs_e, ↓gN0_e, ↓dVar_e, ↓dC_e, ↓dCB_e, ↓dCons_e, ↓dNil_e, ↓dTup_e, ↓dLst_e, ↓dLstM_e, ↓dOpMul_e, ↓dOpAdd_e, ↓dOpSub_e, ↓dOpFdv_e, ↓dOpMod_e, ↓dOpPow_e, ↓dOpCm_e, ↓dOpEq_e, ↓dOpIn_e, ↓dOpIs_e, ↓dTst_e, ↓dTbl_e, ↓dNot_e, ↓dAnd_e, ↓dOr_e, ↓dAndV_e, ↓dOrV_e, ↓dNotV_e, ↓dIf_e, ↓dCall_e, ↓dSm_e, ↓dCm_e, ↓dMeth_e, ↓dFor_e, ↓iSq_e, ↓iRng1_e, ↓dNeg_e, ↓dNegO_e, ↓dFld_e, ↓dLc_e, ↓dBM_e, ↓dFmt_e, ↓dB1_e, ↓dSl_e, ↓dPart_e, ↓dNoPart_e, ↓dfl_e0, ↓tMul_ii, ↓tAdd_ii, ↓tSub_ii, ↓tFdiv_ii, ↓tMod_ii, ↓tPow_ii, ↓tCm_ii, ↓rdP0, ↓rdP1, ↓rdV0, ↓rdV1, ↓rdA,
      kBl, kTru, rIsN_f, rIsN_t, isNon_non, isNon_int, isNon_str, isNon_tup, isNon_lst, isNon_parts, isNon_amt, rIsiD, kSome, startD, kI2, rInt2,
      List.map_cons, List.map_nil, List.length_cons, List.length_nil, List.cons_append, List.nil_append, List.getElem?_cons_zero, List.getElem?_cons_succ, List.replicate, Nat.reduceSub, Nat.reduceAdd, Nat.reduceLeDiff, Nat.zero_add, Nat.add_zero, Nat.sub_self, Nat.sub_zero, List.set_cons_zero, List.set_cons_succ, List.append_nil, List.drop, List.drop_zero,
      Option.some.injEq, exists_eq_left', exists_eq_left, true_and, and_true, if_true, if_false, Bool.false_eq_true, Bool.not_true, Bool.not_false, ite_true, ite_false, reduceIte, reduceCtorEq, Nat.le_refl, List.isEmpty_nil, ↓rInt_int, ↓rInt_bl, ↓rLen_lst, ↓rLen_tup, ↓rAbs_int, ↓rdPen0, hg]
        cases cs
        · rw [if_neg (by simp; omega)]
          exact draw_tail (R := fun z => Q (.int z) (put W p (penM [] (k + 1) g))) hk0 hk1 hm s3 s4 s5 s6 s7 q1 q2 q3 fun i => fin i _ _ (by omega) (by omega)
        · cases he
theorem bg_small {i : Int} (h : i.natAbs < 2 ^ 60) : Bg i := by
  refine Nat.lt_of_lt_of_le h (Nat.pow_le_pow_right (by decide) (by decide))
theorem at_mem {ds : List D} {i : Int} (h0 : 0 ≤ i) (h1 : i < ds.length) : ∃ d, atI ds i = some d ∧ d ∈ ds := by
  have hl : i.toNat < ds.length := by omega
  refine ⟨ds[i.toNat], ?_, List.getElem_mem _⟩
  unfold L2.atI L2.ixN
  rw [if_pos h0, if_pos h1]
  simp [hl]
/-! ## the pen and a pick of a list -/
def penT : DS := dRet (dLstM (dCons (dCB rListD (dCons (dSl (dVar 0) (dNoPart) (dPart (dC (.int 63)))) (dNil))) (dCons (dC (.int 0)) (dCons (dC (.int 0)) (dNil)))))
def pickT (S : Sy) : DS := dRet (dOp tIx (dVar 1) (dCall 2 [] (sp__law_draw S) (dCons (dVar 0) (dCons (dCB rLenD (dCons (dVar 1) (dNil))) (dNil)))))
theorem pf_pick {S : Sy} {x0 x1 : Str} : ∀ ds W Q2 E2, sp__law_pick S ds W Q2 E2 → pickT S { nx := fun _ W => Q2 .non W, rt := Q2 } (startD [x0, x1] ds) W (fun x _ W => E2 x W) := by
  intro ds W Q E h
  obtain ⟨p, r, cs, k, g, rfl, hp, hk, h⟩ := spPen.inv h
  match r, h with
  | [.lst m], h =>
    obtain ⟨hm, hl, qq⟩ := h
    simp only [↓dSeq_e, ↓dNext_e, ↓dBreak_e, ↓dCont_e, ↓dNever_e, ↓dRet_e, ↓dRetN_e, ↓dDrop_e, ↓dIfS_e, ↓dAsg_e, ↓dPar_e, ↓dPar3_e, ↓gN_e, ↓gTp_e, ↓gNs_e, ↓gN0_e, ↓dVar_e, ↓dC_e, ↓dCB_e, ↓dCons_e, ↓dNil_e, ↓dTup_e, ↓dLst_e, ↓dLstM_e, ↓dOpMul_e, ↓dOpAdd_e, ↓dOpSub_e, ↓dOpFdv_e, ↓dOpMod_e, ↓dOpPow_e, ↓dOpCm_e, ↓dOpEq_e, ↓dOpIn_e, ↓dOpIs_e, ↓dTst_e, ↓dTbl_e, ↓dNot_e, ↓dAnd_e, ↓dOr_e, ↓dAndV_e, ↓dOrV_e, ↓dNotV_e, ↓dIf_e, ↓dCall_e, ↓dSm_e, ↓dCm_e, ↓dMeth_e, ↓dFor_e, ↓iSq_e, ↓iRng1_e, ↓dNeg_e, ↓dNegO_e, ↓dFld_e, ↓dLc_e, ↓dBM_e, ↓dFmt_e, ↓dB1_e, ↓dSl_e, ↓dPart_e, ↓dNoPart_e, ↓dfl_e0, ↓tMul_ii, ↓tAdd_ii, ↓tSub_ii, ↓tFdiv_ii, ↓tMod_ii, ↓tPow_ii, ↓tCm_ii, ↓rdP0, ↓rdP1, ↓rdV0, ↓rdV1, ↓rdA,
      kBl, kTru, rIsN_f, rIsN_t, isNon_non, isNon_int, isNon_str, isNon_tup, isNon_lst, isNon_parts, isNon_amt, rIsiD, kSome, startD, kI2, rInt2,
      List.map_cons, List.map_nil, List.length_cons, List.length_nil, List.cons_append, List.nil_append, List.getElem?_cons_zero, List.getElem?_cons_succ, List.replicate, Nat.reduceSub, Nat.reduceAdd, Nat.reduceLeDiff, Nat.zero_add, Nat.add_zero, Nat.sub_self, Nat.sub_zero, List.set_cons_zero, List.set_cons_succ, List.append_nil, List.drop, List.drop_zero,
      Option.some.injEq, exists_eq_left', exists_eq_left, true_and, and_true, if_true, if_false, Bool.false_eq_true, Bool.not_true, Bool.not_false, ite_true, ite_false, reduceIte, reduceCtorEq, Nat.le_refl, pickT, ↓dOp_e, ↓rLen_lst, ↓rLen_tup]
    refine ⟨cs, k, g, hp, hk, by cases m; exact absurd rfl hm; simp, bg_small (by omega), fun x h0 h1 k' g' h2 h3 => ?_⟩
    obtain ⟨d, hd, hd'⟩ := at_mem h0 h1
    show kSome (atI m x) _
    rw [hd]
    exact qq d hd' k' g' h2 h3
  | [.tup m], h =>
    obtain ⟨hm, hl, qq⟩ := h
    simp only [↓dSeq_e, ↓dNext_e, ↓dBreak_e, ↓dCont_e, ↓dNever_e, ↓dRet_e, ↓dRetN_e, ↓dDrop_e, ↓dIfS_e, ↓dAsg_e, ↓dPar_e, ↓dPar3_e, ↓gN_e, ↓gTp_e, ↓gNs_e, ↓gN0_e, ↓dVar_e, ↓dC_e, ↓dCB_e, ↓dCons_e, ↓dNil_e, ↓dTup_e, ↓dLst_e, ↓dLstM_e, ↓dOpMul_e, ↓dOpAdd_e, ↓dOpSub_e, ↓dOpFdv_e, ↓dOpMod_e, ↓dOpPow_e, ↓dOpCm_e, ↓dOpEq_e, ↓dOpIn_e, ↓dOpIs_e, ↓dTst_e, ↓dTbl_e, ↓dNot_e, ↓dAnd_e, ↓dOr_e, ↓dAndV_e, ↓dOrV_e, ↓dNotV_e, ↓dIf_e, ↓dCall_e, ↓dSm_e, ↓dCm_e, ↓dMeth_e, ↓dFor_e, ↓iSq_e, ↓iRng1_e, ↓dNeg_e, ↓dNegO_e, ↓dFld_e, ↓dLc_e, ↓dBM_e, ↓dFmt_e, ↓dB1_e, ↓dSl_e, ↓dPart_e, ↓dNoPart_e, ↓dfl_e0, ↓tMul_ii, ↓tAdd_ii, ↓tSub_ii, ↓tFdiv_ii, ↓tMod_ii, ↓tPow_ii, ↓tCm_ii, ↓rdP0, ↓rdP1, ↓rdV0, ↓rdV1, ↓rdA,
      kBl, kTru, rIsN_f, rIsN_t, isNon_non, isNon_int, isNon_str, isNon_tup, isNon_lst, isNon_parts, isNon_amt, rIsiD, kSome, startD, kI2, rInt2,
      List.map_cons, List.map_nil, List.length_cons, List.length_nil, List.cons_append, List.nil_append, List.getElem?_cons_zero, List.getElem?_cons_succ, List.replicate, Nat.reduceSub, Nat.reduceAdd, Nat.reduceLeDiff, Nat.zero_add, Nat.add_zero, Nat.sub_self, Nat.sub_zero, List.set_cons_zero, List.set_cons_succ, List.append_nil, List.drop, List.drop_zero,
      Option.some.injEq, exists_eq_left', exists_eq_left, true_and, and_true, if_true, if_false, Bool.false_eq_true, Bool.not_true, Bool.not_false, ite_true, ite_false, reduceIte, reduceCtorEq, Nat.le_refl, pickT, ↓dOp_e, ↓rLen_lst, ↓rLen_tup]
    refine ⟨cs, k, g, hp, hk, by cases m; exact absurd rfl hm; simp, bg_small (by omega), fun x h0 h1 k' g' h2 h3 => ?_⟩
    obtain ⟨d, hd, hd'⟩ := at_mem h0 h1
    show kSome (atI m x) _
    rw [hd]
    exact qq d hd' k' g' h2 h3
theorem pf_pen {S : Sy} {x0 : Str} : ∀ ds W Q2 E2, sp__law_pen S ds W Q2 E2 → penT { nx := fun _ W => Q2 .non W, rt := Q2 } (startD [x0] ds) W (fun x _ W => E2 x W) := by
  intro ds W Q E h
  obtain ⟨ns, rfl, h⟩ := h
  simp only [↓dSeq_e, ↓dNext_e, ↓dBreak_e, ↓dCont_e, ↓dNever_e, ↓dRet_e, ↓dRetN_e, ↓dDrop_e, ↓dIfS_e, ↓dAsg_e, ↓dPar_e, ↓dPar3_e, ↓gN_e, ↓gTp_e, ↓gNs_e, ↓gN0_e, ↓dVar_e, ↓dC_e, ↓dCB_e, ↓dCons_e, ↓dNil_e, ↓dTup_e, ↓dLst_e, ↓dLstM_e, ↓dOpMul_e, ↓dOpAdd_e, ↓dOpSub_e, ↓dOpFdv_e, ↓dOpMod_e, ↓dOpPow_e, ↓dOpCm_e, ↓dOpEq_e, ↓dOpIn_e, ↓dOpIs_e, ↓dTst_e, ↓dTbl_e, ↓dNot_e, ↓dAnd_e, ↓dOr_e, ↓dAndV_e, ↓dOrV_e, ↓dNotV_e, ↓dIf_e, ↓dCall_e, ↓dSm_e, ↓dCm_e, ↓dMeth_e, ↓dFor_e, ↓iSq_e, ↓iRng1_e, ↓dNeg_e, ↓dNegO_e, ↓dFld_e, ↓dLc_e, ↓dBM_e, ↓dFmt_e, ↓dB1_e, ↓dSl_e, ↓dPart_e, ↓dNoPart_e, ↓dfl_e0, ↓tMul_ii, ↓tAdd_ii, ↓tSub_ii, ↓tFdiv_ii, ↓tMod_ii, ↓tPow_ii, ↓tCm_ii, ↓rdP0, ↓rdP1, ↓rdV0, ↓rdV1, ↓rdA,
      kBl, kTru, rIsN_f, rIsN_t, isNon_non, isNon_int, isNon_str, isNon_tup, isNon_lst, isNon_parts, isNon_amt, rIsiD, kSome, startD, kI2, rInt2,
      List.map_cons, List.map_nil, List.length_cons, List.length_nil, List.cons_append, List.nil_append, List.getElem?_cons_zero, List.getElem?_cons_succ, List.replicate, Nat.reduceSub, Nat.reduceAdd, Nat.reduceLeDiff, Nat.zero_add, Nat.add_zero, Nat.sub_self, Nat.sub_zero, List.set_cons_zero, List.set_cons_succ, List.append_nil, List.drop, List.drop_zero,
      Option.some.injEq, exists_eq_left', exists_eq_left, true_and, and_true, if_true, if_false, Bool.false_eq_true, Bool.not_true, Bool.not_false, ite_true, ite_false, reduceIte, reduceCtorEq, Nat.le_refl, penT, rListD]
  show ∀ p : Addr, W p = none → _
  intro p hp
  have e : cutD (ns.map D.int) none (some 63) = (ns.take 63).map D.int := by
    unfold cutD
    rw [← List.map_drop, ← List.map_take]
    have e1 : HT.sIx (ns.map D.int).length 0 none = 0 := rfl
    rw [e1, List.drop_zero]
    have e2 : HT.sIx (ns.map D.int).length (ns.map D.int).length (some 63) = min 63 (ns.map D.int).length := by
      simp [HT.sIx]
    rw [e2, List.length_map, Nat.sub_zero, ← List.take_take]
    simp
  rw [e]
  exact h p (ns.take 63) hp (by simp; omega)
end Mv
end
section
set_option Elab.async false
set_option linter.all false
set_option maxRecDepth 100000
set_option maxHeartbeats 4000000
namespace Mv
open PySem PySem.Spec L2 SX
/-- size -/
def sz (n : Nat) (q : Rat) : Prop := q.num.natAbs < 2 ^ n ∧ q.den < 2 ^ n
theorem drawP {S : Sy} {W : Wd} {p : Addr} {cs : List Int} {k g m : Int} {Q E : QD} (hl : cs.length ≤ 63) (h0 : 0 ≤ k) (hk : k + 1 ≤ 100000) (hm : 0 < m) (hb : Bg m) (q : ∀ x k' g', 0 ≤ x → x < m → k ≤ k' → k' ≤ k + 1 → Q (.int x) (put W p (penM cs k' g'))) : sp__law_draw S [.ptr p, .int m] (put W p (penM cs k g)) Q E :=
  ⟨cs, k, g, ⟨put_same, hl, h0, by omega⟩, hk, hm, hb, fun x h1 h2 k' g' h3 h4 => by
    rw [put_put]
    exact q x k' g' h1 h2 h3 h4⟩
theorem pickP {S : Sy} {W : Wd} {p : Addr} {cs : List Int} {k g : Int} {m : List Mv.D} {Q E : QD} (hl : cs.length ≤ 63) (h0 : 0 ≤ k) (hk : k + 1 ≤ 100000) (hm : m ≠ []) (hb : m.length ≤ 1000000) (q : ∀ x k' g', x ∈ m → k ≤ k' → k' ≤ k + 1 → Q x (put W p (penM cs k' g'))) : sp__law_pick S [.ptr p, .lst m] (put W p (penM cs k g)) Q E :=
  ⟨cs, k, g, ⟨put_same, hl, h0, by omega⟩, hk, hm, hb, fun x h1 k' g' h3 h4 => by
    rw [put_put]
    exact q x k' g' h1 h3 h4⟩
theorem cpow12 : CPow 10 12 = True := by simp [CPow]
theorem sz_neg {n : Nat} {p : Rat} (h : sz n p) : sz n (-p) := ⟨by rw [Rat.neg_num, Int.natAbs_neg]; exact h.1, by rw [Rat.neg_den]; exact h.2⟩
theorem sz_div {a b : Int} (h : a.natAbs < 2305843009213693952) (hb : 0 < b) (hb2 : b < 2305843009213693952) : sz 61 (Rat.divInt a b) := by
  obtain ⟨n, rfl⟩ := Int.eq_ofNat_of_zero_le (Int.le_of_lt hb)
  have e : Rat.divInt a (n : Int) = mkRat a n := rfl
  have e61 : (2 : Nat) ^ 61 = 2305843009213693952 := by decide
  have hn : n ≠ 0 := by omega
  rw [e]
  unfold sz
  rw [e61, Rat.num_mkRat, Rat.den_mkRat, if_neg hn, if_neg hn]
  exact ⟨Nat.lt_of_le_of_lt (Int.natAbs_ediv_le_natAbs _ _) h, Nat.lt_of_le_of_lt (Nat.div_le_self _ _) (by omega)⟩
theorem SZ_of {n : Nat} {p : Rat} (h : sz n p) (hn : n ≤ 4400) : SZ p := by
  have e := Nat.pow_le_pow_right (n := 2) (by decide) hn
  refine ⟨Nat.lt_of_lt_of_le h.1 e, ?_⟩
  show ((p.den : Nat) : Int).natAbs < 2 ^ 4400
  rw [Int.natAbs_natCast]
  exact Nat.lt_of_lt_of_le h.2 e
theorem sz_dv {k : Nat} {a b : Int} (h : a.natAbs < 2 ^ k) (hb : 0 < b) (hb2 : b.natAbs < 2 ^ k) : sz k (Rat.divInt a b) := by
  obtain ⟨n, rfl⟩ := Int.eq_ofNat_of_zero_le (Int.le_of_lt hb)
  have e : Rat.divInt a (n : Int) = mkRat a n := rfl
  have hn : n ≠ 0 := by omega
  rw [Int.natAbs_natCast] at hb2
  rw [e]
  unfold sz
  rw [Rat.num_mkRat, Rat.den_mkRat, if_neg hn, if_neg hn]
  exact ⟨Nat.lt_of_le_of_lt (Int.natAbs_ediv_le_natAbs _ _) h, Nat.lt_of_le_of_lt (Nat.div_le_self _ _) hb2⟩
theorem pw {a b n m : Nat} (h : a < 2 ^ n) (g : b < 2 ^ m) : a * b < 2 ^ (n + m) := by
  rw [Nat.pow_add]
  exact Nat.mul_lt_mul'' h g
theorem sz_up {n m : Nat} {p : Rat} (h : sz n p) (e : n ≤ m) : sz m p := ⟨Nat.lt_of_lt_of_le h.1 (Nat.pow_le_pow_right (by decide) e), Nat.lt_of_lt_of_le h.2 (Nat.pow_le_pow_right (by decide) e)⟩
theorem dd_pos (p r : Rat) : 0 < (p.den : Int) * (r.den : Int) := Int.mul_pos (by have := p.den_pos; omega) (by have := r.den_pos; omega)
theorem sz_mul {n m : Nat} {p r : Rat} (h : sz n p) (g : sz m r) : sz (n + m) (p * r) := by
  rw [← rat_mul]
  refine sz_dv ?_ (dd_pos p r) ?_
  · rw [Int.natAbs_mul]
    exact pw h.1 g.1
  · rw [Int.natAbs_mul, Int.natAbs_natCast, Int.natAbs_natCast]
    exact pw h.2 g.2
theorem sz_add {n m : Nat} {p r : Rat} (h : sz n p) (g : sz m r) : sz (n + m + 1) (p + r) := by
  rw [← rat_add]
  have h1 := pw h.1 g.2
  have h2 := pw g.1 h.2
  rw [Nat.add_comm m n] at h2
  have e2 : (2 : Nat) ^ (n + m + 1) = 2 ^ (n + m) * 2 := Nat.pow_succ ..
  have h3 := pw h.2 g.2
  refine sz_dv ?_ (dd_pos p r) ?_
  · rw [e2]
    refine Nat.lt_of_le_of_lt (Int.natAbs_add_le _ _) ?_
    rw [Int.natAbs_mul, Int.natAbs_mul, Int.natAbs_natCast, Int.natAbs_natCast]
    omega
  · rw [Int.natAbs_mul, Int.natAbs_natCast, Int.natAbs_natCast, e2]
    omega
theorem sz_sub {n m : Nat} {p r : Rat} (h : sz n p) (g : sz m r) : sz (n + m + 1) (p - r) := by
  rw [Rat.sub_eq_add_neg]
  exact sz_add h (sz_neg g)
theorem sz_abs {n : Nat} {p : Rat} (h : sz n p) : sz n (absQ p) := by
  unfold absQ
  split
  · exact sz_neg h
  · exact h
theorem sz_int {n : Nat} {i : Int} (h : i.natAbs < 2 ^ n) (hn : 0 < n) : sz n (i : Rat) := ⟨h, by
  show 1 < 2 ^ n
  exact Nat.one_lt_two_pow (by omega)⟩

section
variable {S : Sy} {sd : SD} {W : Wd} {Q : QD} {E : QX} {p r : Rat} {c d : D} {MR : Mts}
theorem spBin_inv {f : Rat → Rat → Rat} {E : QD} (h : toQ d = some r) (q : spBin f [amt p, d] W Q E) : Q (amt (f p r)) W := by
  have q' : kSome (amQ (amt p)) fun p => kSome (toQ d) fun q => SZ p ∧ SZ q ∧ Q (amt (f p q)) W := q
  rw [amQ_amt, h] at q'
  exact q'.2.2
theorem spCm_inv {f : Rat → Rat → Bool} {E : QD} (h : toQ d = some r) (q : spCm f [amt p, d] W Q E) : Q (.bl (f p r)) W := by
  have q' : kSome (amQ (amt p)) fun p => kSome (toQ d) fun q => SZ p ∧ SZ q ∧ Q (.bl (f p q)) W := q
  rw [amQ_amt, h] at q'
  exact q'.2.2
theorem tAdd_aq (h : toQ d = some r) (h0 : 0 ∈ S.cl) (zp : SZ p) (zr : SZ r) : Mv.tAdd (mAdd S) MR (amt p) d sd W Q E = Q (amt (p + r)) W := by
  refine propext ⟨fun q => ?_, oAdd h0 h zp zr⟩
  rw [toA] at q
  obtain ⟨_, _, _, _, _, q⟩ := q
  exact spBin_inv (f := fun p q => p + q) h q
theorem tMul_aq (h : toQ d = some r) (h0 : 0 ∈ S.cl) (zp : SZ p) (zr : SZ r) : Mv.tMul (mMul S) MR (amt p) d sd W Q E = Q (amt (p * r)) W := by
  refine propext ⟨fun q => ?_, oMul h0 h zp zr⟩
  rw [toM] at q
  obtain ⟨_, _, _, _, _, q⟩ := q
  exact spBin_inv (f := fun p q => p * q) h q
theorem tSub_aq (h : toQ d = some r) (h0 : 0 ∈ S.cl) (zp : SZ p) (zr : SZ r) : Mv.tSub (mSub S) MR (amt p) d sd W Q E = Q (amt (p - r)) W := by
  refine propext ⟨fun q => ?_, oSub h0 h zp zr⟩
  rw [toS] at q
  obtain ⟨_, _, _, _, _, q⟩ := q
  exact spBin_inv (f := fun p q => p - q) h q
theorem tCm_o {sp : Sy → DSp} {g : Int → Int → Bool} : tCm (mt1 2 sp S) MR g (amt p) d sd W Q E = rOwn (mt1 2 sp S) rhsIS (amt p) d sd W Q E := by cases d <;> rfl
theorem tCm_q {sp : Sy → DSp} {g : Int → Int → Bool} {f : Rat → Rat → Bool} (hs : ∀ ds W (Q E : QD), sp S ds W Q E = (0 ∈ S.cl ∧ spCm f ds W Q E)) (h : toQ d = some r) (h0 : 0 ∈ S.cl) (zp : SZ p) (zr : SZ r) : tCm (mt1 2 sp S) MR g (amt p) d sd W Q E = Q (.bl (f p r)) W := by
  refine propext ⟨fun q => ?_, oCm (fun Q E z => by rw [hs]; exact ⟨h0, z⟩) h zp zr⟩
  rw [tCm_o] at q
  obtain ⟨_, _, _, _, q⟩ := q
  have q2 : sp S [amt p, d] W Q (fun x W' => E x sd W') := q
  rw [hs] at q2
  exact spCm_inv (f := f) h q2.2
theorem tLt_aq {g : Int → Int → Bool} (h : toQ d = some r) (h0 : 0 ∈ S.cl) (zp : SZ p) (zr : SZ r) : tCm (mLt S) MR g (amt p) d sd W Q E = Q (.bl (decide (p < r))) W := tCm_q (sp := sp_Amount_lt) (fun _ _ _ _ => rfl) h h0 zp zr
theorem tLe_aq {g : Int → Int → Bool} (h : toQ d = some r) (h0 : 0 ∈ S.cl) (zp : SZ p) (zr : SZ r) : tCm (mLe S) MR g (amt p) d sd W Q E = Q (.bl (decide (p ≤ r))) W := tCm_q (sp := sp_Amount_le) (fun _ _ _ _ => rfl) h h0 zp zr
theorem tGt_aq {g : Int → Int → Bool} (h : toQ d = some r) (h0 : 0 ∈ S.cl) (zp : SZ p) (zr : SZ r) : tCm (mGt S) MR g (amt p) d sd W Q E = Q (.bl (decide (r < p))) W := tCm_q (sp := sp_Amount_gt) (fun _ _ _ _ => rfl) h h0 zp zr
theorem tGe_aq {g : Int → Int → Bool} (h : toQ d = some r) (h0 : 0 ∈ S.cl) (zp : SZ p) (zr : SZ r) : tCm (mGe S) MR g (amt p) d sd W Q E = Q (.bl (decide (r ≤ p))) W := tCm_q (sp := sp_Amount_ge) (fun _ _ _ _ => rfl) h h0 zp zr
/-! ### - x, abs(x), x.over(y): named readings -/
def negK (M : Mts) (d : D) (sd : SD) (W : Wd) (Q : QD) (E : QX) : Prop := match d with
  | .int i => Q (.int (-i)) W
  | d => kIns W d fun c _ => c ∈ M.l ∧ dfl (M.n c) (M.dd c) [d] fun ds' => M.sp c ds' W Q (fun x W' => E x sd W')
theorem dNegO_k {M : Mts} {t : DE} : dNegO M t sd W Q E = t sd W (fun d W1 => negK M d sd W1 Q E) E := by
  unfold dNegO
  congr 1
theorem spUn_inv {f : Rat → Rat} {E : QD} (q : spUn f [amt p] W Q E) : Q (amt (f p)) W := by
  have q' : kSome (amQ (amt p)) fun p => SZ p ∧ Q (amt (f p)) W := q
  rw [amQ_amt] at q'
  exact q'.2
theorem spUn_mk {f : Rat → Rat} {E : QD} (zp : SZ p) (q : Q (amt (f p)) W) : spUn f [amt p] W Q E := by
  show kSome (amQ (amt p)) _
  rw [amQ_amt]
  exact ⟨zp, q⟩
theorem negK_amt (h0 : 0 ∈ S.cl) (zp : SZ p) : negK (mNeg S) (amt p) sd W Q E = Q (amt (-p)) W :=
  propext ⟨fun ⟨_, _, _, q⟩ => spUn_inv (f := fun p => -p) (E := fun x W' => E x sd W') q.2, fun q => ⟨List.mem_singleton.mpr rfl, Nat.le_refl _, Nat.le_refl _, h0, spUn_mk (f := fun p => -p) zp q⟩⟩
theorem isOwnA : isOwn W (amt p) = true := rfl
theorem isOwnI {i : Int} : isOwn W (.int i) = false := rfl
theorem over_q {E : QD} (h : toQ d = some r) (h0 : 0 ∈ S.cl) (hr : r ≠ 0) (zp : SZ p) (zr : SZ r) : sp_Amount_over S [amt p, d] W Q E = Q (amt (p / r)) W := by
  have e : sp_Amount_over S [amt p, d] W Q E = (0 ∈ S.cl ∧ kSome (amQ (amt p)) fun p => kSome (toQ d) fun q => if q = 0 then E (badA "other") W else SZ p ∧ SZ q ∧ Q (amt (p / q)) W) := rfl
  rw [e, amQ_amt, h]
  show (0 ∈ S.cl ∧ if r = 0 then _ else _) = _
  rw [if_neg hr]
  exact propext ⟨fun q => q.2.2.2, fun q => ⟨h0, zp, zr, q⟩⟩
theorem over_x {E : QD} (h : toQ d = some r) (h0 : 0 ∈ S.cl) (hr : r = 0) : sp_Amount_over S [amt p, d] W Q E = E (badA "other") W := by
  have e : sp_Amount_over S [amt p, d] W Q E = (0 ∈ S.cl ∧ kSome (amQ (amt p)) fun p => kSome (toQ d) fun q => if q = 0 then E (badA "other") W else SZ p ∧ SZ q ∧ Q (amt (p / q)) W) := rfl
  rw [e, amQ_amt, h]
  show (0 ∈ S.cl ∧ if r = 0 then _ else _) = _
  rw [if_pos hr]
  exact propext ⟨fun q => q.2, fun q => ⟨h0, q⟩⟩
theorem abs_q {E : QD} (h0 : 0 ∈ S.cl) (zp : SZ p) : sp_Amount_abs S [amt p] W Q E = Q (amt (absQ p)) W :=
  propext ⟨fun q => spUn_inv (f := absQ) q.2, fun q => ⟨h0, spUn_mk (f := absQ) zp q⟩⟩
end

/-! ## equations of the operators' readings, every one at an amount -/
section
variable {S : Sy} {sd : SD} {W : Wd} {Q : QD} {E : QX} {p r : Rat} {c d : D} {M MR : Mts} {i : Int}
theorem rOwn_q {sp : Sy → DSp} (h : toQ d = some r) : rOwn (mt1 2 sp S) rhsIS (amt p) d sd W Q E = sp S [amt p, d] W Q (fun x W' => E x sd W') :=
  propext ⟨fun ⟨_, _, _, _, q⟩ => q, own_amt h⟩
theorem rOwnR_q {sp : Sy → DSp} : rOwnR (mt1 2 sp S) isInt (.int i) (amt p) sd W Q E = sp S [amt p, .int i] W Q (fun x W' => E x sd W') :=
  propext ⟨fun ⟨_, _, _, _, q⟩ => q, own_amtR⟩
theorem spBin_q {f : Rat → Rat → Rat} {E : QD} (h : toQ d = some r) (zp : SZ p) (zr : SZ r) : spBin f [amt p, d] W Q E = Q (amt (f p r)) W :=
  propext ⟨spBin_inv h, spBin_Q h zp zr⟩
theorem spCm_q {f : Rat → Rat → Bool} {E : QD} (h : toQ d = some r) (zp : SZ p) (zr : SZ r) : spCm f [amt p, d] W Q E = Q (.bl (f p r)) W :=
  propext ⟨spCm_inv h, spCm_Q h zp zr⟩
theorem tAdd_iq (h0 : 0 ∈ S.cl) (zp : SZ p) (zr : SZ (i : Rat)) : Mv.tAdd M (mRadd S) (.int i) (amt p) sd W Q E = Q (amt (i + p)) W := by
  rw [show Mv.tAdd M (mRadd S) (.int i) (amt p) sd W Q E = rOwnR (mt1 2 sp_Amount_radd S) isInt (.int i) (amt p) sd W Q E from rfl, rOwnR_q]
  exact propext ⟨fun q => spBin_inv (f := fun p q => q + p) (r := (i : Rat)) rfl q.2, fun q => ⟨h0, spBin_Q (f := fun p q => q + p) (r := (i : Rat)) rfl zp zr q⟩⟩
theorem tMul_iq (h0 : 0 ∈ S.cl) (zp : SZ p) (zr : SZ (i : Rat)) : Mv.tMul M (mRmul S) (.int i) (amt p) sd W Q E = Q (amt (i * p)) W := by
  rw [show Mv.tMul M (mRmul S) (.int i) (amt p) sd W Q E = rOwnR (mt1 2 sp_Amount_rmul S) isInt (.int i) (amt p) sd W Q E from rfl, rOwnR_q]
  exact propext ⟨fun q => spBin_inv (f := fun p q => q * p) (r := (i : Rat)) rfl q.2, fun q => ⟨h0, spBin_Q (f := fun p q => q * p) (r := (i : Rat)) rfl zp zr q⟩⟩
theorem tSub_iq (h0 : 0 ∈ S.cl) (zp : SZ p) (zr : SZ (i : Rat)) : Mv.tSub M (mRsub S) (.int i) (amt p) sd W Q E = Q (amt (i - p)) W := by
  rw [show Mv.tSub M (mRsub S) (.int i) (amt p) sd W Q E = rOwnR (mt1 2 sp_Amount_rsub S) isInt (.int i) (amt p) sd W Q E from rfl, rOwnR_q]
  exact propext ⟨fun q => spBin_inv (f := fun p q => q - p) (r := (i : Rat)) rfl q.2, fun q => ⟨h0, spBin_Q (f := fun p q => q - p) (r := (i : Rat)) rfl zp zr q⟩⟩
theorem tCm_iq {sp : Sy → DSp} {g : Int → Int → Bool} {f : Rat → Rat → Bool} (hs : ∀ ds W (Q E : QD), sp S ds W Q E = (0 ∈ S.cl ∧ spCm f ds W Q E)) (h0 : 0 ∈ S.cl) (zp : SZ p) (zr : SZ (i : Rat)) : tCm M (mt1 2 sp S) g (.int i) (amt p) sd W Q E = Q (.bl (f p i)) W := by
  rw [show tCm M (mt1 2 sp S) g (.int i) (amt p) sd W Q E = rOwnR (mt1 2 sp S) isInt (.int i) (amt p) sd W Q E from rfl, rOwnR_q, hs]
  exact propext ⟨fun q => spCm_inv (f := f) (r := (i : Rat)) rfl q.2, fun q => ⟨h0, spCm_Q (f := f) (r := (i : Rat)) rfl zp zr q⟩⟩
theorem tLt_iq {g : Int → Int → Bool} (h0 : 0 ∈ S.cl) (zp : SZ p) (zr : SZ (i : Rat)) : tCm M (mGt S) g (.int i) (amt p) sd W Q E = Q (.bl (decide ((i : Rat) < p))) W := tCm_iq (sp := sp_Amount_gt) (f := fun p q => decide (q < p)) (fun _ _ _ _ => rfl) h0 zp zr
theorem tLe_iq {g : Int → Int → Bool} (h0 : 0 ∈ S.cl) (zp : SZ p) (zr : SZ (i : Rat)) : tCm M (mGe S) g (.int i) (amt p) sd W Q E = Q (.bl (decide ((i : Rat) ≤ p))) W := tCm_iq (sp := sp_Amount_ge) (f := fun p q => decide (q ≤ p)) (fun _ _ _ _ => rfl) h0 zp zr
theorem tGt_iq {g : Int → Int → Bool} (h0 : 0 ∈ S.cl) (zp : SZ p) (zr : SZ (i : Rat)) : tCm M (mLt S) g (.int i) (amt p) sd W Q E = Q (.bl (decide (p < (i : Rat)))) W := tCm_iq (sp := sp_Amount_lt) (f := fun p q => decide (p < q)) (fun _ _ _ _ => rfl) h0 zp zr
theorem tGe_iq {g : Int → Int → Bool} (h0 : 0 ∈ S.cl) (zp : SZ p) (zr : SZ (i : Rat)) : tCm M (mLe S) g (.int i) (amt p) sd W Q E = Q (.bl (decide (p ≤ (i : Rat)))) W := tCm_iq (sp := sp_Amount_le) (f := fun p q => decide (p ≤ q)) (fun _ _ _ _ => rfl) h0 zp zr
theorem fdv_eq {E : QD} : sp_Amount_floordiv S [amt p, d] W Q E = (0 ∈ S.cl ∧ kSome (amQ (amt p)) fun p => kSome (toQ d) fun q => if q ≤ 0 then E (badA "other") W else SZ p ∧ SZ q ∧ Q (.int (flQ p q)) W) := rfl
theorem mod_eq {E : QD} : sp_Amount_mod S [amt p, d] W Q E = (0 ∈ S.cl ∧ kSome (amQ (amt p)) fun p => kSome (toQ d) fun q => if q ≤ 0 then E (badA "other") W else SZ p ∧ SZ q ∧ Q (amt (p - flQ p q * q)) W) := rfl
theorem tFdiv_aq (h : toQ d = some r) (h0 : 0 ∈ S.cl) (hr : 0 < r) (zp : SZ p) (zr : SZ r) : tFdiv (mFdv S) (amt p) d sd W Q E = Q (.int (flQ p r)) W := by
  rw [show tFdiv (mFdv S) (amt p) d sd W Q E = rOwn (mt1 2 sp_Amount_floordiv S) rhsIS (amt p) d sd W Q E by cases d <;> rfl, rOwn_q h, fdv_eq, amQ_amt, h]
  show (0 ∈ S.cl ∧ if r ≤ 0 then _ else _) = _
  rw [if_neg (Rat.not_le.mpr hr)]
  exact propext ⟨fun q => q.2.2.2, fun q => ⟨h0, zp, zr, q⟩⟩
theorem tFdiv_x (h : toQ d = some r) (h0 : 0 ∈ S.cl) (hr : r ≤ 0) : tFdiv (mFdv S) (amt p) d sd W Q E = E (badA "other") sd W := by
  rw [show tFdiv (mFdv S) (amt p) d sd W Q E = rOwn (mt1 2 sp_Amount_floordiv S) rhsIS (amt p) d sd W Q E by cases d <;> rfl, rOwn_q h, fdv_eq, amQ_amt, h]
  show (0 ∈ S.cl ∧ if r ≤ 0 then _ else _) = _
  rw [if_pos hr]
  exact propext ⟨fun q => q.2, fun q => ⟨h0, q⟩⟩
theorem tMod_x (h : toQ d = some r) (h0 : 0 ∈ S.cl) (hr : r ≤ 0) : tMod (mMod S) (amt p) d sd W Q E = E (badA "other") sd W := by
  rw [show tMod (mMod S) (amt p) d sd W Q E = rOwn (mt1 2 sp_Amount_mod S) rhsIS (amt p) d sd W Q E by cases d <;> rfl, rOwn_q h, mod_eq, amQ_amt, h]
  show (0 ∈ S.cl ∧ if r ≤ 0 then _ else _) = _
  rw [if_pos hr]
  exact propext ⟨fun q => q.2, fun q => ⟨h0, q⟩⟩
theorem tMod_aq (h : toQ d = some r) (h0 : 0 ∈ S.cl) (hr : 0 < r) (zp : SZ p) (zr : SZ r) : tMod (mMod S) (amt p) d sd W Q E = Q (amt (p - flQ p r * r)) W := by
  rw [show tMod (mMod S) (amt p) d sd W Q E = rOwn (mt1 2 sp_Amount_mod S) rhsIS (amt p) d sd W Q E by cases d <;> rfl, rOwn_q h, mod_eq, amQ_amt, h]
  show (0 ∈ S.cl ∧ if r ≤ 0 then _ else _) = _
  rw [if_neg (Rat.not_le.mpr hr)]
  exact propext ⟨fun q => q.2.2.2, fun q => ⟨h0, zp, zr, q⟩⟩
/-! ### over, abs, str, of, the class called -/
def overK (S : Sy) (d e : D) (sd : SD) (W : Wd) (Q : QD) (E : QX) : Prop := sp_Amount_over S [d, e] W Q (fun x W' => E x sd W')
theorem dOver_k {ta tb : DE} : dMeth (mOver S) ta (dCons tb dNil) sd W Q E = ta sd W (fun d W1 => kIns W1 d fun c _ => c ∈ [0] ∧ tb sd W1 (fun e W2 => overK S d e sd W2 Q E) E) E := by
  show (ta sd W (fun d W1 => kIns W1 d fun c _ => c ∈ [0] ∧ tb sd W1 (fun e W2 => dfl 2 [] [d, e] fun ds' => sp_Amount_over S ds' W2 Q (fun x W' => E x sd W')) E) E) = _
  congr 1
  funext d W1
  congr 1
  funext c _
  congr 2
  funext e W2
  rw [dfl_e0]
  exact propext ⟨fun q => q.2.2, fun q => ⟨Nat.le_refl _, Nat.le_refl _, q⟩⟩
theorem overK_x (h : toQ d = some r) (h0 : 0 ∈ S.cl) (hr : r = 0) : overK S (amt p) d sd W Q E = E (badA "other") sd W := over_x (E := fun x W' => E x sd W') h h0 hr
theorem overK_q (h : toQ d = some r) (h0 : 0 ∈ S.cl) (hr : r ≠ 0) (zp : SZ p) (zr : SZ r) : overK S (amt p) d sd W Q E = Q (amt (p / r)) W := over_q h h0 hr zp zr
def absK (S : Sy) (d : D) (sd : SD) (W : Wd) (Q : QD) (E : QX) : Prop := if isOwn W d = true then kIns W d fun c _ => c ∈ (mAbs S).l ∧ dfl ((mAbs S).n c) ((mAbs S).dd c) [d] fun ds' => (mAbs S).sp c ds' W (fun y W2 => kSome (some y) fun z => Q z W2) (fun x W' => E x sd W') else rAbsD [d] W Q
theorem dAbs_k {t : DE} : dB1 (mAbs S) some rAbsD t sd W Q E = t sd W (fun d W1 => absK S d sd W1 Q E) E := rfl
theorem absK_q (h0 : 0 ∈ S.cl) (zp : SZ p) : absK S (amt p) sd W Q E = Q (amt (absQ p)) W := by
  have e : absK S (amt p) sd W Q E = (0 ∈ [0] ∧ 1 ≤ 1 ∧ 1 ≤ 1 ∧ sp_Amount_abs S [amt p] W Q (fun x W' => E x sd W')) := rfl
  rw [e, abs_q h0 zp]
  exact propext ⟨fun q => q.2.2.2, fun q => ⟨List.mem_singleton.mpr rfl, Nat.le_refl _, Nat.le_refl _, q⟩⟩
def strK (S : Sy) (d : D) (sd : SD) (W : Wd) (Q : QD) (E : QX) : Prop := if isOwn W d = true then kIns W d fun c _ => c ∈ (mStr S).l ∧ dfl ((mStr S).n c) ((mStr S).dd c) [d] fun ds' => (mStr S).sp c ds' W (fun y W2 => kSome (isStr y) fun z => Q z W2) (fun x W' => E x sd W') else rStrD [d] W Q
theorem dStr_k {t : DE} : dB1 (mStr S) isStr rStrD t sd W Q E = t sd W (fun d W1 => strK S d sd W1 Q E) E := rfl
theorem strK_q (zp : SZs p) : strK S (amt p) sd W Q E = Q (.str (qStr p)) W := by
  have e : strK S (amt p) sd W Q E = (0 ∈ [0] ∧ 1 ≤ 1 ∧ 1 ≤ 1 ∧ kSome (amQ (amt p)) fun p => SZs p ∧ Q (.str (qStr p)) W) := rfl
  rw [e, amQ_amt]
  exact propext ⟨fun q => q.2.2.2.2, fun q => ⟨List.mem_singleton.mpr rfl, Nat.le_refl _, Nat.le_refl _, zp, q⟩⟩
theorem of_q {E : QD} (h0 : 0 ∈ S.cl) (h : toQ d = some r) : sp_Amount_of S [d] W Q E = Q (amt r) W := by
  have e : sp_Amount_of S [d] W Q E = (knD S W d ∧ 0 ∈ S.cl ∧ (match toQ d with
    | some q => Q (amt q) W
    | none => E (badA "value") W)) := rfl
  rw [e, h]
  exact propext ⟨fun q => q.2.2, fun q => ⟨knQ h0 h, h0, q⟩⟩
theorem of_x {E : QD} (h0 : 0 ∈ S.cl) (hk : knD S W d) (h : toQ d = none) : sp_Amount_of S [d] W Q E = E (badA "value") W := by
  have e : sp_Amount_of S [d] W Q E = (knD S W d ∧ 0 ∈ S.cl ∧ (match toQ d with
    | some q => Q (amt q) W
    | none => E (badA "value") W)) := rfl
  rw [e, h]
  exact propext ⟨fun q => q.2.2, fun q => ⟨hk, h0, q⟩⟩
/-! ### total, least, greatest -/
variable {qs : List Rat} {xs : List D}
theorem total_q {E : QD} (h : qsD xs = some qs) (h0 : 0 ∈ S.cl) (h1 : ∀ i, SZ (sumQ (qs.take i))) (h2 : ∀ q ∈ qs, SZ q) : sp_Amount_total S [.lst xs] W Q E = Q (amt (sumQ qs)) W := by
  have e : sp_Amount_total S [.lst xs] W Q E = (0 ∈ S.cl ∧ kSome (qsD xs) fun qs => (∀ i, SZ (sumQ (qs.take i))) ∧ (∀ q ∈ qs, SZ q) ∧ Q (amt (sumQ qs)) W) := rfl
  rw [e, h]
  exact propext ⟨fun q => q.2.2.2, fun q => ⟨h0, h1, h2, q⟩⟩
theorem least_q {E : QD} (h : qsD xs = some qs) (h0 : 0 ∈ S.cl) (h1 : qs ≠ []) (h2 : ∀ q ∈ qs, SZ q) : sp_Amount_least S [.lst xs] W Q E = Q (amt (leastQ qs)) W := by
  have e : sp_Amount_least S [.lst xs] W Q E = (0 ∈ S.cl ∧ kSome (qsD xs) fun qs => qs ≠ [] ∧ (∀ q ∈ qs, SZ q) ∧ Q (amt (leastQ qs)) W) := rfl
  rw [e, h]
  exact propext ⟨fun q => q.2.2.2, fun q => ⟨h0, h1, h2, q⟩⟩
theorem most_q {E : QD} (h : qsD xs = some qs) (h0 : 0 ∈ S.cl) (h1 : qs ≠ []) (h2 : ∀ q ∈ qs, SZ q) : sp_Amount_greatest S [.lst xs] W Q E = Q (amt (mostQ qs)) W := by
  have e : sp_Amount_greatest S [.lst xs] W Q E = (0 ∈ S.cl ∧ kSome (qsD xs) fun qs => qs ≠ [] ∧ (∀ q ∈ qs, SZ q) ∧ Q (amt (mostQ qs)) W) := rfl
  rw [e, h]
  exact propext ⟨fun q => q.2.2.2, fun q => ⟨h0, h1, h2, q⟩⟩
theorem qsD_cs {q : Rat} {ds : List D} (h : qsD ds = some qs) : qsD (amt q :: ds) = some (q :: qs) := by
  simp only [qsD, toQ_amt, h]
theorem qsD_amt : ∀ qs : List Rat, qsD (qs.map amt) = some qs
  | [] => rfl
  | q :: qs => by rw [List.map_cons]; exact qsD_cs (qsD_amt qs)
theorem qsD3 {a b c : Rat} : qsD [amt a, amt b, amt c] = some [a, b, c] := qsD_amt [a, b, c]
theorem dpA (p : Rat) : ((amt p).dp ≤ 6) = True := propext ⟨fun _ => trivial, fun _ => by show max 0 _ ≤ 6; decide⟩
theorem dpA0 (p : Rat) : (amt p).dp = 0 := rfl
theorem neg_neg_dv {a b : Int} : Rat.divInt (-a) (-b) = Rat.divInt a b := by
  rw [Rat.divInt_eq_div, Rat.divInt_eq_div]
  grind
theorem sz_dvn {k : Nat} {a b : Int} (h : a.natAbs < 2 ^ k) (hb : b ≠ 0) (hb2 : b.natAbs < 2 ^ k) : sz k (Rat.divInt a b) := by
  by_cases hp : 0 < b
  · exact sz_dv h hp hb2
  · rw [← neg_neg_dv]
    exact sz_dv (by rw [Int.natAbs_neg]; exact h) (by omega) (by rw [Int.natAbs_neg]; exact hb2)
theorem sz_over {n m : Nat} {p r : Rat} (h : sz n p) (g : sz m r) (h0 : r ≠ 0) : sz (n + m) (p / r) := by
  rw [← rat_div h0]
  have hn : r.num ≠ 0 := fun e => h0 (Rat.num_eq_zero.mp e)
  refine sz_dvn ?_ (Int.mul_ne_zero (denz p) hn) ?_
  · rw [Int.natAbs_mul]
    exact pw h.1 g.2
  · rw [Int.natAbs_mul]
    exact pw h.2 g.1
end

theorem absQ_nn {a : Rat} (h : 0 ≤ a) : absQ a = a := if_neg (Rat.not_lt.mpr h)
theorem absQ_np {a : Rat} (h : a ≤ 0) : absQ a = -a := by
  unfold absQ
  split
  · rfl
  · grind
theorem absQ_mul (a b : Rat) : absQ (a * b) = absQ a * absQ b := by
  rcases Rat.le_total (a := 0) (b := a) with h | h <;> rcases Rat.le_total (a := 0) (b := b) with g | g
  · rw [absQ_nn h, absQ_nn g, absQ_nn (Rat.mul_nonneg h g)]
  · have := Rat.mul_nonneg h (show 0 ≤ -b by grind)
    rw [absQ_nn h, absQ_np g, absQ_np (show a * b ≤ 0 by grind)]
    grind
  · have := Rat.mul_nonneg (show 0 ≤ -a by grind) g
    rw [absQ_np h, absQ_nn g, absQ_np (show a * b ≤ 0 by grind)]
    grind
  · have := Rat.mul_nonneg (show 0 ≤ -a by grind) (show 0 ≤ -b by grind)
    rw [absQ_np h, absQ_np g, absQ_nn (show 0 ≤ a * b by grind)]
    grind
theorem eqB {q : EqI} (a b : Bool) : eqD q (.bl a) (.bl b) = some (a == b) := by cases a <;> cases b <;> rfl
theorem dpB (a : Bool) : ((D.bl a).dp ≤ 6) = True := propext ⟨fun _ => trivial, fun _ => Nat.zero_le _⟩
theorem kLi_lst {W : Wd} {ds : List D} {k : LiD → Prop} : kLi W (.lst ds) k = k ⟨ds, none⟩ := rfl
theorem okN {ds : List D} : (LiD.mk ds none).ok = fun _ => True := rfl
theorem compD_n {p : Addr} {ok : Wd → Prop} {g : DG} {tt : DT} {te : DE} {sd : SD} {K : List D → Wd → Prop} {acc : List D} {W : Wd} : compD p ok g tt te sd K [] acc W = (ok W ∧ W p = some (.lst acc) ∧ K acc W) := rfl
theorem compD_c {p : Addr} {ok : Wd → Prop} {g : DG} {tt : DT} {te : DE} {sd : SD} {K : List D → Wd → Prop} {d : D} {ds acc : List D} {W : Wd} : compD p ok g tt te sd K (d :: ds) acc W = (ok W ∧ g d sd W (fun sd1 W1 => tt sd1 W1 (fun b W2 => if b = true then te sd1 W2 (fun x W3 => W3 p = some (.lst acc) ∧ acc.length < 1000000 ∧ compD p ok g tt te sd K ds (acc ++ [x]) (put W3 p (.lst (acc ++ [x])))) E2F else compD p ok g tt te sd K ds acc W2) E2F)) := rfl
theorem tIn_lst {q : EqI} {neg : Bool} {n : Nat} {c : D} {ds : List D} {sd : SD} {W : Wd} {Q : QD} {E : QX} : tIn q neg n c (.lst ds) sd W Q E = (dps ds ≤ n ∧ ds.length ≤ 1000000 ∧ kSome (anyQ q c ds) fun b => Q (.bl (if neg = true then !b else b)) W) := rfl
theorem tIn_tup {q : EqI} {neg : Bool} {n : Nat} {c : D} {ds : List D} {sd : SD} {W : Wd} {Q : QD} {E : QX} : tIn q neg n c (.tup ds) sd W Q E = (dps ds ≤ n ∧ ds.length ≤ 1000000 ∧ kSome (anyQ q c ds) fun b => Q (.bl (if neg = true then !b else b)) W) := rfl
theorem dps3 {a b c : Rat} : (dps [amt a, amt b, amt c] ≤ 6) = True := by
  simp only [dps, dpA0]
  decide
theorem dYes_e {sd : SD} {W : Wd} {Q : Bool → Wd → Prop} {E : QX} : dYes sd W Q E = Q true W := rfl
theorem any3 {cl : List Nat} {a b c m : Rat} (h0 : 0 ∈ cl) (h : m = a ∨ m = b ∨ m = c) : anyQ (qA cl) (amt m) [amt a, amt b, amt c] = some true := by
  simp only [anyQ, eqD_amt h0]
  by_cases h1 : a = m
  · simp [h1]
  · by_cases h2 : b = m
    · simp [h1, h2]
    · have h3 : c = m := by
        rcases h with h | h | h
        · exact absurd h.symm h1
        · exact absurd h.symm h2
        · exact h.symm
      simp [h1, h2, h3]
theorem least3 (a b c : Rat) : ∃ m, leastQ [a, b, c] = m ∧ (m = a ∨ m = b ∨ m = c) ∧ ¬ a < m ∧ ¬ b < m ∧ ¬ c < m := by
  refine ⟨_, rfl, ?_⟩
  simp only [leastQ, List.foldl]
  by_cases h1 : b < a
  · simp only [if_pos h1]
    by_cases h2 : c < b
    · simp only [if_pos h2]; grind
    · simp only [if_neg h2]; grind
  · simp only [if_neg h1]
    by_cases h2 : c < a
    · simp only [if_pos h2]; grind
    · simp only [if_neg h2]; grind
theorem most3 (a b c : Rat) : ∃ m, mostQ [a, b, c] = m ∧ (m = a ∨ m = b ∨ m = c) ∧ ¬ m < a ∧ ¬ m < b ∧ ¬ m < c := by
  refine ⟨_, rfl, ?_⟩
  simp only [mostQ, List.foldl]
  by_cases h1 : a < b
  · simp only [if_pos h1]
    by_cases h2 : b < c
    · simp only [if_pos h2]; grind
    · simp only [if_neg h2]; grind
  · simp only [if_neg h1]
    by_cases h2 : a < c
    · simp only [if_pos h2]; grind
    · simp only [if_neg h2]; grind
theorem eqNil {q : EqI} : eqD q (.lst []) (.lst []) = some true := rfl
theorem dpNil : ((D.lst []).dp ≤ 6) = True := propext ⟨fun _ => trivial, fun _ => by show max 0 _ + 1 ≤ 6; decide⟩
theorem dSeq_step {s r : DS} {D : DEnds} {sd sd' : SD} {W W' : Wd} {E : QX} (h : ∀ D', s D' sd W E = D'.nx sd' W') (q : r D sd' W' E) : dSeq s r D sd W E := by
  show s { D with nx := fun sd' W' => r D sd' W' E } sd W E
  rw [h]
  exact q
theorem dSeq_stepI {s r : DS} {D : DEnds} {sd sd' : SD} {W W' : Wd} {E : QX} (h : ∀ D' : DEnds, D'.nx sd' W' → s D' sd W E) (q : r D sd' W' E) : dSeq s r D sd W E := h _ q
theorem flQ_spec {p s : Rat} (hs : 0 < s) : (flQ p s : Rat) * s ≤ p ∧ p < ((flQ p s : Rat) + 1) * s := by
  have hsn : 0 < s.num := by
    have := Rat.lt_iff 0 s
    simpa using this.mp hs
  have hD : 0 < (p.den : Int) * s.num := Int.mul_pos (by have := p.den_pos; omega) hsn
  generalize hk : flQ p s = k
  have k1 : (p.den : Int) * s.num * k ≤ p.num * s.den := by rw [← hk]; exact Int.mul_ediv_self_le (by omega)
  have k2 : p.num * s.den < (p.den : Int) * s.num * k + (p.den : Int) * s.num := by rw [← hk]; exact Int.lt_mul_ediv_self_add hD
  have r1 := Rat.intCast_le_intCast.mpr k1
  have r2 := Rat.intCast_lt_intCast.mpr k2
  simp only [Rat.intCast_mul, Rat.intCast_add] at r1 r2
  have ep := rat_nd p
  have es := rat_nd s
  have dp := denR p
  have ds := denR s
  have px : (0 : Rat) < ((p.den : Int) : Rat) := Rat.intCast_lt_intCast.mpr (show (0 : Int) < p.den by have := p.den_pos; omega)
  have sx : (0 : Rat) < ((s.den : Int) : Rat) := Rat.intCast_lt_intCast.mpr (show (0 : Int) < s.den by have := s.den_pos; omega)
  generalize ((p.den : Int) : Rat) = x at *
  generalize ((s.den : Int) : Rat) = y at *
  generalize (p.num : Rat) = n at *
  generalize (s.num : Rat) = m at *
  generalize (k : Rat) = K at *
  have hxy := Rat.mul_pos px sx
  have e1 : p * (x * y) = n * y := by rw [ep]; grind
  have e2 : s * (x * y) = m * x := by rw [es]; grind
  constructor
  · refine Rat.not_lt.mp fun g => ?_
    have := Rat.mul_lt_mul_of_pos_right g hxy
    have e3 : K * s * (x * y) = K * (m * x) := by rw [Rat.mul_assoc, e2]
    rw [e1, e3] at this
    clear ep es e1 e2 e3 g hk hD hsn k1 k2
    grind
  · refine Rat.not_le.mp fun g => ?_
    have := Rat.mul_le_mul_of_nonneg_right g (Rat.le_of_lt hxy)
    have e3 : (K + 1) * s * (x * y) = (K + 1) * (m * x) := by rw [Rat.mul_assoc, e2]
    rw [e1, e3] at this
    clear ep es e1 e2 e3 g hk hD hsn k1 k2
    grind
theorem mul_le_zero {x s : Rat} (h : x ≤ 0) (hs : 0 < s) : x * s ≤ 0 := by
  have := Rat.mul_nonneg (show 0 ≤ -x by grind) (Rat.le_of_lt hs)
  grind
theorem flQ_uniq {p s : Rat} {k : Int} (hs : 0 < s) (h1 : (k : Rat) * s ≤ p) (h2 : p < ((k : Rat) + 1) * s) : flQ p s = k := by
  obtain ⟨g1, g2⟩ := flQ_spec (p := p) hs
  generalize flQ p s = j at *
  rcases Int.lt_trichotomy j k with h | h | h
  · exfalso
    have := Rat.intCast_le_intCast.mpr (show j + 1 ≤ k by omega)
    rw [Rat.intCast_add] at this
    have := mul_le_zero (x := (j : Rat) + 1 - k) (by grind) hs
    grind
  · exact h
  · exfalso
    have := Rat.intCast_le_intCast.mpr (show k + 1 ≤ j by omega)
    rw [Rat.intCast_add] at this
    have := mul_le_zero (x := (k : Rat) + 1 - j) (by grind) hs
    grind
theorem sz_fl {n m : Nat} {p s : Rat} (h : sz n p) (g : sz m s) : sz (n + m + 1) (flQ p s : Rat) := by
  refine sz_int ?_ (by omega)
  refine Nat.lt_of_le_of_lt (Int.natAbs_ediv_le_natAbs _ _) ?_
  rw [Int.natAbs_mul, Int.natAbs_natCast, Nat.pow_succ]
  have := pw h.1 g.2
  omega

theorem absQ_pos (c : Rat) : 0 ≤ absQ c := by
  unfold absQ
  split
  · grind
  · rename_i h
    exact Rat.not_lt.mp h
theorem seventh : Rat.divInt 1 7 = 1 / 7 := by
  rw [Rat.divInt_eq_div]
  rfl
theorem anyI {q : EqI} {w : Int} (h : w = 0 ∨ w = 1) : anyQ q (.int w) [.int 0, .int 1] = some true := by
  rcases h with rfl | rfl <;> rfl
theorem dps2 : (dps [.int 0, .int 1] ≤ 6) = True := propext ⟨fun _ => trivial, fun _ => Nat.zero_le _⟩
theorem eqII {q : EqI} (a b : Int) : eqD q (.int a) (.int b) = some (a == b) := rfl
theorem dpII (a : Int) : ((D.int a).dp ≤ 6) = True := propext ⟨fun _ => trivial, fun _ => Nat.zero_le _⟩
section
variable {S : Sy} {sd : SD} {W : Wd} {Q : QD} {E : QX} {p : Rat}
theorem loopD_ind {ok : Wd → Prop} {g : DG} {tb : DS} {D : DEnds} {E : QX} (I : Nat → SD → Wd → Prop) (hn : ∀ sd W, I 0 sd W → ok W ∧ D.nx sd W)
    (hs : ∀ n d sd W, I (n + 1) sd W → ok W ∧ ∀ K : SD → Wd → Prop, (∀ sd' W', I n sd' W' → K sd' W') → g d sd W (fun sd1 W1 => tb { D with nx := K, ct := K, bk := D.nx } sd1 W1 E)) : ∀ ds sd W, I ds.length sd W → loopD ok g tb D E ds sd W
  | [], sd, W, h => hn sd W h
  | d :: ds, sd, W, h => by
    obtain ⟨h1, h2⟩ := hs _ d sd W h
    exact ⟨h1, h2 _ fun sd' W' h => loopD_ind I hn hs ds sd' W' h⟩
theorem dSeq_stepA {s r : DS} {D : DEnds} (P : SD → Wd → Prop) (h : ∀ D' : DEnds, (∀ sd' W', P sd' W' → D'.nx sd' W') → s D' sd W E) (q : ∀ sd' W', P sd' W' → r D sd' W' E) : dSeq s r D sd W E := h _ q
def topK (S : Sy) (d : D) (W : Wd) (Q : QD) : Prop := kIns W d fun c fs => (c ∈ (a_top S).fl ∧ match fs.lookup 75 with
  | some x => Q x W
  | none => False) ∨ (c ∈ (a_top S).pr ∧ (a_top S).sp c [d] W Q (fun _ _ => False))
theorem dTop_k {ta : DE} : dAttr (a_top S) 75 ta sd W Q E = ta sd W (fun d W1 => topK S d W1 Q) E := rfl
theorem topK_q : topK S (amt p) W Q = Q (.int p.num) W := by
  have e : topK S (amt p) W Q = ((0 ∈ ([] : List Nat) ∧ False) ∨ (0 ∈ [0] ∧ kSome (amQ (amt p)) fun q => Q (.int q.num) W)) := rfl
  rw [e, amQ_amt]
  exact propext ⟨fun q => q.elim (fun z => z.2.elim) fun z => z.2, fun q => .inr ⟨List.mem_singleton.mpr rfl, q⟩⟩
def botK (S : Sy) (d : D) (W : Wd) (Q : QD) : Prop := kIns W d fun c fs => (c ∈ (a_bottom S).fl ∧ match fs.lookup 71 with
  | some x => Q x W
  | none => False) ∨ (c ∈ (a_bottom S).pr ∧ (a_bottom S).sp c [d] W Q (fun _ _ => False))
theorem dBot_k {ta : DE} : dAttr (a_bottom S) 71 ta sd W Q E = ta sd W (fun d W1 => botK S d W1 Q) E := rfl
theorem botK_q : botK S (amt p) W Q = Q (.int p.den) W := by
  have e : botK S (amt p) W Q = ((0 ∈ ([] : List Nat) ∧ False) ∨ (0 ∈ [0] ∧ kSome (amQ (amt p)) fun q => Q (.int q.den) W)) := rfl
  rw [e, amQ_amt]
  exact propext ⟨fun q => q.elim (fun z => z.2.elim) fun z => z.2, fun q => .inr ⟨List.mem_singleton.mpr rfl, q⟩⟩
end
theorem SZs_of {n : Nat} {p : Rat} (h : sz n p) (hn : n ≤ 1900) : SZs p :=
  ⟨Nat.lt_of_lt_of_le h.1 (Nat.pow_le_pow_right (by decide) hn), Nat.lt_of_lt_of_le h.2 (Nat.pow_le_pow_right (by decide) hn)⟩
theorem len_law (S : Sy) : ∀ ds W Q E, sp_law S ds W Q E → ds.length = 1 := fun ds W Q E h => by
  obtain ⟨_, ns, rfl, _⟩ := h
  rfl
theorem dTst_t {sd : SD} {W : Wd} {QB : Bool → Wd → Prop} {E : QX} {t : DE} : dTst t sd W QB E = t sd W (fun d W1 => kTru W1 d fun b => QB b W1) E := rfl
theorem kTru_b {W : Wd} {b : Bool} {k : Bool → Prop} : kTru W (.bl b) k = k b := rfl
theorem szn {p : Rat} (h : sz 61 p) : sz 61 (p.num : Rat) := sz_int h.1 (by decide)
theorem szd {p : Rat} (h : sz 61 p) : sz 61 ((p.den : Int) : Rat) := sz_int (by rw [Int.natAbs_natCast]; exact h.2) (by decide)
end Mv
end
section
set_option Elab.async false
set_option linter.all false
set_option maxRecDepth 100000
set_option maxHeartbeats 4000000
namespace Mv
open PySem PySem.Spec L2 SX
section
variable {S : Sy} {sd : SD} {W : Wd} {Q : QD} {E : QX} {p r : Rat} {c d : D}
theorem tIx_t {ds : List D} {i : Int} : tIx (.tup ds) (.int i) sd W Q E = kSome (atI ds i) fun x => Q x W := rfl
theorem tIx_l {ds : List D} {i : Int} : tIx (.lst ds) (.int i) sd W Q E = kSome (atI ds i) fun x => Q x W := rfl
theorem tLt_qq (h0 : 0 ∈ S.cl) (hc : toQ c = some p) (hd : toQ d = some r) (zp : SZ p) (zr : SZ r) : tCm (mLt S) (mGt S) (fun i j => decide (i < j)) c d sd W Q E = Q (.bl (decide (p < r))) W := by
  rcases toQ_some hc with ⟨i, rfl, rfl⟩ | rfl
  · rcases toQ_some hd with ⟨j, rfl, rfl⟩ | rfl
    · rw [tCm_ii, decide_eq_decide.mpr (Rat.intCast_lt_intCast (a := i) (b := j))]
    · exact tLt_iq h0 zr zp
  · exact tLt_aq hd h0 zp zr
theorem tLe_qq (h0 : 0 ∈ S.cl) (hc : toQ c = some p) (hd : toQ d = some r) (zp : SZ p) (zr : SZ r) : tCm (mLe S) (mGe S) (fun i j => decide (i ≤ j)) c d sd W Q E = Q (.bl (decide (p ≤ r))) W := by
  rcases toQ_some hc with ⟨i, rfl, rfl⟩ | rfl
  · rcases toQ_some hd with ⟨j, rfl, rfl⟩ | rfl
    · rw [tCm_ii, decide_eq_decide.mpr (Rat.intCast_le_intCast (a := i) (b := j))]
    · exact tLe_iq h0 zr zp
  · exact tLe_aq hd h0 zp zr
theorem tGt_qq (h0 : 0 ∈ S.cl) (hc : toQ c = some p) (hd : toQ d = some r) (zp : SZ p) (zr : SZ r) : tCm (mGt S) (mLt S) (fun i j => decide (j < i)) c d sd W Q E = Q (.bl (decide (r < p))) W := by
  rcases toQ_some hc with ⟨i, rfl, rfl⟩ | rfl
  · rcases toQ_some hd with ⟨j, rfl, rfl⟩ | rfl
    · rw [tCm_ii, decide_eq_decide.mpr (Rat.intCast_lt_intCast (a := j) (b := i))]
    · exact tGt_iq h0 zr zp
  · exact tGt_aq hd h0 zp zr
theorem tGe_qq (h0 : 0 ∈ S.cl) (hc : toQ c = some p) (hd : toQ d = some r) (zp : SZ p) (zr : SZ r) : tCm (mGe S) (mLe S) (fun i j => decide (j ≤ i)) c d sd W Q E = Q (.bl (decide (r ≤ p))) W := by
  rcases toQ_some hc with ⟨i, rfl, rfl⟩ | rfl
  · rcases toQ_some hd with ⟨j, rfl, rfl⟩ | rfl
    · rw [tCm_ii, decide_eq_decide.mpr (Rat.intCast_le_intCast (a := j) (b := i))]
    · exact tGe_iq h0 zr zp
  · exact tGe_aq hd h0 zp zr
theorem eqD_qq {cl : List Nat} (h0 : 0 ∈ cl) (hc : toQ c = some p) (hd : toQ d = some r) : eqD (qA cl) c d = some (decide (p = r)) := by
  rcases toQ_some hc with ⟨i, rfl, rfl⟩ | rfl
  · rcases toQ_some hd with ⟨j, rfl, rfl⟩ | rfl
    · rw [eqII]
      congr 1
      rw [Bool.eq_iff_iff, beq_iff_eq, decide_eq_true_eq]
      exact Rat.intCast_inj.symm
    · rw [eqD_int_amt h0]
      congr 1
      exact decide_eq_decide.mpr ⟨fun h => h.symm, fun h => h.symm⟩
  · rcases toQ_some hd with ⟨j, rfl, rfl⟩ | rfl
    · exact eqD_amt_int h0 _ _
    · exact eqD_amt h0 _ _
theorem dpQ (hc : toQ c = some p) : (c.dp ≤ 6) = True := by
  rcases toQ_some hc with ⟨i, rfl, rfl⟩ | rfl
  · exact dpII i
  · exact dpA p
end
theorem cpow20 : CPow 10 20 = True := by simp [CPow]
/-! ### fractions by cross products -/
theorem dv_lt {a b c d : Int} (hb : 0 < b) (hd : 0 < d) : Rat.divInt a b < Rat.divInt c d ↔ a * d < c * b := by
  rw [Rat.divInt_eq_div, Rat.divInt_eq_div, ← Rat.intCast_lt_intCast, Rat.intCast_mul, Rat.intCast_mul]
  have pb : (0 : Rat) < (b : Rat) := Rat.intCast_lt_intCast.mpr hb
  have pd : (0 : Rat) < (d : Rat) := Rat.intCast_lt_intCast.mpr hd
  have nb : (b : Rat) ≠ 0 := fun e => by rw [e] at pb; exact absurd pb (by decide)
  have nd : (d : Rat) ≠ 0 := fun e => by rw [e] at pd; exact absurd pd (by decide)
  generalize (a : Rat) = a at *
  generalize (b : Rat) = b at *
  generalize (c : Rat) = c at *
  generalize (d : Rat) = d at *
  have pq := Rat.mul_pos pb pd
  have e1 : a / b * (b * d) = a * d := by grind
  have e2 : c / d * (b * d) = c * b := by grind
  constructor
  · intro h
    have := Rat.mul_lt_mul_of_pos_right h pq
    rwa [e1, e2] at this
  · intro h
    refine Rat.not_le.mp fun g => ?_
    have := Rat.mul_le_mul_of_nonneg_right g (Rat.le_of_lt pq)
    rw [e1, e2] at this
    exact absurd h (Rat.not_lt.mpr this)
theorem dv_le {a b c d : Int} (hb : 0 < b) (hd : 0 < d) : Rat.divInt a b ≤ Rat.divInt c d ↔ a * d ≤ c * b := by
  rw [← Rat.not_lt, dv_lt hd hb, Int.not_lt]
theorem dv_eq {a b c d : Int} (hb : 0 < b) (hd : 0 < d) : Rat.divInt a b = Rat.divInt c d ↔ a * d = c * b := by
  constructor
  · intro h
    have h1 := (dv_le hb hd).mp (by rw [h]; exact Rat.le_refl)
    have h2 := (dv_le hd hb).mp (by rw [h]; exact Rat.le_refl)
    omega
  · intro h
    exact Rat.le_antisymm ((dv_le hb hd).mpr (by omega)) ((dv_le hd hb).mpr (by omega))
theorem dv_one (k : Int) : Rat.divInt k 1 = (k : Rat) := by rw [Rat.divInt_eq_div]; grind
theorem sm_of {i : Int} (h : i.natAbs ≤ 2 ^ 200) : Sm i := Nat.lt_of_le_of_lt h (Nat.pow_lt_pow_right (by decide) (by decide))
theorem bg_of {i : Int} (h : i.natAbs ≤ 2 ^ 200) : Bg i := Nat.lt_of_le_of_lt h (Nat.pow_lt_pow_right (by decide) (by decide))
theorem dv_ne {b : Int} (h : 0 < b) : (b : Rat) ≠ 0 := fun e => by
  have := Rat.intCast_inj.mp (show (b : Rat) = ((0 : Int) : Rat) from e)
  omega
theorem dv_add {a b c d : Int} (hb : 0 < b) (hd : 0 < d) : Rat.divInt a b + Rat.divInt c d = Rat.divInt (a * d + c * b) (b * d) := by
  have nb := dv_ne hb
  have nd := dv_ne hd
  rw [Rat.divInt_eq_div, Rat.divInt_eq_div, Rat.divInt_eq_div, Rat.intCast_add, Rat.intCast_mul, Rat.intCast_mul, Rat.intCast_mul]
  grind
theorem dv_sub {a b c d : Int} (hb : 0 < b) (hd : 0 < d) : Rat.divInt a b - Rat.divInt c d = Rat.divInt (a * d - c * b) (b * d) := by
  have nb := dv_ne hb
  have nd := dv_ne hd
  rw [Rat.divInt_eq_div, Rat.divInt_eq_div, Rat.divInt_eq_div, Rat.intCast_sub, Rat.intCast_mul, Rat.intCast_mul, Rat.intCast_mul]
  grind
theorem dv_mul {a b c d : Int} (hb : 0 < b) (hd : 0 < d) : Rat.divInt a b * Rat.divInt c d = Rat.divInt (a * c) (b * d) := by
  have nb := dv_ne hb
  have nd := dv_ne hd
  rw [Rat.divInt_eq_div, Rat.divInt_eq_div, Rat.divInt_eq_div, Rat.intCast_mul, Rat.intCast_mul]
  grind
theorem dv_neg {a b : Int} : -Rat.divInt a b = Rat.divInt (0 - a) b := by
  rw [Rat.divInt_eq_div, Rat.divInt_eq_div, Rat.intCast_sub]
  grind
theorem dv_zero {a b : Int} (hb : 0 < b) : Rat.divInt a b = 0 ↔ a = 0 := by
  have := dv_eq (a := a) (b := b) (c := 0) (d := 1) hb (by decide)
  rw [dv_one] at this
  rw [Int.zero_mul, Int.mul_one] at this
  exact this
theorem dv_lt0 {a b : Int} (hb : 0 < b) : Rat.divInt a b < 0 ↔ a < 0 := by
  have := dv_lt (a := a) (b := b) (c := 0) (d := 1) hb (by decide)
  rw [dv_one] at this
  rw [Int.zero_mul, Int.mul_one] at this
  exact this
theorem dv_le0 {a b : Int} (hb : 0 < b) : Rat.divInt a b ≤ 0 ↔ a ≤ 0 := by
  have := dv_le (a := a) (b := b) (c := 0) (d := 1) hb (by decide)
  rw [dv_one] at this
  rw [Int.zero_mul, Int.mul_one] at this
  exact this
theorem dv_abs {a b : Int} (hb : 0 < b) : absQ (Rat.divInt a b) = Rat.divInt (if a < 0 then -a else a) b := by
  unfold absQ
  by_cases h : a < 0
  · rw [if_pos ((dv_lt0 hb).mpr h), if_pos h, dv_neg, Int.zero_sub]
  · rw [if_neg (fun z => h ((dv_lt0 hb).mp z)), if_neg h]
theorem dv_div {a b c d : Int} (hb : 0 < b) (hd : 0 < d) (hc : c ≠ 0) : Rat.divInt a b / Rat.divInt c d = Rat.divInt (a * d * (if 0 < c then 1 else -1)) (b * (if c < 0 then -c else c)) := by
  have nb := dv_ne hb
  have nd := dv_ne hd
  have nc : (c : Rat) ≠ 0 := fun e => hc (Rat.intCast_inj.mp (show (c : Rat) = ((0 : Int) : Rat) from e))
  rw [Rat.divInt_eq_div, Rat.divInt_eq_div, Rat.divInt_eq_div]
  by_cases h : c < 0
  · rw [if_neg (by omega), if_pos h, Rat.intCast_mul, Rat.intCast_mul, Rat.intCast_mul]
    have e : (((-1 : Int)) : Rat) = -1 := rfl
    rw [e, Rat.intCast_neg]
    grind
  · rw [if_pos (by omega), if_neg h, Rat.intCast_mul, Rat.intCast_mul, Rat.intCast_mul]
    have e : (((1 : Int)) : Rat) = 1 := rfl
    rw [e]
    grind
/-- the numbers of a fraction in lowest terms -/
theorem dv_self (p : Rat) : p = Rat.divInt p.num p.den := by
  rw [Rat.divInt_eq_div]
  exact rat_nd p
/-! ### what is caught -/
section
variable {S : Sy} {sd : SD} {W : Wd} {Q : QD} {E : QX}
theorem kExn_e {c : Nat} {fs : List (Nat × D)} {k : Nat → List (Nat × D) → Prop} : kExn (.exn c fs) k = k c fs := rfl
theorem dXat_e {l : List Nat} {i : Nat} {ta : DE} : dXat l i ta sd W Q E = ta sd W (fun d W1 => kExn d fun c fs => c ∈ l ∧ match fs.lookup i with
  | some x => Q x W1
  | none => False) E := rfl
theorem rIsX_e {u x c : D} {f : Nat → Option Bool} : rIsX u f [x, c] W Q = (c = u ∧ kExn x fun n _ => kSome (f n) fun b => Q (.bl b) W) := rfl
theorem isNon_exn {c : Nat} {fs : List (Nat × D)} : isNon (.exn c fs) = false := rfl
theorem dTryK_e {f : Nat → Option Bool} {i j : Nat} {tb : DS} {D : DEnds} : dTryK f i j tb D sd W E = tb D sd W (fun ex sd' W' => sd'.length = sd.length → kExn ex fun c _ => kSome (f c) fun b => if b = true then D.nx ((sd'.set j (some ex)).set i none) W' else E ex sd' W') := rfl
theorem dAct_e {f c : Addr} {q : Str} {F0 : Hp} {td : LD} : dAct f c q F0 td sd W Q E = (sd[0]? = some (some (.lam f c q F0)) ∧ td W Q (fun ex W' => ∀ n, E ex (List.replicate n none) W')) := rfl
theorem dLam_e {hd : LD → Wd → QD → Prop} {tb : DE} : dLam hd tb sd W Q E = hd (fun W' Q' Ex' => tb sd W' Q' (fun ex _ W'' => Ex' ex W'')) W Q := rfl
/-- try: a() .. -/
theorem dTryAct {f : Nat → Option Bool} {i j : Nat} {g c : Addr} {q : Str} {F0 : Hp} {td : LD} {D : DEnds} : dTryK f i j (dDrop (dAct g c q F0 td)) D sd W E = (sd[0]? = some (some (.lam g c q F0)) ∧ td W (fun _ W1 => D.nx sd W1) (fun ex W' => kExn ex fun c _ => kSome (f c) fun b => if b = true then D.nx (((List.replicate sd.length none).set j (some ex)).set i none) W' else E ex (List.replicate sd.length none) W')) := by
  have e : ∀ {P : List (Option Mv.D) → Prop}, (∀ n, (List.replicate n (none : Option Mv.D)).length = sd.length → P (List.replicate n none)) = P (List.replicate sd.length none) := fun {P} => propext ⟨fun z => z _ (by simp), fun z n hn => by
    rw [List.length_replicate] at hn
    rw [hn]
    exact z⟩
  show (_ ∧ td W _ _) = _
  congr 2
  funext ex W'
  exact e (P := fun sd' => kExn ex fun c _ => kSome (f c) fun b => if b = true then D.nx ((sd'.set j (some ex)).set i none) W' else E ex sd' W')
end
/-! ### lists made with a pen -/
theorem put_sw {W : Wd} {p q : Addr} {x y : M} (h : p ≠ q) : put (put W p x) q y = put (put W q y) p x := by
  funext b
  unfold put
  by_cases h1 : b = p
  · subst h1
    simp [h]
  · simp [h1]
theorem compD_pen {p p1 : Addr} {cs : List Int} {W0 : Wd} {R : D → D → Prop} {c : Int} {ok : Wd → Prop} {g : DG} {te : DE} {sd0 : SD} {K : List D → Wd → Prop} (hok : ∀ W, ok W) (hc : 0 ≤ c) (hne : p ≠ p1) :
    ∀ (ds acc : List D) (k gg : Int), (∀ d, d ∈ ds → ∀ (W : Wd) (k gg : Int) (Q : QD), 0 ≤ k → k + c ≤ 100000 → W p = some (penM cs k gg) → (∀ x k' g', R d x → k ≤ k' → k' ≤ k + c → Q x (put W p (penM cs k' g'))) → g d sd0 W (fun sd1 W1 => te sd1 W1 Q E2F)) →
      acc.length + ds.length ≤ 1000000 → 0 ≤ k → k + c * ds.length ≤ 100000 → (∀ xs k' g', Paired R ds xs → k ≤ k' → k' ≤ k + c * ds.length → K (acc ++ xs) (put (put W0 p (penM cs k' g')) p1 (.lst (acc ++ xs)))) → compD p1 ok g dYes te sd0 K ds acc (put (put W0 p (penM cs k gg)) p1 (.lst acc))
  | [], acc, k, gg, _, _, h0, _, hK => by
    refine ⟨hok _, put_same, ?_⟩
    have := hK [] k gg .nil (Int.le_refl _) (by simp)
    rw [List.append_nil] at this
    exact this
  | d :: ds, acc, k, gg, he, hl, h0, hk, hK => by
    have el : c * ((d :: ds).length : Int) = c * ds.length + c := by
      rw [List.length_cons, show (((ds.length + 1 : Nat)) : Int) = (ds.length : Int) + 1 by omega, Int.mul_add, Int.mul_one]
    have hn : 0 ≤ c * (ds.length : Int) := Int.mul_nonneg hc (by omega)
    rw [el] at hk hK
    have hl' : acc.length + (ds.length + 1) ≤ 1000000 := hl
    have atp : put (put W0 p (penM cs k gg)) p1 (.lst acc) p = some (penM cs k gg) := by rw [put_ne hne, put_same]
    refine ⟨hok _, he d (List.mem_cons_self ..) _ k gg _ h0 (by omega) atp fun x k' g' hr h1 h2 => ?_⟩
    have e1 : put (put (put W0 p (penM cs k gg)) p1 (.lst acc)) p (penM cs k' g') = put (put W0 p (penM cs k' g')) p1 (.lst acc) := by rw [put_sw (Ne.symm hne), put_put]
    rw [e1]
    refine ⟨put_same, by omega, ?_⟩
    rw [put_put]
    exact compD_pen hok hc hne ds (acc ++ [x]) k' g' (fun d hd => he d (List.mem_cons_of_mem _ hd)) (by simp; omega) (by omega) (by omega) fun xs k2 g2 hp h3 h4 => by
      rw [List.append_assoc]
      exact hK (x :: xs) k2 g2 (.cons hr hp) (by omega) (by omega)
theorem compD_pure {p : Addr} {ok : Wd → Prop} {g : DG} {te : DE} {sd0 : SD} {K : List Mv.D → Wd → Prop} {f : Mv.D → Mv.D} (hok : ∀ W, ok W) : ∀ (ds acc : List Mv.D) (W : Wd), (∀ d, d ∈ ds → ∀ (W : Wd) (Q : QD), Q (f d) W → g d sd0 W (fun sd1 W1 => te sd1 W1 Q E2F)) → acc.length + ds.length ≤ 1000000 → W p = some (.lst acc) → K (acc ++ ds.map f) (put W p (.lst (acc ++ ds.map f))) → compD p ok g dYes te sd0 K ds acc W
  | [], acc, W, _, _, hW, hK => by
    refine ⟨hok W, hW, ?_⟩
    rw [List.map_nil, List.append_nil, put_get hW] at hK
    exact hK
  | d :: ds, acc, W, hg, hl, hW, hK => by
    refine ⟨hok W, hg d (List.mem_cons_self ..) W _ ?_⟩
    have hl' : acc.length + (ds.length + 1) ≤ 1000000 := hl
    refine ⟨hW, by omega, compD_pure hok ds (acc ++ [f d]) _ (fun x hx => hg x (List.mem_cons_of_mem _ hx)) (by simp; omega) put_same ?_⟩
    rw [List.append_assoc, put_put]
    exact hK
theorem Paired.len {α β : Type} {R : α → β → Prop} : ∀ {xs : List α} {ys : List β}, Paired R xs ys → xs.length = ys.length
  | _, _, .nil => rfl
  | _, _, .cons _ t => congrArg (· + 1) (Paired.len t)
/-- a walk over what is paired with data -/
theorem loopD_acc {α : Type} {R : D → α → Prop} {ok : Wd → Prop} {g : DG} {tb : DS} {D : DEnds} {E : QX} (hok : ∀ W, ok W) (I : List α → SD → Wd → Prop) (all : List α)
    (hs : ∀ pre d q post sd W, pre ++ q :: post = all → R d q → I pre sd W → ∀ K : SD → Wd → Prop, (∀ sd' W', I (pre ++ [q]) sd' W' → K sd' W') → g d sd W (fun sd1 W1 => tb { D with nx := K, ct := K, bk := D.nx } sd1 W1 E)) (hn : ∀ sd W, I all sd W → D.nx sd W) :
    ∀ ds qs pre sd W, pre ++ qs = all → Paired R ds qs → I pre sd W → loopD ok g tb D E ds sd W
  | [], _, pre, sd, W, e, .nil, h => by
    rw [List.append_nil] at e
    subst e
    exact ⟨hok W, hn sd W h⟩
  | d :: ds, q :: qs, pre, sd, W, e, .cons r t, h =>
    ⟨hok W, hs pre d q qs sd W e r h _ fun sd' W' h' => loopD_acc hok I all hs hn ds qs (pre ++ [q]) sd' W' (by rw [List.append_assoc]; exact e) t h'⟩
/-- numbers as data: an amount, or an integer -/
def isQ (n : Nat) (x : D) (q : Rat) : Prop := toQ x = some q ∧ sz n q
theorem qsD_of {n : Nat} : ∀ {xs : List D} {qs : List Rat}, Paired (isQ n) xs qs → qsD xs = some qs
  | _, _, .nil => rfl
  | _, _, .cons r t => by simp only [qsD, r.1, qsD_of t]
theorem sz_mem {n : Nat} : ∀ {xs : List D} {qs : List Rat}, Paired (isQ n) xs qs → ∀ q ∈ qs, sz n q
  | _, _, .nil, _, h => by cases h
  | _, _, .cons r t, q, h => by
    rcases List.mem_cons.mp h with rfl | h
    · exact r.2
    · exact sz_mem t q h
/-- the text of a number -/
def txD : D → D
  | .int i => .str (toString i)
  | d => (match amQ d with
    | some q => .str (qStr q)
    | none => .non)
theorem str_q {S : Sy} {x : D} {q : Rat} {sd : SD} {W : Wd} {Q : QD} {E : QX} (h : toQ x = some q) (z : sz 1900 q) : strK S x sd W Q E = Q (txD x) W := by
  rcases toQ_some h with ⟨i, rfl, rfl⟩ | rfl
  · have e : strK S (.int i) sd W Q E = (i.natAbs.log2 < 1920 ∧ Q (.str (toString i)) W) := rfl
    rw [e]
    have z1 : i.natAbs < 2 ^ 1900 := z.1
    exact propext ⟨fun q => q.2, fun q => ⟨by
      by_cases hz : i.natAbs = 0
      · rw [hz]
        decide
      · exact Nat.lt_of_lt_of_le ((Nat.log2_lt hz).mpr z1) (by decide), q⟩⟩
  · rw [strK_q (SZs_of z (Nat.le_refl _))]
    have e : txD (amt q) = .str (qStr q) := by
      show (match amQ (amt q) with | some q => D.str (qStr q) | none => .non) = _
      rw [amQ_amt]
    rw [e]
theorem eqD_strs {cl : List Nat} : ∀ {xs : List D} {qs : List Rat} {n : Nat}, Paired (isQ n) xs qs → eqDs (qA cl) (xs.map txD) (xs.map txD) = some true
  | _, _, _, .nil => rfl
  | x :: xs, q :: qs, _, .cons r t => by
    rw [List.map_cons]
    have e1 : ∃ s, txD x = .str s := by
      rcases toQ_some r.1 with ⟨i, rfl, rfl⟩ | rfl
      · exact ⟨_, rfl⟩
      · refine ⟨qStr q, ?_⟩
        show (match amQ (amt q) with | some q => D.str (qStr q) | none => .non) = _
        rw [amQ_amt]
    obtain ⟨s, es⟩ := e1
    rw [es]
    have e2 : eqD (qA cl) (.str s) (.str s) = some true := by rw [eqS, beq_self_eq_true]
    simp only [eqDs, e2]
    exact eqD_strs t
theorem dps_strs : ∀ {xs : List D} {qs : List Rat} {n : Nat}, Paired (isQ n) xs qs → dps (xs.map txD) = 0
  | _, _, _, .nil => rfl
  | x :: xs, q :: qs, _, .cons r t => by
    rw [List.map_cons]
    have e1 : (txD x).dp = 0 := by
      rcases toQ_some r.1 with ⟨i, rfl, rfl⟩ | rfl
      · rfl
      · show (match amQ (amt q) with | some q => D.str (qStr q) | none => .non).dp = _
        rw [amQ_amt]
        rfl
    simp only [dps, e1, dps_strs t]
    rfl
theorem eqL_strs {cl : List Nat} {xs : List D} {qs : List Rat} {n : Nat} (h : Paired (isQ n) xs qs) : eqD (qA cl) (.lst (xs.map txD)) (.lst (xs.map txD)) = some true := by
  simp only [eqD, if_true]
  exact eqD_strs h
theorem dpL_strs {xs : List D} {qs : List Rat} {n : Nat} (h : Paired (isQ n) xs qs) : ((D.lst (xs.map txD)).dp ≤ 6) = True :=
  propext ⟨fun _ => trivial, fun _ => by simp only [D.dp, dps_strs h]; decide⟩
/-! ### least and greatest, one by one -/
def lo2 (a v : Rat) : Rat := if v < a then v else a
def hi2 (a v : Rat) : Rat := if a < v then v else a
theorem dv_step {h l : Int} {q s : Rat} (hl : 0 < l) (e : Rat.divInt h l = s) : Rat.divInt (h * q.den + q.num * l) (l * q.den) = s + q := by
  rw [← e, Rat.divInt_eq_div, Rat.divInt_eq_div]
  simp only [Rat.intCast_mul, Rat.intCast_add]
  have nq := rat_nd q
  have dq := denR q
  have pl : (0 : Rat) < (l : Rat) := Rat.intCast_lt_intCast.mpr hl
  have nl : (l : Rat) ≠ 0 := fun e => by rw [e] at pl; exact absurd pl (by decide)
  generalize (h : Rat) = h at *
  generalize (l : Rat) = l at *
  generalize ((q.den : Int) : Rat) = d at *
  generalize (q.num : Rat) = n at *
  rw [nq]
  grind
theorem sum_app (pre : List Rat) (q : Rat) : sumQ (pre ++ [q]) = sumQ pre + q := by
  unfold sumQ
  rw [List.foldl_append]
  rfl
theorem sz_sum : ∀ (qs : List Rat), (∀ q ∈ qs, sz 41 q) → ∀ a n, sz n a → sz (n + 42 * qs.length) (qs.foldl (· + ·) a)
  | [], _, a, n, h => h
  | q :: qs, hq, a, n, h => by
    have := sz_sum qs (fun x hx => hq x (List.mem_cons_of_mem _ hx)) (a + q) (n + 41 + 1) (sz_add h (hq q (List.mem_cons_self ..)))
    exact sz_up this (by simp; omega)
theorem sum_SZ {qs : List Rat} (h : ∀ q ∈ qs, sz 41 q) (hl : qs.length ≤ 5) (i : Nat) : SZ (sumQ (qs.take i)) := by
  have s0 : sz 1 (0 : Rat) := ⟨by decide, by decide⟩
  have := sz_sum (qs.take i) (fun q hq => h q (List.mem_of_mem_take hq)) 0 1 s0
  exact SZ_of (sz_up this (m := 300) (by have e : (qs.take i).length = min i qs.length := List.length_take; omega)) (by decide)
section
variable {S : Sy} {W : Wd} {Q : QD} {qs : List Rat} {xs : List D} {d : D}
def asL (d : D) (xs : List D) : Prop := d = .lst xs ∨ d = .tup xs
theorem asL.seq {k : List D → Prop} (h : asL d xs) : kSeq W d k = k xs := by rcases h with rfl | rfl <;> rfl
theorem asL.li {k : LiD → Prop} (h : asL d xs) : kLi W d k = k ⟨xs, none⟩ := by rcases h with rfl | rfl <;> rfl
theorem total_s {E : QD} (hd : asL d xs) (h : qsD xs = some qs) (h0 : 0 ∈ S.cl) (h1 : ∀ i, SZ (sumQ (qs.take i))) (h2 : ∀ q ∈ qs, SZ q) : sp_Amount_total S [d] W Q E = Q (amt (sumQ qs)) W := by
  have e : sp_Amount_total S [d] W Q E = (0 ∈ S.cl ∧ kSeq W d fun xs => kSome (qsD xs) fun qs => (∀ i, SZ (sumQ (qs.take i))) ∧ (∀ q ∈ qs, SZ q) ∧ Q (amt (sumQ qs)) W) := rfl
  rw [e, hd.seq, h]
  exact propext ⟨fun q => q.2.2.2, fun q => ⟨h0, h1, h2, q⟩⟩
theorem least_s {E : QD} (hd : asL d xs) (h : qsD xs = some qs) (h0 : 0 ∈ S.cl) (h1 : qs ≠ []) (h2 : ∀ q ∈ qs, SZ q) : sp_Amount_least S [d] W Q E = Q (amt (leastQ qs)) W := by
  have e : sp_Amount_least S [d] W Q E = (0 ∈ S.cl ∧ kSeq W d fun xs => kSome (qsD xs) fun qs => qs ≠ [] ∧ (∀ q ∈ qs, SZ q) ∧ Q (amt (leastQ qs)) W) := rfl
  rw [e, hd.seq, h]
  exact propext ⟨fun q => q.2.2.2, fun q => ⟨h0, h1, h2, q⟩⟩
theorem most_s {E : QD} (hd : asL d xs) (h : qsD xs = some qs) (h0 : 0 ∈ S.cl) (h1 : qs ≠ []) (h2 : ∀ q ∈ qs, SZ q) : sp_Amount_greatest S [d] W Q E = Q (amt (mostQ qs)) W := by
  have e : sp_Amount_greatest S [d] W Q E = (0 ∈ S.cl ∧ kSeq W d fun xs => kSome (qsD xs) fun qs => qs ≠ [] ∧ (∀ q ∈ qs, SZ q) ∧ Q (amt (mostQ qs)) W) := rfl
  rw [e, hd.seq, h]
  exact propext ⟨fun q => q.2.2.2, fun q => ⟨h0, h1, h2, q⟩⟩
end
theorem dLc_k {ti : DI} {g : DG} {tt : DT} {te : DE} {vs : List Nat} {sd : SD} {W : Wd} {Q : QD} {E : QX} : dLc ti g tt te vs sd W Q E = ti sd W (fun l W1 => ∀ p, W1 p = none → compD p l.ok g tt te (wipeD sd vs) (fun acc W2 => Q (.lst acc) (cut W2 p)) l.items [] (put W1 p (.lst []))) E := rfl
theorem kwd_e {n m : Nat} {l : List Nat} {ds zs : List D} {q : List D → Prop} : kwd n m l ds zs q = (ds.length = n ∧ zs.length = m ∧ q (pk .non l (ds ++ zs))) := rfl
theorem dSmK_e {C : Addr} {m : Nat} {l : List Nat} {sp2 : DSp} {ta : DE} {t : DA} {sd : SD} {W : Wd} {Q : QD} {E : QX} : dSmK C m l sp2 ta t sd W Q E = ta sd W (fun d W1 => d = .ptr C ∧ t sd W1 (fun zs W2 => kwd 0 m l [] zs fun ds' => sp2 ds' W2 Q (fun x W' => E x sd W')) E) E := rfl
theorem kw1 {a : D} {q : List D → Prop} : kwd 0 1 [0] [] [a] q = q [a] := propext ⟨fun h => h.2.2, fun h => ⟨rfl, rfl, h⟩⟩
theorem tMul_li {M MR : Mts} {a : List D} {n : Int} {sd : SD} {W : Wd} {Q : QD} {E : QX} : Mv.tMul M MR (.lst a) (.int n) sd W Q E = (-(2 ^ 63) ≤ n ∧ n < 2 ^ 63 ∧ a.length * n.toNat ≤ 1000000 ∧ Q (.lst (List.replicate n.toNat a).flatten) W) := rfl
/-! ### sizes of integers -/
def bd (n : Nat) (i : Int) : Prop := i.natAbs < 2 ^ n
theorem bd.mul {n m : Nat} {a b : Int} (h : bd n a) (g : bd m b) : bd (n + m) (a * b) := by
  unfold bd
  rw [Int.natAbs_mul]
  exact pw h g
theorem bd.up {n m : Nat} {a : Int} (h : bd n a) (e : n ≤ m) : bd m a := Nat.lt_of_lt_of_le h (Nat.pow_le_pow_right (by decide) e)
theorem bd.add {n m : Nat} {a b : Int} (h : bd n a) (g : bd m b) : bd (n + m + 1) (a + b) := by
  unfold bd at *
  have h1 : (2 : Nat) ^ n ≤ 2 ^ (n + m) := Nat.pow_le_pow_right (by decide) (Nat.le_add_right _ _)
  have h2 : (2 : Nat) ^ m ≤ 2 ^ (n + m) := Nat.pow_le_pow_right (by decide) (Nat.le_add_left _ _)
  rw [Nat.pow_succ]
  omega
theorem bd.neg {n : Nat} {a : Int} (h : bd n a) : bd n (-a) := by
  unfold bd at *
  rw [Int.natAbs_neg]
  exact h
theorem bd.sub {n m : Nat} {a b : Int} (h : bd n a) (g : bd m b) : bd (n + m + 1) (a - b) := by
  rw [Int.sub_eq_add_neg]
  exact h.add g.neg
theorem bd.abs {n : Nat} {a : Int} (h : bd n a) : bd n (if a < 0 then -a else a) := by
  split
  · exact h.neg
  · exact h
theorem bd.sm {n : Nat} {a : Int} (h : bd n a) (e : n ≤ 4400 := by decide) : Sm a := h.up e
theorem bd.bg {n : Nat} {a : Int} (h : bd n a) (e : n ≤ 8990 := by decide) : Bg a := h.up e
theorem bd.m {n m : Nat} {a b : Int} (h : bd n a) (g : bd m b) (e : n ≤ 4400 := by decide) (f : m ≤ 4400 := by decide) : CMulW a b ∨ CMul a b := mulW (h.sm e) (g.sm f)
/-! ### small equations -/
section
variable {S : Sy} {sd : SD} {W : Wd} {Q : QD} {E : QX}
theorem negK_i {M : Mts} {i : Int} : negK M (.int i) sd W Q E = Q (.int (-i)) W := rfl
theorem absK_i {i : Int} : absK S (.int i) sd W Q E = Q (.int (if i < 0 then -i else i)) W := rfl
theorem eqN {q : EqI} : eqD q .non .non = some true := rfl
theorem dpN : ((D.non).dp ≤ 6) = True := propext ⟨fun _ => trivial, fun _ => Nat.zero_le _⟩
end
/-! ### lists that grow -/
theorem flatS (s : Str) : flatO (.str s) (.str s) = some true := by
  show some (s == s) = _
  rw [beq_self_eq_true]
theorem eqS3 {q : EqI} {s : Str} : eqD q (.lst [.str s, .str s, .str s]) (.lst [.str s, .str s, .str s]) = some true := by
  simp only [eqD, List.length_cons, List.length_nil, if_true, eqDs, flatS]
theorem dpS3 {s : Str} : ((D.lst [.str s, .str s, .str s]).dp ≤ 6) = True := propext ⟨fun _ => trivial, fun _ => by
  simp only [D.dp, dps]
  decide⟩
theorem tyM_p {W : Wd} {p : Addr} {xs : List D} : tyM "list" (put W p (.lst xs)) (.ptr p) = True := by
  show (match put W p (.lst xs) p with
    | some (.lst _) => "list" = "list"
    | some (.dK _) => "list" = "dict"
    | some (.dT _) => "list" = "dict"
    | _ => False) = True
  rw [put_same]
  simp
theorem mApp_e {W : Wd} {p : Addr} {xs : List D} {x : D} {Q : QD} : mAppend (.ptr p) [x] (put W p (.lst xs)) Q = (xs.length ≤ 1000000 ∧ Q .non (put W p (.lst (xs ++ [x])))) := by
  show (match put W p (.lst xs) p with
    | some (.lst xs) => xs.length ≤ 1000000 ∧ Q .non (put (put W p _) p (.lst (xs ++ [x])))
    | _ => False) = _
  rw [put_same]
  show (xs.length ≤ 1000000 ∧ Q .non (put (put W p (.lst xs)) p (.lst (xs ++ [x])))) = _
  rw [put_put]
theorem dFrz_e {t : DE} {sd : SD} {W : Wd} {Q : QD} {E : QX} : dFrz t sd W Q E = t sd W (fun d W1 => match d with
  | .ptr a => (match W1 a with
    | some m => Q m.d (cut W1 a)
    | none => False)
  | _ => False) E := rfl
theorem dDct0_e {sd : SD} {W : Wd} {Q : QD} {E : QX} : dDct0 sd W Q E = Q (.dK []) W := rfl
/-! ### a class that refuses -/
section
variable {S : Sy} {sd : SD} {W : Wd} {Q : QD} {E : QX} {t b : D} {i : Int}
theorem mkA_x2 (ht : ∀ W, knT S W t) (hb : ∀ W, knT S W b) (h : intD t = none) (q : E (badA "top") sd W) : mkA S Q E sd [t, b] W := by
  intro p hp
  refine ⟨Nat.le_refl _, Nat.le_add_right _ _, put_same, ht _, hb _, ?_⟩
  rw [h]
  show E _ sd (cut (put W p (.ins 0 [])) p)
  rw [cut_put hp]
  exact q
theorem mkA_x1 (ht : ∀ W, knT S W t) (h : intD t = none) (q : E (badA "top") sd W) : mkA S Q E sd [t] W := by
  intro p hp
  obtain ⟨_, _, z⟩ := mkA_x2 (S := S) (Q := Q) (E := E) (b := .int 1) ht (fun _ => knT_int) h q p hp
  exact ⟨Nat.le_succ _, Nat.le_refl _, z⟩
theorem mkA_xb (hb : ∀ W, knT S W b) (h : intD b = none ∨ b = .int 0) (q : E (badA "bottom") sd W) : mkA S Q E sd [.int i, b] W := by
  intro p hp
  refine ⟨Nat.le_refl _, Nat.le_add_right _ _, put_same, knT_int, hb _, ?_⟩
  have e : E (badA "bottom") sd (cut (put W p (.ins 0 [])) p) := by
    rw [cut_put hp]
    exact q
  rcases h with h | rfl
  · show match intD b with
      | none => _
      | some b => _
    rw [h]
    exact e
  · exact e
end
end Mv
end
section
set_option Elab.async false
set_option linter.all false
set_option maxRecDepth 100000
set_option maxHeartbeats 4000000
namespace Mv
open PySem PySem.Spec L2 SX
theorem cpow6 : CPow 10 6 = True := by simp [CPow]
theorem cpow9 : CPow 10 9 = True := by simp [CPow]
theorem cpow18 : CPow 10 18 = True := by simp [CPow]
theorem cpow22 : CPow 10 22 = True := by simp [CPow]
theorem len__law_number (S : Sy) : ∀ ds W Q E, sp__law_number S ds W Q E → ds.length = 1 := fun ds W Q E h => len_pen h fun r q h => by
  match r, h with
  | [], h => rfl
theorem pf__law_number (S : Sy) : ∀ ds W Q2 E2, sp__law_number S ds W Q2 E2 → t__law_number S { nx := fun _ W => Q2 .non W, rt := Q2 } (startD ["_law_pen_here", "_law_size", "_law_found"] ds) W (fun x _ W => E2 x W) := by
  intro ds W Q E h
  obtain ⟨p, r, cs, k, g, rfl, ⟨hW, hl, hk0, hk1⟩, hk, h⟩ := spPen.inv h
  match r, h with
  | [], h =>
    have eW : W = put W p (penM cs k g) := (put_get hW).symm
    rw [eW] at h ⊢
    have p200 : (1000000000000000000 : Nat) ≤ 2 ^ 200 := by decide
    unfold t__law_number
    refine dSeq_stepA (fun sd W' => ∃ (m k1 g1 : Int), 0 < m ∧ m ≤ 1000000000000000000 ∧ sd = [some (.ptr p), some (.int m), none] ∧ W' = put W p (penM cs k1 g1) ∧ k ≤ k1 ∧ k1 ≤ k + 1) (fun D' hD => ?_) ?_
    · simp only [↓dSeq_e, ↓dNext_e, ↓dBreak_e, ↓dCont_e, ↓dNever_e, ↓dRet_e, ↓dRetN_e, ↓dDrop_e, ↓dIfS_e, ↓dAsg_e, ↓dPar_e, ↓dPar3_e, ↓gN_e, ↓gTp_e, ↓gNs_e, ↓gN0_e, ↓dVar_e, ↓dC_e, ↓dCB_e, ↓dCons_e, ↓dNil_e, ↓dTup_e, ↓dLst_e, ↓dLstM_e, ↓dOpMul_e, ↓dOpAdd_e, ↓dOpSub_e, ↓dOpFdv_e, ↓dOpMod_e, ↓dOpPow_e, ↓dOpCm_e, ↓dOpEq_e, ↓dOpIn_e, ↓dOpIs_e, ↓dTst_e, ↓dTbl_e, ↓dNot_e, ↓dAnd_e, ↓dOr_e, ↓dAndV_e, ↓dOrV_e, ↓dNotV_e, ↓dIf_e, ↓dCall_e, ↓dSm_e, ↓dCm_e, ↓dFor_e, ↓iSq_e, ↓iRng1_e, ↓dNeg_e, ↓dFld_e, ↓dLc_e, ↓dBM_e, ↓dFmt_e, ↓dSl_e, ↓dPart_e, ↓dNoPart_e, ↓dfl_e0, ↓tMul_ii, ↓tAdd_ii, ↓tSub_ii, ↓tFdiv_ii, ↓tMod_ii, ↓tPow_ii, ↓tCm_ii, ↓rdP0, ↓rdP1, ↓rdV0, ↓rdV1, ↓rdA,
      kBl, kTru, rIsN_f, rIsN_t, isNon_non, isNon_int, isNon_str, isNon_tup, isNon_lst, isNon_parts, isNon_amt, rIsiD, kSome, startD, kI2, rInt2,
      List.map_cons, List.map_nil, List.length_cons, List.length_nil, List.cons_append, List.nil_append, List.getElem?_cons_zero, List.getElem?_cons_succ, List.replicate, Nat.reduceSub, Nat.reduceAdd, Nat.reduceLeDiff, Nat.zero_add, Nat.add_zero, Nat.sub_self, Nat.sub_zero, List.set_cons_zero, List.set_cons_succ, List.append_nil, List.drop, List.drop_zero,
      Option.some.injEq, exists_eq_left', exists_eq_left, true_and, and_true, if_true, if_false, Bool.false_eq_true, Bool.not_true, Bool.not_false, ite_true, ite_false, reduceIte, reduceCtorEq, Nat.le_refl, startD, ↓dOp_e, of_eq_true cpow6, of_eq_true cpow18]
      refine pickP hl hk0 (by omega) (by simp) (by simp) fun x k1 g1 hx a1 b1 => ?_
      obtain ⟨m, rfl, m0, m1⟩ : ∃ m : Int, x = .int m ∧ 0 < m ∧ m ≤ 1000000000000000000 := by
        simp only [List.mem_cons, List.not_mem_nil, or_false] at hx
        rcases hx with rfl | rfl | rfl | rfl | rfl <;> exact ⟨_, rfl, by decide, by decide⟩
      exact hD _ _ ⟨m, k1, g1, m0, m1, rfl, rfl, a1, b1⟩
    rintro _ _ ⟨m, k1, g1, m0, m1, rfl, rfl, a1, b1⟩
    refine dSeq_stepA (fun sd W' => ∃ (i k2 g2 : Int), 0 ≤ i ∧ i < m ∧ sd = [some (.ptr p), some (.int m), some (.int i)] ∧ W' = put W p (penM cs k2 g2) ∧ k ≤ k2 ∧ k2 ≤ k + 2) (fun D' hD => ?_) ?_
    · simp only [↓dSeq_e, ↓dNext_e, ↓dBreak_e, ↓dCont_e, ↓dNever_e, ↓dRet_e, ↓dRetN_e, ↓dDrop_e, ↓dIfS_e, ↓dAsg_e, ↓dPar_e, ↓dPar3_e, ↓gN_e, ↓gTp_e, ↓gNs_e, ↓gN0_e, ↓dVar_e, ↓dC_e, ↓dCB_e, ↓dCons_e, ↓dNil_e, ↓dTup_e, ↓dLst_e, ↓dLstM_e, ↓dOpMul_e, ↓dOpAdd_e, ↓dOpSub_e, ↓dOpFdv_e, ↓dOpMod_e, ↓dOpPow_e, ↓dOpCm_e, ↓dOpEq_e, ↓dOpIn_e, ↓dOpIs_e, ↓dTst_e, ↓dTbl_e, ↓dNot_e, ↓dAnd_e, ↓dOr_e, ↓dAndV_e, ↓dOrV_e, ↓dNotV_e, ↓dIf_e, ↓dCall_e, ↓dSm_e, ↓dCm_e, ↓dFor_e, ↓iSq_e, ↓iRng1_e, ↓dNeg_e, ↓dFld_e, ↓dLc_e, ↓dBM_e, ↓dFmt_e, ↓dSl_e, ↓dPart_e, ↓dNoPart_e, ↓dfl_e0, ↓tMul_ii, ↓tAdd_ii, ↓tSub_ii, ↓tFdiv_ii, ↓tMod_ii, ↓tPow_ii, ↓tCm_ii, ↓rdP0, ↓rdP1, ↓rdV0, ↓rdV1, ↓rdA,
      kBl, kTru, rIsN_f, rIsN_t, isNon_non, isNon_int, isNon_str, isNon_tup, isNon_lst, isNon_parts, isNon_amt, rIsiD, kSome, startD, kI2, rInt2,
      List.map_cons, List.map_nil, List.length_cons, List.length_nil, List.cons_append, List.nil_append, List.getElem?_cons_zero, List.getElem?_cons_succ, List.replicate, Nat.reduceSub, Nat.reduceAdd, Nat.reduceLeDiff, Nat.zero_add, Nat.add_zero, Nat.sub_self, Nat.sub_zero, List.set_cons_zero, List.set_cons_succ, List.append_nil, List.drop, List.drop_zero,
      Option.some.injEq, exists_eq_left', exists_eq_left, true_and, and_true, if_true, if_false, Bool.false_eq_true, Bool.not_true, Bool.not_false, ite_true, ite_false, reduceIte, reduceCtorEq, Nat.le_refl, ]
      refine drawP hl (by omega) (by omega) m0 (bg_of (by omega)) fun i k2 g2 i0 i1 a2 b2 => ?_
      exact hD _ _ ⟨i, k2, g2, i0, i1, rfl, rfl, by omega, by omega⟩
    rintro _ _ ⟨i, k2, g2, i0, i1, rfl, rfl, a2, b2⟩
    refine dSeq_stepA (fun sd W' => ∃ (n k3 g3 : Int), 0 ≤ n ∧ n ≤ 10000000000000000000001000000000 * 1000000000 ∧ sd = [some (.ptr p), some (.int m), some (.int n)] ∧ W' = put W p (penM cs k3 g3) ∧ k ≤ k3 ∧ k3 ≤ k + 4) (fun D' hD => ?_) ?_
    · simp only [↓dSeq_e, ↓dNext_e, ↓dBreak_e, ↓dCont_e, ↓dNever_e, ↓dRet_e, ↓dRetN_e, ↓dDrop_e, ↓dIfS_e, ↓dAsg_e, ↓dPar_e, ↓dPar3_e, ↓gN_e, ↓gTp_e, ↓gNs_e, ↓gN0_e, ↓dVar_e, ↓dC_e, ↓dCB_e, ↓dCons_e, ↓dNil_e, ↓dTup_e, ↓dLst_e, ↓dLstM_e, ↓dOpMul_e, ↓dOpAdd_e, ↓dOpSub_e, ↓dOpFdv_e, ↓dOpMod_e, ↓dOpPow_e, ↓dOpCm_e, ↓dOpEq_e, ↓dOpIn_e, ↓dOpIs_e, ↓dTst_e, ↓dTbl_e, ↓dNot_e, ↓dAnd_e, ↓dOr_e, ↓dAndV_e, ↓dOrV_e, ↓dNotV_e, ↓dIf_e, ↓dCall_e, ↓dSm_e, ↓dCm_e, ↓dFor_e, ↓iSq_e, ↓iRng1_e, ↓dNeg_e, ↓dFld_e, ↓dLc_e, ↓dBM_e, ↓dFmt_e, ↓dSl_e, ↓dPart_e, ↓dNoPart_e, ↓dfl_e0, ↓tMul_ii, ↓tAdd_ii, ↓tSub_ii, ↓tFdiv_ii, ↓tMod_ii, ↓tPow_ii, ↓tCm_ii, ↓rdP0, ↓rdP1, ↓rdV0, ↓rdV1, ↓rdA,
      kBl, kTru, rIsN_f, rIsN_t, isNon_non, isNon_int, isNon_str, isNon_tup, isNon_lst, isNon_parts, isNon_amt, rIsiD, kSome, startD, kI2, rInt2,
      List.map_cons, List.map_nil, List.length_cons, List.length_nil, List.cons_append, List.nil_append, List.getElem?_cons_zero, List.getElem?_cons_succ, List.replicate, Nat.reduceSub, Nat.reduceAdd, Nat.reduceLeDiff, Nat.zero_add, Nat.add_zero, Nat.sub_self, Nat.sub_zero, List.set_cons_zero, List.set_cons_succ, List.append_nil, List.drop, List.drop_zero,
      Option.some.injEq, exists_eq_left', exists_eq_left, true_and, and_true, if_true, if_false, Bool.false_eq_true, Bool.not_true, Bool.not_false, ite_true, ite_false, reduceIte, reduceCtorEq, Nat.le_refl, ↓dOp_e]
      refine drawP hl (by omega) (by omega) (by decide) (bg_small (by decide)) fun u k3 g3 u0 u1 a3 b3 => ?_
      simp only [↓dSeq_e, ↓dNext_e, ↓dBreak_e, ↓dCont_e, ↓dNever_e, ↓dRet_e, ↓dRetN_e, ↓dDrop_e, ↓dIfS_e, ↓dAsg_e, ↓dPar_e, ↓dPar3_e, ↓gN_e, ↓gTp_e, ↓gNs_e, ↓gN0_e, ↓dVar_e, ↓dC_e, ↓dCB_e, ↓dCons_e, ↓dNil_e, ↓dTup_e, ↓dLst_e, ↓dLstM_e, ↓dOpMul_e, ↓dOpAdd_e, ↓dOpSub_e, ↓dOpFdv_e, ↓dOpMod_e, ↓dOpPow_e, ↓dOpCm_e, ↓dOpEq_e, ↓dOpIn_e, ↓dOpIs_e, ↓dTst_e, ↓dTbl_e, ↓dNot_e, ↓dAnd_e, ↓dOr_e, ↓dAndV_e, ↓dOrV_e, ↓dNotV_e, ↓dIf_e, ↓dCall_e, ↓dSm_e, ↓dCm_e, ↓dFor_e, ↓iSq_e, ↓iRng1_e, ↓dNeg_e, ↓dFld_e, ↓dLc_e, ↓dBM_e, ↓dFmt_e, ↓dSl_e, ↓dPart_e, ↓dNoPart_e, ↓dfl_e0, ↓tMul_ii, ↓tAdd_ii, ↓tSub_ii, ↓tFdiv_ii, ↓tMod_ii, ↓tPow_ii, ↓tCm_ii, ↓rdP0, ↓rdP1, ↓rdV0, ↓rdV1, ↓rdA,
      kBl, kTru, rIsN_f, rIsN_t, isNon_non, isNon_int, isNon_str, isNon_tup, isNon_lst, isNon_parts, isNon_amt, rIsiD, kSome, startD, kI2, rInt2,
      List.map_cons, List.map_nil, List.length_cons, List.length_nil, List.cons_append, List.nil_append, List.getElem?_cons_zero, List.getElem?_cons_succ, List.replicate, Nat.reduceSub, Nat.reduceAdd, Nat.reduceLeDiff, Nat.zero_add, Nat.add_zero, Nat.sub_self, Nat.sub_zero, List.set_cons_zero, List.set_cons_succ, List.append_nil, List.drop, List.drop_zero,
      Option.some.injEq, exists_eq_left', exists_eq_left, true_and, and_true, if_true, if_false, Bool.false_eq_true, Bool.not_true, Bool.not_false, ite_true, ite_false, reduceIte, reduceCtorEq, Nat.le_refl, rEqQ, eqII, dpII]
      by_cases hu : u = 0
      · subst hu
        rw [if_pos (by decide)]
        have m1 : CMulW i (10 ^ Int.toNat 22) ∨ CMul i (10 ^ Int.toNat 22) := mulW (sm_of (by omega)) (by unfold Sm; decide)
        simp only [↓dSeq_e, ↓dNext_e, ↓dBreak_e, ↓dCont_e, ↓dNever_e, ↓dRet_e, ↓dRetN_e, ↓dDrop_e, ↓dIfS_e, ↓dAsg_e, ↓dPar_e, ↓dPar3_e, ↓gN_e, ↓gTp_e, ↓gNs_e, ↓gN0_e, ↓dVar_e, ↓dC_e, ↓dCB_e, ↓dCons_e, ↓dNil_e, ↓dTup_e, ↓dLst_e, ↓dLstM_e, ↓dOpMul_e, ↓dOpAdd_e, ↓dOpSub_e, ↓dOpFdv_e, ↓dOpMod_e, ↓dOpPow_e, ↓dOpCm_e, ↓dOpEq_e, ↓dOpIn_e, ↓dOpIs_e, ↓dTst_e, ↓dTbl_e, ↓dNot_e, ↓dAnd_e, ↓dOr_e, ↓dAndV_e, ↓dOrV_e, ↓dNotV_e, ↓dIf_e, ↓dCall_e, ↓dSm_e, ↓dCm_e, ↓dFor_e, ↓iSq_e, ↓iRng1_e, ↓dNeg_e, ↓dFld_e, ↓dLc_e, ↓dBM_e, ↓dFmt_e, ↓dSl_e, ↓dPart_e, ↓dNoPart_e, ↓dfl_e0, ↓tMul_ii, ↓tAdd_ii, ↓tSub_ii, ↓tFdiv_ii, ↓tMod_ii, ↓tPow_ii, ↓tCm_ii, ↓rdP0, ↓rdP1, ↓rdV0, ↓rdV1, ↓rdA,
      kBl, kTru, rIsN_f, rIsN_t, isNon_non, isNon_int, isNon_str, isNon_tup, isNon_lst, isNon_parts, isNon_amt, rIsiD, kSome, startD, kI2, rInt2,
      List.map_cons, List.map_nil, List.length_cons, List.length_nil, List.cons_append, List.nil_append, List.getElem?_cons_zero, List.getElem?_cons_succ, List.replicate, Nat.reduceSub, Nat.reduceAdd, Nat.reduceLeDiff, Nat.zero_add, Nat.add_zero, Nat.sub_self, Nat.sub_zero, List.set_cons_zero, List.set_cons_succ, List.append_nil, List.drop, List.drop_zero,
      Option.some.injEq, exists_eq_left', exists_eq_left, true_and, and_true, if_true, if_false, Bool.false_eq_true, Bool.not_true, Bool.not_false, ite_true, ite_false, reduceIte, reduceCtorEq, Nat.le_refl, ↓dOp_e, of_eq_true cpow22, of_eq_true cpow9, m1]
        refine drawP hl (by omega) (by omega) (by decide) (bg_small (by decide)) fun v k4 g4 v0 v1 a4 b4 => ?_
        have e22 : (10 : Int) ^ Int.toNat 22 = 10000000000000000000000 := by decide
        have e9 : (10 : Int) ^ Int.toNat 9 = 1000000000 := by decide
        rw [e9] at v1
        rw [e22]
        exact hD _ _ ⟨i * 10000000000000000000000 + v, k4, g4, by omega, by omega, rfl, rfl, by omega, by omega⟩
      · rw [if_neg (by simp; exact hu)]
        exact hD _ _ ⟨i, k3, g3, i0, by omega, rfl, rfl, by omega, by omega⟩
    rintro _ _ ⟨n, k3, g3, n0, n1, rfl, rfl, a3, b3⟩
    simp only [↓dSeq_e, ↓dNext_e, ↓dBreak_e, ↓dCont_e, ↓dNever_e, ↓dRet_e, ↓dRetN_e, ↓dDrop_e, ↓dIfS_e, ↓dAsg_e, ↓dPar_e, ↓dPar3_e, ↓gN_e, ↓gTp_e, ↓gNs_e, ↓gN0_e, ↓dVar_e, ↓dC_e, ↓dCB_e, ↓dCons_e, ↓dNil_e, ↓dTup_e, ↓dLst_e, ↓dLstM_e, ↓dOpMul_e, ↓dOpAdd_e, ↓dOpSub_e, ↓dOpFdv_e, ↓dOpMod_e, ↓dOpPow_e, ↓dOpCm_e, ↓dOpEq_e, ↓dOpIn_e, ↓dOpIs_e, ↓dTst_e, ↓dTbl_e, ↓dNot_e, ↓dAnd_e, ↓dOr_e, ↓dAndV_e, ↓dOrV_e, ↓dNotV_e, ↓dIf_e, ↓dCall_e, ↓dSm_e, ↓dCm_e, ↓dFor_e, ↓iSq_e, ↓iRng1_e, ↓dNeg_e, ↓dFld_e, ↓dLc_e, ↓dBM_e, ↓dFmt_e, ↓dSl_e, ↓dPart_e, ↓dNoPart_e, ↓dfl_e0, ↓tMul_ii, ↓tAdd_ii, ↓tSub_ii, ↓tFdiv_ii, ↓tMod_ii, ↓tPow_ii, ↓tCm_ii, ↓rdP0, ↓rdP1, ↓rdV0, ↓rdV1, ↓rdA,
      kBl, kTru, rIsN_f, rIsN_t, isNon_non, isNon_int, isNon_str, isNon_tup, isNon_lst, isNon_parts, isNon_amt, rIsiD, kSome, startD, kI2, rInt2,
      List.map_cons, List.map_nil, List.length_cons, List.length_nil, List.cons_append, List.nil_append, List.getElem?_cons_zero, List.getElem?_cons_succ, List.replicate, Nat.reduceSub, Nat.reduceAdd, Nat.reduceLeDiff, Nat.zero_add, Nat.add_zero, Nat.sub_self, Nat.sub_zero, List.set_cons_zero, List.set_cons_succ, List.append_nil, List.drop, List.drop_zero,
      Option.some.injEq, exists_eq_left', exists_eq_left, true_and, and_true, if_true, if_false, Bool.false_eq_true, Bool.not_true, Bool.not_false, ite_true, ite_false, reduceIte, reduceCtorEq, Nat.le_refl, ↓dOp_e]
    refine drawP hl (by omega) (by omega) (by decide) (bg_small (by decide)) fun u k4 g4 u0 u1 a4 b4 => ?_
    simp only [↓dSeq_e, ↓dNext_e, ↓dBreak_e, ↓dCont_e, ↓dNever_e, ↓dRet_e, ↓dRetN_e, ↓dDrop_e, ↓dIfS_e, ↓dAsg_e, ↓dPar_e, ↓dPar3_e, ↓gN_e, ↓gTp_e, ↓gNs_e, ↓gN0_e, ↓dVar_e, ↓dC_e, ↓dCB_e, ↓dCons_e, ↓dNil_e, ↓dTup_e, ↓dLst_e, ↓dLstM_e, ↓dOpMul_e, ↓dOpAdd_e, ↓dOpSub_e, ↓dOpFdv_e, ↓dOpMod_e, ↓dOpPow_e, ↓dOpCm_e, ↓dOpEq_e, ↓dOpIn_e, ↓dOpIs_e, ↓dTst_e, ↓dTbl_e, ↓dNot_e, ↓dAnd_e, ↓dOr_e, ↓dAndV_e, ↓dOrV_e, ↓dNotV_e, ↓dIf_e, ↓dCall_e, ↓dSm_e, ↓dCm_e, ↓dFor_e, ↓iSq_e, ↓iRng1_e, ↓dNeg_e, ↓dFld_e, ↓dLc_e, ↓dBM_e, ↓dFmt_e, ↓dSl_e, ↓dPart_e, ↓dNoPart_e, ↓dfl_e0, ↓tMul_ii, ↓tAdd_ii, ↓tSub_ii, ↓tFdiv_ii, ↓tMod_ii, ↓tPow_ii, ↓tCm_ii, ↓rdP0, ↓rdP1, ↓rdV0, ↓rdV1, ↓rdA,
      kBl, kTru, rIsN_f, rIsN_t, isNon_non, isNon_int, isNon_str, isNon_tup, isNon_lst, isNon_parts, isNon_amt, rIsiD, kSome, startD, kI2, rInt2,
      List.map_cons, List.map_nil, List.length_cons, List.length_nil, List.cons_append, List.nil_append, List.getElem?_cons_zero, List.getElem?_cons_succ, List.replicate, Nat.reduceSub, Nat.reduceAdd, Nat.reduceLeDiff, Nat.zero_add, Nat.add_zero, Nat.sub_self, Nat.sub_zero, List.set_cons_zero, List.set_cons_succ, List.append_nil, List.drop, List.drop_zero,
      Option.some.injEq, exists_eq_left', exists_eq_left, true_and, and_true, if_true, if_false, Bool.false_eq_true, Bool.not_true, Bool.not_false, ite_true, ite_false, reduceIte, reduceCtorEq, Nat.le_refl, rEqQ, eqII, dpII]
    by_cases hu : u = 0
    · subst hu
      rw [if_pos (by decide)]
      have h1 := h n (by omega) k4 g4 (by omega) (by omega)
      rw [put_put] at h1
      exact h1
    · rw [if_neg (by simp; exact hu)]
      try simp only [↓dSeq_e, ↓dNext_e, ↓dBreak_e, ↓dCont_e, ↓dNever_e, ↓dRet_e, ↓dRetN_e, ↓dDrop_e, ↓dIfS_e, ↓dAsg_e, ↓dPar_e, ↓dPar3_e, ↓gN_e, ↓gTp_e, ↓gNs_e, ↓gN0_e, ↓dVar_e, ↓dC_e, ↓dCB_e, ↓dCons_e, ↓dNil_e, ↓dTup_e, ↓dLst_e, ↓dLstM_e, ↓dOpMul_e, ↓dOpAdd_e, ↓dOpSub_e, ↓dOpFdv_e, ↓dOpMod_e, ↓dOpPow_e, ↓dOpCm_e, ↓dOpEq_e, ↓dOpIn_e, ↓dOpIs_e, ↓dTst_e, ↓dTbl_e, ↓dNot_e, ↓dAnd_e, ↓dOr_e, ↓dAndV_e, ↓dOrV_e, ↓dNotV_e, ↓dIf_e, ↓dCall_e, ↓dSm_e, ↓dCm_e, ↓dFor_e, ↓iSq_e, ↓iRng1_e, ↓dNeg_e, ↓dFld_e, ↓dLc_e, ↓dBM_e, ↓dFmt_e, ↓dSl_e, ↓dPart_e, ↓dNoPart_e, ↓dfl_e0, ↓tMul_ii, ↓tAdd_ii, ↓tSub_ii, ↓tFdiv_ii, ↓tMod_ii, ↓tPow_ii, ↓tCm_ii, ↓rdP0, ↓rdP1, ↓rdV0, ↓rdV1, ↓rdA,
      kBl, kTru, rIsN_f, rIsN_t, isNon_non, isNon_int, isNon_str, isNon_tup, isNon_lst, isNon_parts, isNon_amt, rIsiD, kSome, startD, kI2, rInt2,
      List.map_cons, List.map_nil, List.length_cons, List.length_nil, List.cons_append, List.nil_append, List.getElem?_cons_zero, List.getElem?_cons_succ, List.replicate, Nat.reduceSub, Nat.reduceAdd, Nat.reduceLeDiff, Nat.zero_add, Nat.add_zero, Nat.sub_self, Nat.sub_zero, List.set_cons_zero, List.set_cons_succ, List.append_nil, List.drop, List.drop_zero,
      Option.some.injEq, exists_eq_left', exists_eq_left, true_and, and_true, if_true, if_false, Bool.false_eq_true, Bool.not_true, Bool.not_false, ite_true, ite_false, reduceIte, reduceCtorEq, Nat.le_refl, ↓dOp_e]
      have h1 := h (0 - n) (by omega) k4 g4 (by omega) (by omega)
      rw [put_put] at h1
      exact h1
def bnN (n : Int) : Prop := n.natAbs ≤ 20000000000000000000000000000000000000000
theorem numP {S : Sy} {W : Wd} {p : Addr} {cs : List Int} {k g : Int} {Q E : QD} (hl : cs.length ≤ 63) (h0 : 0 ≤ k) (hk : k + 5 ≤ 100000) (q : ∀ n k' g', bnN n → k ≤ k' → k' ≤ k + 5 → Q (.int n) (put W p (penM cs k' g'))) : sp__law_number S [.ptr p] (put W p (penM cs k g)) Q E :=
  ⟨cs, k, g, ⟨put_same, hl, h0, by omega⟩, hk, fun n h1 k' g' h4 h5 => by
    rw [put_put]
    exact q n k' g' h1 h4 h5⟩
/-! ### the divisor -/
theorem len__law_divisor (S : Sy) : ∀ ds W Q E, sp__law_divisor S ds W Q E → ds.length = 2 := fun ds W Q E h => by
  match ds, h with
  | [.int a, .int b], h => rfl
theorem pf__law_divisor (S : Sy) : ∀ ds W Q2 E2, sp__law_divisor S ds W Q2 E2 → t__law_divisor S { nx := fun _ W => Q2 .non W, rt := Q2 } (startD ["_law_one", "_law_other", "_law_high", "_law_low"] ds) W (fun x _ W => E2 x W) := by
  intro ds W Q E h
  match ds, h with
  | [.int a, .int b], q =>
    simp only [↓dSeq_e, ↓dNext_e, ↓dBreak_e, ↓dCont_e, ↓dNever_e, ↓dRet_e, ↓dRetN_e, ↓dDrop_e, ↓dIfS_e, ↓dAsg_e, ↓dPar_e, ↓dPar3_e, ↓gN_e, ↓gTp_e, ↓gNs_e, ↓gN0_e, ↓dVar_e, ↓dC_e, ↓dCB_e, ↓dCons_e, ↓dNil_e, ↓dTup_e, ↓dLst_e, ↓dLstM_e, ↓dOpMul_e, ↓dOpAdd_e, ↓dOpSub_e, ↓dOpFdv_e, ↓dOpMod_e, ↓dOpPow_e, ↓dOpCm_e, ↓dOpEq_e, ↓dOpIn_e, ↓dOpIs_e, ↓dTst_e, ↓dTbl_e, ↓dNot_e, ↓dAnd_e, ↓dOr_e, ↓dAndV_e, ↓dOrV_e, ↓dNotV_e, ↓dIf_e, ↓dCall_e, ↓dSm_e, ↓dCm_e, ↓dFor_e, ↓iSq_e, ↓iRng1_e, ↓dNeg_e, ↓dFld_e, ↓dLc_e, ↓dBM_e, ↓dFmt_e, ↓dSl_e, ↓dPart_e, ↓dNoPart_e, ↓dfl_e0, ↓tMul_ii, ↓tAdd_ii, ↓tSub_ii, ↓tFdiv_ii, ↓tMod_ii, ↓tPow_ii, ↓tCm_ii, ↓rdP0, ↓rdP1, ↓rdV0, ↓rdV1, ↓rdA,
      kBl, kTru, rIsN_f, rIsN_t, isNon_non, isNon_int, isNon_str, isNon_tup, isNon_lst, isNon_parts, isNon_amt, rIsiD, kSome, startD, kI2, rInt2,
      List.map_cons, List.map_nil, List.length_cons, List.length_nil, List.cons_append, List.nil_append, List.getElem?_cons_zero, List.getElem?_cons_succ, List.replicate, Nat.reduceSub, Nat.reduceAdd, Nat.reduceLeDiff, Nat.zero_add, Nat.add_zero, Nat.sub_self, Nat.sub_zero, List.set_cons_zero, List.set_cons_succ, List.append_nil, List.drop, List.drop_zero,
      Option.some.injEq, exists_eq_left', exists_eq_left, true_and, and_true, if_true, if_false, Bool.false_eq_true, Bool.not_true, Bool.not_false, ite_true, ite_false, reduceIte, reduceCtorEq, Nat.le_refl, t__law_divisor, ↓dAbs_k, absK_i]
    refine ⟨fun m sd W' => W' = W ∧ ∃ hi lo : Int, sd = [some (.int a), some (.int b), some (.int hi), some (.int lo)] ∧ 0 ≤ hi ∧ 0 ≤ lo ∧ Int.gcd hi lo = Int.gcd a b ∧ m = lo.toNat, ⟨_, rfl, _, _, rfl, abs_nn _, abs_nn _, gcd_abs a b, rfl⟩, ?_⟩
    rintro m sd W' ⟨rfl, hi, lo, rfl, h1, h2, h3, rfl⟩
    simp only [↓dSeq_e, ↓dNext_e, ↓dBreak_e, ↓dCont_e, ↓dNever_e, ↓dRet_e, ↓dRetN_e, ↓dDrop_e, ↓dIfS_e, ↓dAsg_e, ↓dPar_e, ↓dPar3_e, ↓gN_e, ↓gTp_e, ↓gNs_e, ↓gN0_e, ↓dVar_e, ↓dC_e, ↓dCB_e, ↓dCons_e, ↓dNil_e, ↓dTup_e, ↓dLst_e, ↓dLstM_e, ↓dOpMul_e, ↓dOpAdd_e, ↓dOpSub_e, ↓dOpFdv_e, ↓dOpMod_e, ↓dOpPow_e, ↓dOpCm_e, ↓dOpEq_e, ↓dOpIn_e, ↓dOpIs_e, ↓dTst_e, ↓dTbl_e, ↓dNot_e, ↓dAnd_e, ↓dOr_e, ↓dAndV_e, ↓dOrV_e, ↓dNotV_e, ↓dIf_e, ↓dCall_e, ↓dSm_e, ↓dCm_e, ↓dFor_e, ↓iSq_e, ↓iRng1_e, ↓dNeg_e, ↓dFld_e, ↓dLc_e, ↓dBM_e, ↓dFmt_e, ↓dSl_e, ↓dPart_e, ↓dNoPart_e, ↓dfl_e0, ↓tMul_ii, ↓tAdd_ii, ↓tSub_ii, ↓tFdiv_ii, ↓tMod_ii, ↓tPow_ii, ↓tCm_ii, ↓rdP0, ↓rdP1, ↓rdV0, ↓rdV1, ↓rdA,
      kBl, kTru, rIsN_f, rIsN_t, isNon_non, isNon_int, isNon_str, isNon_tup, isNon_lst, isNon_parts, isNon_amt, rIsiD, kSome, startD, kI2, rInt2,
      List.map_cons, List.map_nil, List.length_cons, List.length_nil, List.cons_append, List.nil_append, List.getElem?_cons_zero, List.getElem?_cons_succ, List.replicate, Nat.reduceSub, Nat.reduceAdd, Nat.reduceLeDiff, Nat.zero_add, Nat.add_zero, Nat.sub_self, Nat.sub_zero, List.set_cons_zero, List.set_cons_succ, List.append_nil, List.drop, List.drop_zero,
      Option.some.injEq, exists_eq_left', exists_eq_left, true_and, and_true, if_true, if_false, Bool.false_eq_true, Bool.not_true, Bool.not_false, ite_true, ite_false, reduceIte, reduceCtorEq, Nat.le_refl, rEqQ, eqII, dpII, rIntD]
    by_cases hz : lo = 0
    · subst hz
      simp only [beq_self_eq_true, Bool.not_true, Bool.false_eq_true, if_false]
      have : hi = (Int.gcd a b : Int) := by
        rw [← h3, Int.gcd_zero_right]
        omega
      rw [this]
      try simp only [↓dSeq_e, ↓dNext_e, ↓dBreak_e, ↓dCont_e, ↓dNever_e, ↓dRet_e, ↓dRetN_e, ↓dDrop_e, ↓dIfS_e, ↓dAsg_e, ↓dPar_e, ↓dPar3_e, ↓gN_e, ↓gTp_e, ↓gNs_e, ↓gN0_e, ↓dVar_e, ↓dC_e, ↓dCB_e, ↓dCons_e, ↓dNil_e, ↓dTup_e, ↓dLst_e, ↓dLstM_e, ↓dOpMul_e, ↓dOpAdd_e, ↓dOpSub_e, ↓dOpFdv_e, ↓dOpMod_e, ↓dOpPow_e, ↓dOpCm_e, ↓dOpEq_e, ↓dOpIn_e, ↓dOpIs_e, ↓dTst_e, ↓dTbl_e, ↓dNot_e, ↓dAnd_e, ↓dOr_e, ↓dAndV_e, ↓dOrV_e, ↓dNotV_e, ↓dIf_e, ↓dCall_e, ↓dSm_e, ↓dCm_e, ↓dFor_e, ↓iSq_e, ↓iRng1_e, ↓dNeg_e, ↓dFld_e, ↓dLc_e, ↓dBM_e, ↓dFmt_e, ↓dSl_e, ↓dPart_e, ↓dNoPart_e, ↓dfl_e0, ↓tMul_ii, ↓tAdd_ii, ↓tSub_ii, ↓tFdiv_ii, ↓tMod_ii, ↓tPow_ii, ↓tCm_ii, ↓rdP0, ↓rdP1, ↓rdV0, ↓rdV1, ↓rdA,
      kBl, kTru, rIsN_f, rIsN_t, isNon_non, isNon_int, isNon_str, isNon_tup, isNon_lst, isNon_parts, isNon_amt, rIsiD, kSome, startD, kI2, rInt2,
      List.map_cons, List.map_nil, List.length_cons, List.length_nil, List.cons_append, List.nil_append, List.getElem?_cons_zero, List.getElem?_cons_succ, List.replicate, Nat.reduceSub, Nat.reduceAdd, Nat.reduceLeDiff, Nat.zero_add, Nat.add_zero, Nat.sub_self, Nat.sub_zero, List.set_cons_zero, List.set_cons_succ, List.append_nil, List.drop, List.drop_zero,
      Option.some.injEq, exists_eq_left', exists_eq_left, true_and, and_true, if_true, if_false, Bool.false_eq_true, Bool.not_true, Bool.not_false, ite_true, ite_false, reduceIte, reduceCtorEq, Nat.le_refl, ]
      exact q
    · have e : (lo == 0) = false := by simpa using hz
      simp only [e, Bool.not_false, if_true]
      refine ⟨by omega, (hi % lo).toNat, ?_, lo, hi % lo, rfl, h2, Int.emod_nonneg _ hz, ?_, rfl⟩
      · have := Int.emod_lt_of_pos hi (show 0 < lo by omega)
        have := Int.emod_nonneg hi hz
        omega
      · rw [← h3]
        exact gcd_step h1 h2
/-! ### what is heard -/
theorem pf__law_heard (S : Sy) : ∀ (q : Str) (f c : Addr) (F0 : Hp) (td : LD) W Q2, sp__law_heard S td W Q2 → t__law_heard S q f c F0 td { nx := fun _ W => Q2 .non W, rt := Q2 } (startD ["_law_ask", "_law_caught", "error"] [.lam f c q F0]) W (fun _ _ _ => False) := by
  intro q f c F0 td W Q h
  have key : ∀ (F1 F1' F2 F2' : QD), F1 = F1' → F2 = F2' → td W F1' F2' → td W F1 F2 := fun _ _ _ _ e1 e2 h => by
    rw [e1, e2]
    exact h
  simp only [↓dSeq_e, ↓dNext_e, ↓dBreak_e, ↓dCont_e, ↓dNever_e, ↓dRet_e, ↓dRetN_e, ↓dDrop_e, ↓dIfS_e, ↓dAsg_e, ↓dPar_e, ↓dPar3_e, ↓gN_e, ↓gTp_e, ↓gNs_e, ↓gN0_e, ↓dVar_e, ↓dC_e, ↓dCB_e, ↓dCons_e, ↓dNil_e, ↓dTup_e, ↓dLst_e, ↓dLstM_e, ↓dOpMul_e, ↓dOpAdd_e, ↓dOpSub_e, ↓dOpFdv_e, ↓dOpMod_e, ↓dOpPow_e, ↓dOpCm_e, ↓dOpEq_e, ↓dOpIn_e, ↓dOpIs_e, ↓dTst_e, ↓dTbl_e, ↓dNot_e, ↓dAnd_e, ↓dOr_e, ↓dAndV_e, ↓dOrV_e, ↓dNotV_e, ↓dIf_e, ↓dCall_e, ↓dSm_e, ↓dCm_e, ↓dMeth_e, ↓dFor_e, ↓iSq_e, ↓iRng1_e, ↓dNeg_e, ↓dNegO_e, ↓dFld_e, ↓dLc_e, ↓dBM_e, ↓dFmt_e, ↓dB1_e, ↓dSl_e, ↓dPart_e, ↓dNoPart_e, ↓dfl_e0, ↓tMul_ii, ↓tAdd_ii, ↓tSub_ii, ↓tFdiv_ii, ↓tMod_ii, ↓tPow_ii, ↓tCm_ii, ↓rdP0, ↓rdP1, ↓rdV0, ↓rdV1, ↓rdA,
      kBl, kTru, rIsN_f, rIsN_t, isNon_non, isNon_int, isNon_str, isNon_tup, isNon_lst, isNon_parts, isNon_amt, rIsiD, kSome, startD, kI2, rInt2,
      List.map_cons, List.map_nil, List.length_cons, List.length_nil, List.cons_append, List.nil_append, List.getElem?_cons_zero, List.getElem?_cons_succ, List.replicate, Nat.reduceSub, Nat.reduceAdd, Nat.reduceLeDiff, Nat.zero_add, Nat.add_zero, Nat.sub_self, Nat.sub_zero, List.set_cons_zero, List.set_cons_succ, List.append_nil, List.drop, List.drop_zero,
      Option.some.injEq, exists_eq_left', exists_eq_left, true_and, and_true, if_true, if_false, Bool.false_eq_true, Bool.not_true, Bool.not_false, ite_true, ite_false, reduceIte, reduceCtorEq, Nat.le_refl, t__law_heard, ↓dTryAct]
  refine key _ _ _ _ ?_ ?_ h
  · funext d W1
    try simp only [↓dSeq_e, ↓dNext_e, ↓dBreak_e, ↓dCont_e, ↓dNever_e, ↓dRet_e, ↓dRetN_e, ↓dDrop_e, ↓dIfS_e, ↓dAsg_e, ↓dPar_e, ↓dPar3_e, ↓gN_e, ↓gTp_e, ↓gNs_e, ↓gN0_e, ↓dVar_e, ↓dC_e, ↓dCB_e, ↓dCons_e, ↓dNil_e, ↓dTup_e, ↓dLst_e, ↓dLstM_e, ↓dOpMul_e, ↓dOpAdd_e, ↓dOpSub_e, ↓dOpFdv_e, ↓dOpMod_e, ↓dOpPow_e, ↓dOpCm_e, ↓dOpEq_e, ↓dOpIn_e, ↓dOpIs_e, ↓dTst_e, ↓dTbl_e, ↓dNot_e, ↓dAnd_e, ↓dOr_e, ↓dAndV_e, ↓dOrV_e, ↓dNotV_e, ↓dIf_e, ↓dCall_e, ↓dSm_e, ↓dCm_e, ↓dMeth_e, ↓dFor_e, ↓iSq_e, ↓iRng1_e, ↓dNeg_e, ↓dNegO_e, ↓dFld_e, ↓dLc_e, ↓dBM_e, ↓dFmt_e, ↓dB1_e, ↓dSl_e, ↓dPart_e, ↓dNoPart_e, ↓dfl_e0, ↓tMul_ii, ↓tAdd_ii, ↓tSub_ii, ↓tFdiv_ii, ↓tMod_ii, ↓tPow_ii, ↓tCm_ii, ↓rdP0, ↓rdP1, ↓rdV0, ↓rdV1, ↓rdA,
      kBl, kTru, rIsN_f, rIsN_t, isNon_non, isNon_int, isNon_str, isNon_tup, isNon_lst, isNon_parts, isNon_amt, rIsiD, kSome, startD, kI2, rInt2,
      List.map_cons, List.map_nil, List.length_cons, List.length_nil, List.cons_append, List.nil_append, List.getElem?_cons_zero, List.getElem?_cons_succ, List.replicate, Nat.reduceSub, Nat.reduceAdd, Nat.reduceLeDiff, Nat.zero_add, Nat.add_zero, Nat.sub_self, Nat.sub_zero, List.set_cons_zero, List.set_cons_succ, List.append_nil, List.drop, List.drop_zero,
      Option.some.injEq, exists_eq_left', exists_eq_left, true_and, and_true, if_true, if_false, Bool.false_eq_true, Bool.not_true, Bool.not_false, ite_true, ite_false, reduceIte, reduceCtorEq, Nat.le_refl]
  · funext x W1
    cases x with
    | exn k fs =>
      by_cases hk : k = 3
      · subst hk
        simp only [↓dSeq_e, ↓dNext_e, ↓dBreak_e, ↓dCont_e, ↓dNever_e, ↓dRet_e, ↓dRetN_e, ↓dDrop_e, ↓dIfS_e, ↓dAsg_e, ↓dPar_e, ↓dPar3_e, ↓gN_e, ↓gTp_e, ↓gNs_e, ↓gN0_e, ↓dVar_e, ↓dC_e, ↓dCB_e, ↓dCons_e, ↓dNil_e, ↓dTup_e, ↓dLst_e, ↓dLstM_e, ↓dOpMul_e, ↓dOpAdd_e, ↓dOpSub_e, ↓dOpFdv_e, ↓dOpMod_e, ↓dOpPow_e, ↓dOpCm_e, ↓dOpEq_e, ↓dOpIn_e, ↓dOpIs_e, ↓dTst_e, ↓dTbl_e, ↓dNot_e, ↓dAnd_e, ↓dOr_e, ↓dAndV_e, ↓dOrV_e, ↓dNotV_e, ↓dIf_e, ↓dCall_e, ↓dSm_e, ↓dCm_e, ↓dMeth_e, ↓dFor_e, ↓iSq_e, ↓iRng1_e, ↓dNeg_e, ↓dNegO_e, ↓dFld_e, ↓dLc_e, ↓dBM_e, ↓dFmt_e, ↓dB1_e, ↓dSl_e, ↓dPart_e, ↓dNoPart_e, ↓dfl_e0, ↓tMul_ii, ↓tAdd_ii, ↓tSub_ii, ↓tFdiv_ii, ↓tMod_ii, ↓tPow_ii, ↓tCm_ii, ↓rdP0, ↓rdP1, ↓rdV0, ↓rdV1, ↓rdA,
      kBl, kTru, rIsN_f, rIsN_t, isNon_non, isNon_int, isNon_str, isNon_tup, isNon_lst, isNon_parts, isNon_amt, rIsiD, kSome, startD, kI2, rInt2,
      List.map_cons, List.map_nil, List.length_cons, List.length_nil, List.cons_append, List.nil_append, List.getElem?_cons_zero, List.getElem?_cons_succ, List.replicate, Nat.reduceSub, Nat.reduceAdd, Nat.reduceLeDiff, Nat.zero_add, Nat.add_zero, Nat.sub_self, Nat.sub_zero, List.set_cons_zero, List.set_cons_succ, List.append_nil, List.drop, List.drop_zero,
      Option.some.injEq, exists_eq_left', exists_eq_left, true_and, and_true, if_true, if_false, Bool.false_eq_true, Bool.not_true, Bool.not_false, ite_true, ite_false, reduceIte, reduceCtorEq, Nat.le_refl, kExn_e, show lkX [(3, true)] 3 = some true from rfl, isNon_exn, rIsX_e, dXat_e, List.mem_singleton]
        try rfl
      · have e0 : lkX [(3, true)] k = none := by
          show (match k == 3 with | true => some true | false => none) = none
          rw [show (k == 3) = false by simpa using hk]
        simp only [↓dSeq_e, ↓dNext_e, ↓dBreak_e, ↓dCont_e, ↓dNever_e, ↓dRet_e, ↓dRetN_e, ↓dDrop_e, ↓dIfS_e, ↓dAsg_e, ↓dPar_e, ↓dPar3_e, ↓gN_e, ↓gTp_e, ↓gNs_e, ↓gN0_e, ↓dVar_e, ↓dC_e, ↓dCB_e, ↓dCons_e, ↓dNil_e, ↓dTup_e, ↓dLst_e, ↓dLstM_e, ↓dOpMul_e, ↓dOpAdd_e, ↓dOpSub_e, ↓dOpFdv_e, ↓dOpMod_e, ↓dOpPow_e, ↓dOpCm_e, ↓dOpEq_e, ↓dOpIn_e, ↓dOpIs_e, ↓dTst_e, ↓dTbl_e, ↓dNot_e, ↓dAnd_e, ↓dOr_e, ↓dAndV_e, ↓dOrV_e, ↓dNotV_e, ↓dIf_e, ↓dCall_e, ↓dSm_e, ↓dCm_e, ↓dMeth_e, ↓dFor_e, ↓iSq_e, ↓iRng1_e, ↓dNeg_e, ↓dNegO_e, ↓dFld_e, ↓dLc_e, ↓dBM_e, ↓dFmt_e, ↓dB1_e, ↓dSl_e, ↓dPart_e, ↓dNoPart_e, ↓dfl_e0, ↓tMul_ii, ↓tAdd_ii, ↓tSub_ii, ↓tFdiv_ii, ↓tMod_ii, ↓tPow_ii, ↓tCm_ii, ↓rdP0, ↓rdP1, ↓rdV0, ↓rdV1, ↓rdA,
      kBl, kTru, rIsN_f, rIsN_t, isNon_non, isNon_int, isNon_str, isNon_tup, isNon_lst, isNon_parts, isNon_amt, rIsiD, kSome, startD, kI2, rInt2,
      List.map_cons, List.map_nil, List.length_cons, List.length_nil, List.cons_append, List.nil_append, List.getElem?_cons_zero, List.getElem?_cons_succ, List.replicate, Nat.reduceSub, Nat.reduceAdd, Nat.reduceLeDiff, Nat.zero_add, Nat.add_zero, Nat.sub_self, Nat.sub_zero, List.set_cons_zero, List.set_cons_succ, List.append_nil, List.drop, List.drop_zero,
      Option.some.injEq, exists_eq_left', exists_eq_left, true_and, and_true, if_true, if_false, Bool.false_eq_true, Bool.not_true, Bool.not_false, ite_true, ite_false, reduceIte, reduceCtorEq, Nat.le_refl, kExn_e, e0]
        split
        · rename_i e
          cases e
          exact absurd rfl hk
        · rfl
    | _ => rfl
def heardK (Q : QD) (x : D) (W : Wd) : Prop := match x with
  | .exn 3 fs => (match fs.lookup 44 with
    | some y => Q y W
    | none => False)
  | _ => False
theorem heard_e {S : Sy} {tb : DE} {sd : SD} {W : Wd} {Q : QD} {E : QX} : dLam (sp__law_heard S) tb sd W Q E = tb sd W (fun _ W' => Q .non W') (fun x _ W' => heardK Q x W') := rfl
theorem heardK_b {Q : QD} {s : Str} {W : Wd} : heardK Q (badA s) W = Q (.str s) W := rfl
end Mv
end
section
set_option Elab.async false
set_option linter.all false
set_option maxRecDepth 100000
set_option maxHeartbeats 4000000
namespace Mv
open PySem PySem.Spec L2 SX
theorem bnN.bd {n : Int} (h : bnN n) : bd 134 n := Nat.lt_of_le_of_lt h (by decide)
/-! ### reprs -/
theorem pair_len {x y : Str} : (PySem.tupleText [x, y]).length ≤ x.length + y.length + 10 := by
  have e : PySem.tupleText [x, y] = (("(" : String) : Str) ++ (x ++ ((", " : String) : Str) ++ y) ++ (((")" : String)) : Str) := rfl
  rw [e, strLen_append, strLen_append, strLen_append, strLen_append]
  have e1 : ((("(" : String) : Str)).length = 1 := rfl
  have e2 : (((", " : String) : Str)).length = 2 := rfl
  have e3 : (((")" : String) : Str)).length = 1 := rfl
  omega
theorem repr_pair {a b : Int} {W : Wd} {Q : QD} {n m : Nat} (ha : Mv.bd n a) (hb : Mv.bd m b) (hn : n ≤ 1900 := by decide) (hm : m ≤ 1900 := by decide) : rRepr [.tup [.int a, .int b]] W Q = Q (.str (PyData.tuple [.int a, .int b]).shown) W := by
  have h1 : a.natAbs < 2 ^ 1900 := ha.up hn
  have h2 : b.natAbs < 2 ^ 1900 := hb.up hm
  have e : rRepr [.tup [.int a, .int b]] W Q = ((PyData.tuple [.int a, .int b]).showable = true ∧ (PyData.tuple [.int a, .int b]).shown.length ≤ sizeLine ∧ (PyData.tuple [.int a, .int b]).depth ≤ 60 ∧ Q (.str (PyData.tuple [.int a, .int b]).shown) W) := rfl
  rw [e]
  refine propext ⟨fun q => q.2.2.2, fun q => ⟨?_, ?_, ?_, q⟩⟩
  · simp only [PyData.showable, PyData.showableAll, Ss h1, Ss h2, decide_true, Bool.and_true]
  · have s1 := str_len h1
    have s2 := str_len h2
    have s3 := pair_len (x := (toString a : Str)) (y := (toString b : Str))
    have e2 : (PyData.tuple [.int a, .int b]).shown = PySem.tupleText [(toString a : Str), (toString b : Str)] := by simp only [PyData.shown, PyData.shownAll]
    rw [e2]
    have : sizeLine = 16777216 := by decide
    omega
  · show _ ≤ 60
    simp only [PyData.depth, PyData.depthAll]
    decide
theorem b3_len : ∀ b c d : Bool, (PyData.list [.bool b, .bool c, .bool d]).shown.length ≤ 100 := by decide +kernel
theorem repr_b3 {x y z : Bool} {W : Wd} {Q : QD} : rRepr [.lst [.bl x, .bl y, .bl z]] W Q = Q (.str (PyData.list [.bool x, .bool y, .bool z]).shown) W :=
  propext ⟨fun q => q.2.2.2, fun q => ⟨rfl, Nat.le_trans (b3_len _ _ _) (by decide), (by show 1 ≤ 60; decide), q⟩⟩
/-! ### made by names; bool; texts -/
section
variable {S : Sy} {sd : SD} {W : Wd} {Q : QD} {E : QX} {p : Rat} {i : Int}
theorem dMkK_k {tb tt : DE} : dFrz (dMakeK 0 2 [0, 2, 1] (sp_Amount_init S) (dCons tb (dCons tt dNil))) sd W Q E = tb sd W (fun b W1 => tt sd W1 (fun t W2 => mkA S Q E sd [t, b] W2) E) E := by
  show (tb sd W (fun b W1 => tt sd W1 (fun t W2 => ∀ p, W2 p = none → kwd 1 2 [0, 2, 1] [.ptr p] [b, t] fun ds' => sp_Amount_init S ds' (put W2 p (.ins 0 [])) (fun d W2 => kNon d (match W2 p with
    | some m => Q m.d (cut W2 p)
    | none => False)) (fun x W' => E x sd (cut W' p))) E) E) = _
  congr 1
  funext b W1
  congr 1
  funext t W2
  unfold mkA
  refine propext ⟨fun h p hp => ?_, fun h p hp => ?_⟩
  · exact ⟨Nat.le_refl _, Nat.le_add_right _ _, (h p hp).2.2⟩
  · exact ⟨rfl, rfl, (h p hp).2.2⟩
def boolK (S : Sy) (d : D) (sd : SD) (W : Wd) (Q : QD) (E : QX) : Prop := if isOwn W d = true then kIns W d fun c _ => c ∈ (mBool S).l ∧ dfl ((mBool S).n c) ((mBool S).dd c) [d] fun ds' => (mBool S).sp c ds' W (fun y W2 => kSome (isBl y) fun z => Q z W2) (fun x W' => E x sd W') else rBoolD [d] W Q
theorem dBool_k {t : DE} : dB1 (mBool S) isBl rBoolD t sd W Q E = t sd W (fun d W1 => boolK S d sd W1 Q E) E := rfl
theorem boolK_q : boolK S (amt p) sd W Q E = Q (.bl (decide (p ≠ 0))) W := by
  have e : boolK S (amt p) sd W Q E = (0 ∈ [0] ∧ 1 ≤ 1 ∧ 1 ≤ 1 ∧ kSome (amQ (amt p)) fun p => Q (.bl (decide (p ≠ 0))) W) := rfl
  rw [e, amQ_amt]
  exact propext ⟨fun q => q.2.2.2, fun q => ⟨List.mem_singleton.mpr rfl, Nat.le_refl _, Nat.le_refl _, q⟩⟩
theorem strK_i {n : Nat} (h : Mv.bd n i) (hn : n ≤ 1900 := by decide) : strK S (.int i) sd W Q E = Q (.str (toString i)) W := by
  have e : strK S (.int i) sd W Q E = (i.natAbs.log2 < 1920 ∧ Q (.str (toString i)) W) := rfl
  rw [e]
  exact propext ⟨fun q => q.2, fun q => ⟨Ss (h.up hn), q⟩⟩
theorem tAdd_ss {M MR : Mts} {a b : Str} (h : a.length + b.length ≤ sizeLine) : Mv.tAdd M MR (.str a) (.str b) sd W Q E = Q (.str (a ++ b)) W := propext ⟨fun q => q.2, fun q => ⟨h, q⟩⟩
end
theorem dv_ext {a b c : Int} (hb : b ≠ 0) (hc : c ≠ 0) : Rat.divInt (a * c) (b * c) = Rat.divInt a b := by
  have nb : (b : Rat) ≠ 0 := fun e => hb (Rat.intCast_inj.mp e)
  have nc : (c : Rat) ≠ 0 := fun e => hc (Rat.intCast_inj.mp e)
  rw [Rat.divInt_eq_div, Rat.divInt_eq_div, Rat.intCast_mul, Rat.intCast_mul]
  grind
theorem dv_nn {a b : Int} : Rat.divInt (0 - a) (0 - b) = Rat.divInt a b := by
  rw [Int.zero_sub, Int.zero_sub, neg_neg_dv]
theorem dv_nz {a b : Int} (hb : b ≠ 0) : Rat.divInt a b = 0 ↔ a = 0 := by
  by_cases h : 0 < b
  · exact dv_zero h
  · rw [← dv_nn, dv_zero (by omega)]
    omega
theorem dv_ne1 {a b : Int} (hb : b ≠ 0) : Rat.divInt a b ≠ Rat.divInt (a + 1) b := fun h => by
  by_cases hp : 0 < b
  · have := (dv_eq hp hp).mp h
    have := Int.eq_of_mul_eq_mul_right hb this
    omega
  · rw [← dv_nn, ← dv_nn (a := a + 1)] at h
    have := (dv_eq (show 0 < 0 - b by omega) (show 0 < 0 - b by omega)).mp h
    have := Int.eq_of_mul_eq_mul_right (show 0 - b ≠ 0 by omega) this
    omega
theorem whole_iff {p : Rat} : p = (p.num : Rat) ↔ p.den = 1 := by
  constructor
  · intro h
    have h2 := congrArg Rat.den h
    rw [Rat.den_intCast] at h2
    exact h2
  · intro h
    have h2 := rat_nd p
    rw [h] at h2
    have e : (((1 : Nat) : Int) : Rat) = 1 := rfl
    rw [e] at h2
    grind
end Mv
end
section
set_option Elab.async false
set_option linter.all false
set_option maxRecDepth 100000
set_option maxHeartbeats 4000000
namespace Mv
open PySem PySem.Spec L2 SX
theorem len__law_right (S : Sy) : ∀ ds W Q E, sp__law_right S ds W Q E → ds.length = 1 := fun ds W Q E h => len_pen h.2 fun r q h => by
  match r, h with
  | [], h => rfl
theorem eqT2 {q : EqI} {i j : Int} : eqD q (.tup [.int i, .int j]) (.tup [.int i, .int j]) = some true := by
  have fi : ∀ i : Int, flatO (.int i) (.int i) = some true := fun i => by
    show some (i == i) = _
    rw [beq_self_eq_true]
  simp only [eqD, eqDs, fi]
theorem dpT2 {i j : Int} : ((D.tup [.int i, .int j]).dp ≤ 6) = True := propext ⟨fun _ => trivial, fun _ => by
  simp only [D.dp, dps]
  decide⟩
theorem isi_amt {S : Sy} {p : Rat} {W : Wd} {Q : QD} (h0 : 0 ∈ S.cl) : rIsiD (.ptr (S.ca 0)) (isiOwn [0] S.cl) [amt p, .ptr (S.ca 0)] W Q = Q (.bl true) W := by
  have e : rIsiD (.ptr (S.ca 0)) (isiOwn [0] S.cl) [amt p, .ptr (S.ca 0)] W Q = (D.ptr (S.ca 0) = .ptr (S.ca 0) ∧ kSome (isiOwn [0] S.cl (.own 0)) fun b => Q (.bl b) W) := rfl
  have e2 : isiOwn [0] S.cl (.own 0) = some true := by simp [isiOwn, h0]
  rw [e, e2]
  exact propext ⟨fun q => q.2, fun q => ⟨rfl, q⟩⟩
theorem lits_no {cl : List Nat} {q : Rat} {z : Str} (h0 : 0 ∈ cl) : anyQ (qA cl) (amt q) [.non, .str z, .tup [.int q.num, .int (q.den : Int)], .lst [amt q], .bl true, .bl false, .str ""] = some false := by
  have a1 : eqD (qA cl) .non (amt q) = some false := by
    show qA cl 0 (amt q) .non = some false
    unfold qA
    rw [if_pos ⟨rfl, h0⟩, amQ_amt]
    rfl
  have a2 : ∀ z, eqD (qA cl) (.str z) (amt q) = some false := fun z => by
    show qA cl 0 (amt q) (.str z) = some false
    unfold qA
    rw [if_pos ⟨rfl, h0⟩, amQ_amt]
    rfl
  have a3 : ∀ b, eqD (qA cl) (.bl b) (amt q) = some false := fun b => by
    show qA cl 0 (amt q) (.bl b) = some false
    unfold qA
    rw [if_pos ⟨rfl, h0⟩, amQ_amt]
    rfl
  have a4 : eqD (qA cl) (.tup [.int q.num, .int (q.den : Int)]) (amt q) = some false := by
    have z : qA cl 0 (amt q) (.tup [.int q.num, .int (q.den : Int)]) = some false := by
      unfold qA
      rw [if_pos ⟨rfl, h0⟩, amQ_amt]
      rfl
    unfold eqD
    exact z
  have a5 : eqD (qA cl) (.lst [amt q]) (amt q) = some false := by
    have z : qA cl 0 (amt q) (.lst [amt q]) = some false := by
      unfold qA
      rw [if_pos ⟨rfl, h0⟩, amQ_amt]
      rfl
    unfold eqD
    exact z
  simp only [anyQ, a1, a2, a3, a4, a5]
theorem dps_lits {q : Rat} {z : Str} {i j : Int} : (dps [.non, .str z, .tup [.int i, .int j], .lst [amt q], .bl true, .bl false, .str ""] ≤ 6) = True := propext ⟨fun _ => trivial, fun _ => by
  simp only [dps, D.dp, dpA0]
  decide⟩
theorem pf__law_right (S : Sy) : ∀ ds W Q2 E2, sp__law_right S ds W Q2 E2 → t__law_right S { nx := fun _ W => Q2 .non W, rt := Q2 } (startD ["_law_pen_here", "_law_high", "_law_low", "_law_scale", "_law_made", "_law_shared", "_law_sign", "_law_due", "_law_line", "_law_whole"] ds) W (fun x _ W => E2 x W) := by
  intro ds W Q E hh
  obtain ⟨h0, hh⟩ := hh
  obtain ⟨p, r, cs, k, g0, rfl, ⟨hW, hl, hk0, hk1⟩, hk, hh⟩ := spPen.inv hh
  match r, hh with
  | [], hh =>
    have eW : W = put W p (penM cs k g0) := (put_get hW).symm
    rw [eW] at hh ⊢
    unfold t__law_right
    refine dSeq_stepA (fun sd W' => ∃ (h l k2 g2 : Int), bnN h ∧ bnN l ∧ sd = [some (.ptr p), some (.int h), some (.int l), none, none, none, none, none, none, none] ∧ W' = put W p (penM cs k2 g2) ∧ k ≤ k2 ∧ k2 ≤ k + 10) (fun D' hD => ?_) ?_
    · simp only [↓dSeq_e, ↓dNext_e, ↓dBreak_e, ↓dCont_e, ↓dNever_e, ↓dRet_e, ↓dRetN_e, ↓dDrop_e, ↓dIfS_e, ↓dAsg_e, ↓dPar_e, ↓dPar3_e, ↓gN_e, ↓gTp_e, ↓gNs_e, ↓gN0_e, ↓dVar_e, ↓dC_e, ↓dCB_e, ↓dCons_e, ↓dNil_e, ↓dTup_e, ↓dLst_e, ↓dLstM_e, ↓dOpMul_e, ↓dOpAdd_e, ↓dOpSub_e, ↓dOpFdv_e, ↓dOpMod_e, ↓dOpPow_e, ↓dOpCm_e, ↓dOpEq_e, ↓dOpIn_e, ↓dOpIs_e, ↓dTst_e, ↓dTbl_e, ↓dNot_e, ↓dAnd_e, ↓dOr_e, ↓dAndV_e, ↓dOrV_e, ↓dNotV_e, ↓dIf_e, ↓dCall_e, ↓dSm_e, ↓dCm_e, ↓dFor_e, ↓iSq_e, ↓iRng1_e, ↓dNeg_e, ↓dFld_e, ↓dLc_e, ↓dBM_e, ↓dFmt_e, ↓dSl_e, ↓dPart_e, ↓dNoPart_e, ↓dfl_e0, ↓tMul_ii, ↓tAdd_ii, ↓tSub_ii, ↓tFdiv_ii, ↓tMod_ii, ↓tPow_ii, ↓tCm_ii, ↓rdP0, ↓rdP1, ↓rdV0, ↓rdV1, ↓rdA,
      kBl, kTru, rIsN_f, rIsN_t, isNon_non, isNon_int, isNon_str, isNon_tup, isNon_lst, isNon_parts, isNon_amt, rIsiD, kSome, startD, kI2, rInt2,
      List.map_cons, List.map_nil, List.length_cons, List.length_nil, List.cons_append, List.nil_append, List.getElem?_cons_zero, List.getElem?_cons_succ, List.replicate, Nat.reduceSub, Nat.reduceAdd, Nat.reduceLeDiff, Nat.zero_add, Nat.add_zero, Nat.sub_self, Nat.sub_zero, List.set_cons_zero, List.set_cons_succ, List.append_nil, List.drop, List.drop_zero,
      Option.some.injEq, exists_eq_left', exists_eq_left, true_and, and_true, if_true, if_false, Bool.false_eq_true, Bool.not_true, Bool.not_false, ite_true, ite_false, reduceIte, reduceCtorEq, Nat.le_refl, startD]
      refine numP hl hk0 (by omega) fun h k1 g1 h1 q1 q2 => ?_
      refine numP hl (by omega) (by omega) fun l k2 g2 h2 q3 q4 => ?_
      exact hD _ _ ⟨h, l, k2, g2, h1, h2, rfl, rfl, by omega, by omega⟩
    rintro _ _ ⟨h, l0, k2, g2, bh, bl0, rfl, rfl, q1, q2⟩
    refine dSeq_stepA (fun sd W' => ∃ (l s k4 g4 : Int), bnN l ∧ l ≠ 0 ∧ 0 < s ∧ s ≤ 30 ∧ sd = [some (.ptr p), some (.int h), some (.int l), some (.int s), none, none, none, none, none, none] ∧ W' = put W p (penM cs k4 g4) ∧ k ≤ k4 ∧ k4 ≤ k + 11) (fun D' hD => ?_) ?_
    · simp only [↓dSeq_e, ↓dNext_e, ↓dBreak_e, ↓dCont_e, ↓dNever_e, ↓dRet_e, ↓dRetN_e, ↓dDrop_e, ↓dIfS_e, ↓dAsg_e, ↓dPar_e, ↓dPar3_e, ↓gN_e, ↓gTp_e, ↓gNs_e, ↓gN0_e, ↓dVar_e, ↓dC_e, ↓dCB_e, ↓dCons_e, ↓dNil_e, ↓dTup_e, ↓dLst_e, ↓dLstM_e, ↓dOpMul_e, ↓dOpAdd_e, ↓dOpSub_e, ↓dOpFdv_e, ↓dOpMod_e, ↓dOpPow_e, ↓dOpCm_e, ↓dOpEq_e, ↓dOpIn_e, ↓dOpIs_e, ↓dTst_e, ↓dTbl_e, ↓dNot_e, ↓dAnd_e, ↓dOr_e, ↓dAndV_e, ↓dOrV_e, ↓dNotV_e, ↓dIf_e, ↓dCall_e, ↓dSm_e, ↓dCm_e, ↓dFor_e, ↓iSq_e, ↓iRng1_e, ↓dNeg_e, ↓dFld_e, ↓dLc_e, ↓dBM_e, ↓dFmt_e, ↓dSl_e, ↓dPart_e, ↓dNoPart_e, ↓dfl_e0, ↓tMul_ii, ↓tAdd_ii, ↓tSub_ii, ↓tFdiv_ii, ↓tMod_ii, ↓tPow_ii, ↓tCm_ii, ↓rdP0, ↓rdP1, ↓rdV0, ↓rdV1, ↓rdA,
      kBl, kTru, rIsN_f, rIsN_t, isNon_non, isNon_int, isNon_str, isNon_tup, isNon_lst, isNon_parts, isNon_amt, rIsiD, kSome, startD, kI2, rInt2,
      List.map_cons, List.map_nil, List.length_cons, List.length_nil, List.cons_append, List.nil_append, List.getElem?_cons_zero, List.getElem?_cons_succ, List.replicate, Nat.reduceSub, Nat.reduceAdd, Nat.reduceLeDiff, Nat.zero_add, Nat.add_zero, Nat.sub_self, Nat.sub_zero, List.set_cons_zero, List.set_cons_succ, List.append_nil, List.drop, List.drop_zero,
      Option.some.injEq, exists_eq_left', exists_eq_left, true_and, and_true, if_true, if_false, Bool.false_eq_true, Bool.not_true, Bool.not_false, ite_true, ite_false, reduceIte, reduceCtorEq, Nat.le_refl, ↓dOp_e, rEqQ, eqII, dpII]
      by_cases hz : l0 = 0
      · subst hz
        simp only [↓dSeq_e, ↓dNext_e, ↓dBreak_e, ↓dCont_e, ↓dNever_e, ↓dRet_e, ↓dRetN_e, ↓dDrop_e, ↓dIfS_e, ↓dAsg_e, ↓dPar_e, ↓dPar3_e, ↓gN_e, ↓gTp_e, ↓gNs_e, ↓gN0_e, ↓dVar_e, ↓dC_e, ↓dCB_e, ↓dCons_e, ↓dNil_e, ↓dTup_e, ↓dLst_e, ↓dLstM_e, ↓dOpMul_e, ↓dOpAdd_e, ↓dOpSub_e, ↓dOpFdv_e, ↓dOpMod_e, ↓dOpPow_e, ↓dOpCm_e, ↓dOpEq_e, ↓dOpIn_e, ↓dOpIs_e, ↓dTst_e, ↓dTbl_e, ↓dNot_e, ↓dAnd_e, ↓dOr_e, ↓dAndV_e, ↓dOrV_e, ↓dNotV_e, ↓dIf_e, ↓dCall_e, ↓dSm_e, ↓dCm_e, ↓dFor_e, ↓iSq_e, ↓iRng1_e, ↓dNeg_e, ↓dFld_e, ↓dLc_e, ↓dBM_e, ↓dFmt_e, ↓dSl_e, ↓dPart_e, ↓dNoPart_e, ↓dfl_e0, ↓tMul_ii, ↓tAdd_ii, ↓tSub_ii, ↓tFdiv_ii, ↓tMod_ii, ↓tPow_ii, ↓tCm_ii, ↓rdP0, ↓rdP1, ↓rdV0, ↓rdV1, ↓rdA,
      kBl, kTru, rIsN_f, rIsN_t, isNon_non, isNon_int, isNon_str, isNon_tup, isNon_lst, isNon_parts, isNon_amt, rIsiD, kSome, startD, kI2, rInt2,
      List.map_cons, List.map_nil, List.length_cons, List.length_nil, List.cons_append, List.nil_append, List.getElem?_cons_zero, List.getElem?_cons_succ, List.replicate, Nat.reduceSub, Nat.reduceAdd, Nat.reduceLeDiff, Nat.zero_add, Nat.add_zero, Nat.sub_self, Nat.sub_zero, List.set_cons_zero, List.set_cons_succ, List.append_nil, List.drop, List.drop_zero,
      Option.some.injEq, exists_eq_left', exists_eq_left, true_and, and_true, if_true, if_false, Bool.false_eq_true, Bool.not_true, Bool.not_false, ite_true, ite_false, reduceIte, reduceCtorEq, Nat.le_refl, beq_self_eq_true]
        refine drawP hl (by omega) (by omega) (by decide) (bg_small (by decide)) fun u k3 g3 u0 u1 q3 q4 => ?_
        try simp only [↓dSeq_e, ↓dNext_e, ↓dBreak_e, ↓dCont_e, ↓dNever_e, ↓dRet_e, ↓dRetN_e, ↓dDrop_e, ↓dIfS_e, ↓dAsg_e, ↓dPar_e, ↓dPar3_e, ↓gN_e, ↓gTp_e, ↓gNs_e, ↓gN0_e, ↓dVar_e, ↓dC_e, ↓dCB_e, ↓dCons_e, ↓dNil_e, ↓dTup_e, ↓dLst_e, ↓dLstM_e, ↓dOpMul_e, ↓dOpAdd_e, ↓dOpSub_e, ↓dOpFdv_e, ↓dOpMod_e, ↓dOpPow_e, ↓dOpCm_e, ↓dOpEq_e, ↓dOpIn_e, ↓dOpIs_e, ↓dTst_e, ↓dTbl_e, ↓dNot_e, ↓dAnd_e, ↓dOr_e, ↓dAndV_e, ↓dOrV_e, ↓dNotV_e, ↓dIf_e, ↓dCall_e, ↓dSm_e, ↓dCm_e, ↓dFor_e, ↓iSq_e, ↓iRng1_e, ↓dNeg_e, ↓dFld_e, ↓dLc_e, ↓dBM_e, ↓dFmt_e, ↓dSl_e, ↓dPart_e, ↓dNoPart_e, ↓dfl_e0, ↓tMul_ii, ↓tAdd_ii, ↓tSub_ii, ↓tFdiv_ii, ↓tMod_ii, ↓tPow_ii, ↓tCm_ii, ↓rdP0, ↓rdP1, ↓rdV0, ↓rdV1, ↓rdA,
      kBl, kTru, rIsN_f, rIsN_t, isNon_non, isNon_int, isNon_str, isNon_tup, isNon_lst, isNon_parts, isNon_amt, rIsiD, kSome, startD, kI2, rInt2,
      List.map_cons, List.map_nil, List.length_cons, List.length_nil, List.cons_append, List.nil_append, List.getElem?_cons_zero, List.getElem?_cons_succ, List.replicate, Nat.reduceSub, Nat.reduceAdd, Nat.reduceLeDiff, Nat.zero_add, Nat.add_zero, Nat.sub_self, Nat.sub_zero, List.set_cons_zero, List.set_cons_succ, List.append_nil, List.drop, List.drop_zero,
      Option.some.injEq, exists_eq_left', exists_eq_left, true_and, and_true, if_true, if_false, Bool.false_eq_true, Bool.not_true, Bool.not_false, ite_true, ite_false, reduceIte, reduceCtorEq, Nat.le_refl, ]
        exact hD _ _ ⟨7, 1 + u, k3, g3, by unfold bnN; decide, by decide, by omega, by omega, rfl, rfl, by omega, by omega⟩
      · have e : (l0 == 0) = false := by simpa using hz
        simp only [↓dSeq_e, ↓dNext_e, ↓dBreak_e, ↓dCont_e, ↓dNever_e, ↓dRet_e, ↓dRetN_e, ↓dDrop_e, ↓dIfS_e, ↓dAsg_e, ↓dPar_e, ↓dPar3_e, ↓gN_e, ↓gTp_e, ↓gNs_e, ↓gN0_e, ↓dVar_e, ↓dC_e, ↓dCB_e, ↓dCons_e, ↓dNil_e, ↓dTup_e, ↓dLst_e, ↓dLstM_e, ↓dOpMul_e, ↓dOpAdd_e, ↓dOpSub_e, ↓dOpFdv_e, ↓dOpMod_e, ↓dOpPow_e, ↓dOpCm_e, ↓dOpEq_e, ↓dOpIn_e, ↓dOpIs_e, ↓dTst_e, ↓dTbl_e, ↓dNot_e, ↓dAnd_e, ↓dOr_e, ↓dAndV_e, ↓dOrV_e, ↓dNotV_e, ↓dIf_e, ↓dCall_e, ↓dSm_e, ↓dCm_e, ↓dFor_e, ↓iSq_e, ↓iRng1_e, ↓dNeg_e, ↓dFld_e, ↓dLc_e, ↓dBM_e, ↓dFmt_e, ↓dSl_e, ↓dPart_e, ↓dNoPart_e, ↓dfl_e0, ↓tMul_ii, ↓tAdd_ii, ↓tSub_ii, ↓tFdiv_ii, ↓tMod_ii, ↓tPow_ii, ↓tCm_ii, ↓rdP0, ↓rdP1, ↓rdV0, ↓rdV1, ↓rdA,
      kBl, kTru, rIsN_f, rIsN_t, isNon_non, isNon_int, isNon_str, isNon_tup, isNon_lst, isNon_parts, isNon_amt, rIsiD, kSome, startD, kI2, rInt2,
      List.map_cons, List.map_nil, List.length_cons, List.length_nil, List.cons_append, List.nil_append, List.getElem?_cons_zero, List.getElem?_cons_succ, List.replicate, Nat.reduceSub, Nat.reduceAdd, Nat.reduceLeDiff, Nat.zero_add, Nat.add_zero, Nat.sub_self, Nat.sub_zero, List.set_cons_zero, List.set_cons_succ, List.append_nil, List.drop, List.drop_zero,
      Option.some.injEq, exists_eq_left', exists_eq_left, true_and, and_true, if_true, if_false, Bool.false_eq_true, Bool.not_true, Bool.not_false, ite_true, ite_false, reduceIte, reduceCtorEq, Nat.le_refl, e]
        refine drawP hl (by omega) (by omega) (by decide) (bg_small (by decide)) fun u k3 g3 u0 u1 q3 q4 => ?_
        try simp only [↓dSeq_e, ↓dNext_e, ↓dBreak_e, ↓dCont_e, ↓dNever_e, ↓dRet_e, ↓dRetN_e, ↓dDrop_e, ↓dIfS_e, ↓dAsg_e, ↓dPar_e, ↓dPar3_e, ↓gN_e, ↓gTp_e, ↓gNs_e, ↓gN0_e, ↓dVar_e, ↓dC_e, ↓dCB_e, ↓dCons_e, ↓dNil_e, ↓dTup_e, ↓dLst_e, ↓dLstM_e, ↓dOpMul_e, ↓dOpAdd_e, ↓dOpSub_e, ↓dOpFdv_e, ↓dOpMod_e, ↓dOpPow_e, ↓dOpCm_e, ↓dOpEq_e, ↓dOpIn_e, ↓dOpIs_e, ↓dTst_e, ↓dTbl_e, ↓dNot_e, ↓dAnd_e, ↓dOr_e, ↓dAndV_e, ↓dOrV_e, ↓dNotV_e, ↓dIf_e, ↓dCall_e, ↓dSm_e, ↓dCm_e, ↓dFor_e, ↓iSq_e, ↓iRng1_e, ↓dNeg_e, ↓dFld_e, ↓dLc_e, ↓dBM_e, ↓dFmt_e, ↓dSl_e, ↓dPart_e, ↓dNoPart_e, ↓dfl_e0, ↓tMul_ii, ↓tAdd_ii, ↓tSub_ii, ↓tFdiv_ii, ↓tMod_ii, ↓tPow_ii, ↓tCm_ii, ↓rdP0, ↓rdP1, ↓rdV0, ↓rdV1, ↓rdA,
      kBl, kTru, rIsN_f, rIsN_t, isNon_non, isNon_int, isNon_str, isNon_tup, isNon_lst, isNon_parts, isNon_amt, rIsiD, kSome, startD, kI2, rInt2,
      List.map_cons, List.map_nil, List.length_cons, List.length_nil, List.cons_append, List.nil_append, List.getElem?_cons_zero, List.getElem?_cons_succ, List.replicate, Nat.reduceSub, Nat.reduceAdd, Nat.reduceLeDiff, Nat.zero_add, Nat.add_zero, Nat.sub_self, Nat.sub_zero, List.set_cons_zero, List.set_cons_succ, List.append_nil, List.drop, List.drop_zero,
      Option.some.injEq, exists_eq_left', exists_eq_left, true_and, and_true, if_true, if_false, Bool.false_eq_true, Bool.not_true, Bool.not_false, ite_true, ite_false, reduceIte, reduceCtorEq, Nat.le_refl, ]
        exact hD _ _ ⟨l0, 1 + u, k3, g3, bl0, hz, by omega, by omega, rfl, rfl, by omega, by omega⟩
    rintro _ _ ⟨l, s, k4, g4, bl, lz, s0, s1, rfl, rfl, q3, q4⟩
    have b_h := bh.bd
    have b_l := bl.bd
    have b_s : bd 5 s := by
      unfold bd
      omega
    have b_hs := b_h.mul b_s
    have b_ls := b_l.mul b_s
    have m_hs := b_h.m b_s
    have m_ls := b_l.m b_s
    have lsz : l * s ≠ 0 := Int.mul_ne_zero lz (by omega)
    obtain ⟨q, hq⟩ : ∃ q, q = Rat.divInt h l := ⟨_, rfl⟩
    obtain ⟨g, hg⟩ : ∃ g : Int, g = (Int.gcd h l : Int) := ⟨_, rfl⟩
    have hgp : 0 < Int.gcd h l := Int.gcd_pos_of_ne_zero_right h lz
    have g0 : 0 < g := by omega
    have b_g : bd 134 g := by
      have := Nat.le_of_dvd (by omega) (Int.gcd_dvd_natAbs_right h l)
      unfold bd at *
      omega
    have zq : sz 134 q := hq ▸ sz_dvn b_h lz b_l
    have parts := divInt_parts (t := h) lz
    rw [← hq] at parts
    have e_n : q.num = (if l < 0 then -h else h) / g := by
      rw [hg]
      have := parts
      unfold partsD at this
      injection this with e
      injection e with e1 e2
      injection e1
    have e_d : (q.den : Int) = (if l < 0 then -l else l) / g := by
      rw [hg]
      have := parts
      unfold partsD at this
      injection this with e
      injection e with e1 e2
      injection e2 with e3 e4
      injection e3
    refine dSeq_stepI (sd' := [some (.ptr p), some (.int h), some (.int l), some (.int s), some (amt q), some (.int g), none, none, none, none]) (W' := (put W p (penM cs k4 g4))) (fun D' gD => ?_) ?_
    · simp only [↓dSeq_e, ↓dNext_e, ↓dBreak_e, ↓dCont_e, ↓dNever_e, ↓dRet_e, ↓dRetN_e, ↓dDrop_e, ↓dIfS_e, ↓dAsg_e, ↓dPar_e, ↓dPar3_e, ↓gN_e, ↓gTp_e, ↓gNs_e, ↓gN0_e, ↓dVar_e, ↓dC_e, ↓dCB_e, ↓dCons_e, ↓dNil_e, ↓dTup_e, ↓dLst_e, ↓dLstM_e, ↓dOpMul_e, ↓dOpAdd_e, ↓dOpSub_e, ↓dOpFdv_e, ↓dOpMod_e, ↓dOpPow_e, ↓dOpCm_e, ↓dOpEq_e, ↓dOpIn_e, ↓dOpIs_e, ↓dTst_e, ↓dTbl_e, ↓dNot_e, ↓dAnd_e, ↓dOr_e, ↓dAndV_e, ↓dOrV_e, ↓dNotV_e, ↓dIf_e, ↓dCall_e, ↓dSm_e, ↓dCm_e, ↓dFor_e, ↓iSq_e, ↓iRng1_e, ↓dNeg_e, ↓dFld_e, ↓dLc_e, ↓dBM_e, ↓dFmt_e, ↓dSl_e, ↓dPart_e, ↓dNoPart_e, ↓dfl_e0, ↓tMul_ii, ↓tAdd_ii, ↓tSub_ii, ↓tFdiv_ii, ↓tMod_ii, ↓tPow_ii, ↓tCm_ii, ↓rdP0, ↓rdP1, ↓rdV0, ↓rdV1, ↓rdA,
      kBl, kTru, rIsN_f, rIsN_t, isNon_non, isNon_int, isNon_str, isNon_tup, isNon_lst, isNon_parts, isNon_amt, rIsiD, kSome, startD, kI2, rInt2,
      List.map_cons, List.map_nil, List.length_cons, List.length_nil, List.cons_append, List.nil_append, List.getElem?_cons_zero, List.getElem?_cons_succ, List.replicate, Nat.reduceSub, Nat.reduceAdd, Nat.reduceLeDiff, Nat.zero_add, Nat.add_zero, Nat.sub_self, Nat.sub_zero, List.set_cons_zero, List.set_cons_succ, List.append_nil, List.drop, List.drop_zero,
      Option.some.injEq, exists_eq_left', exists_eq_left, true_and, and_true, if_true, if_false, Bool.false_eq_true, Bool.not_true, Bool.not_false, ite_true, ite_false, reduceIte, reduceCtorEq, Nat.le_refl, ↓dMk_amt, ↓dOp_e, m_hs, m_ls]
      refine mkA_2 lsz (b_ls.bg) ?_
      rw [dv_ext lz (by omega), ← hq]
      try simp only [↓dSeq_e, ↓dNext_e, ↓dBreak_e, ↓dCont_e, ↓dNever_e, ↓dRet_e, ↓dRetN_e, ↓dDrop_e, ↓dIfS_e, ↓dAsg_e, ↓dPar_e, ↓dPar3_e, ↓gN_e, ↓gTp_e, ↓gNs_e, ↓gN0_e, ↓dVar_e, ↓dC_e, ↓dCB_e, ↓dCons_e, ↓dNil_e, ↓dTup_e, ↓dLst_e, ↓dLstM_e, ↓dOpMul_e, ↓dOpAdd_e, ↓dOpSub_e, ↓dOpFdv_e, ↓dOpMod_e, ↓dOpPow_e, ↓dOpCm_e, ↓dOpEq_e, ↓dOpIn_e, ↓dOpIs_e, ↓dTst_e, ↓dTbl_e, ↓dNot_e, ↓dAnd_e, ↓dOr_e, ↓dAndV_e, ↓dOrV_e, ↓dNotV_e, ↓dIf_e, ↓dCall_e, ↓dSm_e, ↓dCm_e, ↓dFor_e, ↓iSq_e, ↓iRng1_e, ↓dNeg_e, ↓dFld_e, ↓dLc_e, ↓dBM_e, ↓dFmt_e, ↓dSl_e, ↓dPart_e, ↓dNoPart_e, ↓dfl_e0, ↓tMul_ii, ↓tAdd_ii, ↓tSub_ii, ↓tFdiv_ii, ↓tMod_ii, ↓tPow_ii, ↓tCm_ii, ↓rdP0, ↓rdP1, ↓rdV0, ↓rdV1, ↓rdA,
      kBl, kTru, rIsN_f, rIsN_t, isNon_non, isNon_int, isNon_str, isNon_tup, isNon_lst, isNon_parts, isNon_amt, rIsiD, kSome, startD, kI2, rInt2,
      List.map_cons, List.map_nil, List.length_cons, List.length_nil, List.cons_append, List.nil_append, List.getElem?_cons_zero, List.getElem?_cons_succ, List.replicate, Nat.reduceSub, Nat.reduceAdd, Nat.reduceLeDiff, Nat.zero_add, Nat.add_zero, Nat.sub_self, Nat.sub_zero, List.set_cons_zero, List.set_cons_succ, List.append_nil, List.drop, List.drop_zero,
      Option.some.injEq, exists_eq_left', exists_eq_left, true_and, and_true, if_true, if_false, Bool.false_eq_true, Bool.not_true, Bool.not_false, ite_true, ite_false, reduceIte, reduceCtorEq, Nat.le_refl, ]
      show D'.nx _ _
      rw [← hg]
      exact gD
    refine dSeq_step (sd' := [some (.ptr p), some (.int h), some (.int l), some (.int s), some (amt q), some (.int g), some (.int (if 0 < l then 1 else -1)), none, none, none]) (W' := (put W p (penM cs k4 g4))) (fun D' => ?_) ?_
    · by_cases hp : 0 < l
      · simp only [↓dSeq_e, ↓dNext_e, ↓dBreak_e, ↓dCont_e, ↓dNever_e, ↓dRet_e, ↓dRetN_e, ↓dDrop_e, ↓dIfS_e, ↓dAsg_e, ↓dPar_e, ↓dPar3_e, ↓gN_e, ↓gTp_e, ↓gNs_e, ↓gN0_e, ↓dVar_e, ↓dC_e, ↓dCB_e, ↓dCons_e, ↓dNil_e, ↓dTup_e, ↓dLst_e, ↓dLstM_e, ↓dOpMul_e, ↓dOpAdd_e, ↓dOpSub_e, ↓dOpFdv_e, ↓dOpMod_e, ↓dOpPow_e, ↓dOpCm_e, ↓dOpEq_e, ↓dOpIn_e, ↓dOpIs_e, ↓dTst_e, ↓dTbl_e, ↓dNot_e, ↓dAnd_e, ↓dOr_e, ↓dAndV_e, ↓dOrV_e, ↓dNotV_e, ↓dIf_e, ↓dCall_e, ↓dSm_e, ↓dCm_e, ↓dFor_e, ↓iSq_e, ↓iRng1_e, ↓dNeg_e, ↓dFld_e, ↓dLc_e, ↓dBM_e, ↓dFmt_e, ↓dSl_e, ↓dPart_e, ↓dNoPart_e, ↓dfl_e0, ↓tMul_ii, ↓tAdd_ii, ↓tSub_ii, ↓tFdiv_ii, ↓tMod_ii, ↓tPow_ii, ↓tCm_ii, ↓rdP0, ↓rdP1, ↓rdV0, ↓rdV1, ↓rdA,
      kBl, kTru, rIsN_f, rIsN_t, isNon_non, isNon_int, isNon_str, isNon_tup, isNon_lst, isNon_parts, isNon_amt, rIsiD, kSome, startD, kI2, rInt2,
      List.map_cons, List.map_nil, List.length_cons, List.length_nil, List.cons_append, List.nil_append, List.getElem?_cons_zero, List.getElem?_cons_succ, List.replicate, Nat.reduceSub, Nat.reduceAdd, Nat.reduceLeDiff, Nat.zero_add, Nat.add_zero, Nat.sub_self, Nat.sub_zero, List.set_cons_zero, List.set_cons_succ, List.append_nil, List.drop, List.drop_zero,
      Option.some.injEq, exists_eq_left', exists_eq_left, true_and, and_true, if_true, if_false, Bool.false_eq_true, Bool.not_true, Bool.not_false, ite_true, ite_false, reduceIte, reduceCtorEq, Nat.le_refl, ↓dOp_e, ↓dNegO_k, negK_i, hp, decide_true]
      · simp only [↓dSeq_e, ↓dNext_e, ↓dBreak_e, ↓dCont_e, ↓dNever_e, ↓dRet_e, ↓dRetN_e, ↓dDrop_e, ↓dIfS_e, ↓dAsg_e, ↓dPar_e, ↓dPar3_e, ↓gN_e, ↓gTp_e, ↓gNs_e, ↓gN0_e, ↓dVar_e, ↓dC_e, ↓dCB_e, ↓dCons_e, ↓dNil_e, ↓dTup_e, ↓dLst_e, ↓dLstM_e, ↓dOpMul_e, ↓dOpAdd_e, ↓dOpSub_e, ↓dOpFdv_e, ↓dOpMod_e, ↓dOpPow_e, ↓dOpCm_e, ↓dOpEq_e, ↓dOpIn_e, ↓dOpIs_e, ↓dTst_e, ↓dTbl_e, ↓dNot_e, ↓dAnd_e, ↓dOr_e, ↓dAndV_e, ↓dOrV_e, ↓dNotV_e, ↓dIf_e, ↓dCall_e, ↓dSm_e, ↓dCm_e, ↓dFor_e, ↓iSq_e, ↓iRng1_e, ↓dNeg_e, ↓dFld_e, ↓dLc_e, ↓dBM_e, ↓dFmt_e, ↓dSl_e, ↓dPart_e, ↓dNoPart_e, ↓dfl_e0, ↓tMul_ii, ↓tAdd_ii, ↓tSub_ii, ↓tFdiv_ii, ↓tMod_ii, ↓tPow_ii, ↓tCm_ii, ↓rdP0, ↓rdP1, ↓rdV0, ↓rdV1, ↓rdA,
      kBl, kTru, rIsN_f, rIsN_t, isNon_non, isNon_int, isNon_str, isNon_tup, isNon_lst, isNon_parts, isNon_amt, rIsiD, kSome, startD, kI2, rInt2,
      List.map_cons, List.map_nil, List.length_cons, List.length_nil, List.cons_append, List.nil_append, List.getElem?_cons_zero, List.getElem?_cons_succ, List.replicate, Nat.reduceSub, Nat.reduceAdd, Nat.reduceLeDiff, Nat.zero_add, Nat.add_zero, Nat.sub_self, Nat.sub_zero, List.set_cons_zero, List.set_cons_succ, List.append_nil, List.drop, List.drop_zero,
      Option.some.injEq, exists_eq_left', exists_eq_left, true_and, and_true, if_true, if_false, Bool.false_eq_true, Bool.not_true, Bool.not_false, ite_true, ite_false, reduceIte, reduceCtorEq, Nat.le_refl, ↓dOp_e, ↓dNegO_k, negK_i, hp, decide_false]
    have b_sg : bd 1 (if 0 < l then 1 else -1) := by
      unfold bd
      split <;> decide
    have n1 : (if 0 < l then 1 else -1) * h = (if l < 0 then -h else h) := by
      split <;> split <;> omega
    have n2 : (if 0 < l then 1 else -1) * l = (if l < 0 then -l else l) := by
      split <;> split <;> omega
    have m1 := b_sg.m b_h
    have m2 := b_sg.m b_l
    have c1 : ∀ i : Int, CDivW i g := fun i => wide_div (b := 134) g0 b_g (by decide) (by decide)
    refine dSeq_step (sd' := [some (.ptr p), some (.int h), some (.int l), some (.int s), some (amt q), some (.int g), some (.int (if 0 < l then 1 else -1)), some (.tup [.int q.num, .int (q.den : Int)]), none, none]) (W' := (put W p (penM cs k4 g4))) (fun D' => ?_) ?_
    · simp only [↓dSeq_e, ↓dNext_e, ↓dBreak_e, ↓dCont_e, ↓dNever_e, ↓dRet_e, ↓dRetN_e, ↓dDrop_e, ↓dIfS_e, ↓dAsg_e, ↓dPar_e, ↓dPar3_e, ↓gN_e, ↓gTp_e, ↓gNs_e, ↓gN0_e, ↓dVar_e, ↓dC_e, ↓dCB_e, ↓dCons_e, ↓dNil_e, ↓dTup_e, ↓dLst_e, ↓dLstM_e, ↓dOpMul_e, ↓dOpAdd_e, ↓dOpSub_e, ↓dOpFdv_e, ↓dOpMod_e, ↓dOpPow_e, ↓dOpCm_e, ↓dOpEq_e, ↓dOpIn_e, ↓dOpIs_e, ↓dTst_e, ↓dTbl_e, ↓dNot_e, ↓dAnd_e, ↓dOr_e, ↓dAndV_e, ↓dOrV_e, ↓dNotV_e, ↓dIf_e, ↓dCall_e, ↓dSm_e, ↓dCm_e, ↓dFor_e, ↓iSq_e, ↓iRng1_e, ↓dNeg_e, ↓dFld_e, ↓dLc_e, ↓dBM_e, ↓dFmt_e, ↓dSl_e, ↓dPart_e, ↓dNoPart_e, ↓dfl_e0, ↓tMul_ii, ↓tAdd_ii, ↓tSub_ii, ↓tFdiv_ii, ↓tMod_ii, ↓tPow_ii, ↓tCm_ii, ↓rdP0, ↓rdP1, ↓rdV0, ↓rdV1, ↓rdA,
      kBl, kTru, rIsN_f, rIsN_t, isNon_non, isNon_int, isNon_str, isNon_tup, isNon_lst, isNon_parts, isNon_amt, rIsiD, kSome, startD, kI2, rInt2,
      List.map_cons, List.map_nil, List.length_cons, List.length_nil, List.cons_append, List.nil_append, List.getElem?_cons_zero, List.getElem?_cons_succ, List.replicate, Nat.reduceSub, Nat.reduceAdd, Nat.reduceLeDiff, Nat.zero_add, Nat.add_zero, Nat.sub_self, Nat.sub_zero, List.set_cons_zero, List.set_cons_succ, List.append_nil, List.drop, List.drop_zero,
      Option.some.injEq, exists_eq_left', exists_eq_left, true_and, and_true, if_true, if_false, Bool.false_eq_true, Bool.not_true, Bool.not_false, ite_true, ite_false, reduceIte, reduceCtorEq, Nat.le_refl, ↓dOp_e, m1, m2, c1, n1, n2, ← e_n, ← e_d]
    have e1 : (decide (q ≠ 0) == !(h == 0)) = true := by
      have := dv_nz (a := h) lz
      rw [← hq] at this
      by_cases hz : h = 0
      · simp [hz, this.mpr hz]
      · have n : q ≠ 0 := fun e => hz (this.mp e)
        simp [hz, n]
    have b_n : bd 134 q.num := zq.1
    have b_d : bd 134 (q.den : Int) := by
      unfold bd
      rw [Int.natAbs_natCast]
      exact zq.2
    have szs : SZs q := ⟨Nat.lt_of_lt_of_le zq.1 (Nat.pow_le_pow_right (by decide) (by decide)), Nat.lt_of_lt_of_le zq.2 (Nat.pow_le_pow_right (by decide) (by decide))⟩
    refine dSeq_step (sd' := [some (.ptr p), some (.int h), some (.int l), some (.int s), some (amt q), some (.int g), some (.int (if 0 < l then 1 else -1)), some (.tup [.int q.num, .int (q.den : Int)]), none, none]) (W' := (put W p (penM cs k4 g4))) (fun D' => ?_) ?_
    · simp only [↓dSeq_e, ↓dNext_e, ↓dBreak_e, ↓dCont_e, ↓dNever_e, ↓dRet_e, ↓dRetN_e, ↓dDrop_e, ↓dIfS_e, ↓dAsg_e, ↓dPar_e, ↓dPar3_e, ↓gN_e, ↓gTp_e, ↓gNs_e, ↓gN0_e, ↓dVar_e, ↓dC_e, ↓dCB_e, ↓dCons_e, ↓dNil_e, ↓dTup_e, ↓dLst_e, ↓dLstM_e, ↓dOpMul_e, ↓dOpAdd_e, ↓dOpSub_e, ↓dOpFdv_e, ↓dOpMod_e, ↓dOpPow_e, ↓dOpCm_e, ↓dOpEq_e, ↓dOpIn_e, ↓dOpIs_e, ↓dTst_e, ↓dTbl_e, ↓dNot_e, ↓dAnd_e, ↓dOr_e, ↓dAndV_e, ↓dOrV_e, ↓dNotV_e, ↓dIf_e, ↓dCall_e, ↓dSm_e, ↓dCm_e, ↓dFor_e, ↓iSq_e, ↓iRng1_e, ↓dNeg_e, ↓dFld_e, ↓dLc_e, ↓dBM_e, ↓dFmt_e, ↓dSl_e, ↓dPart_e, ↓dNoPart_e, ↓dfl_e0, ↓tMul_ii, ↓tAdd_ii, ↓tSub_ii, ↓tFdiv_ii, ↓tMod_ii, ↓tPow_ii, ↓tCm_ii, ↓rdP0, ↓rdP1, ↓rdV0, ↓rdV1, ↓rdA,
      kBl, kTru, rIsN_f, rIsN_t, isNon_non, isNon_int, isNon_str, isNon_tup, isNon_lst, isNon_parts, isNon_amt, rIsiD, kSome, startD, kI2, rInt2,
      List.map_cons, List.map_nil, List.length_cons, List.length_nil, List.cons_append, List.nil_append, List.getElem?_cons_zero, List.getElem?_cons_succ, List.replicate, Nat.reduceSub, Nat.reduceAdd, Nat.reduceLeDiff, Nat.zero_add, Nat.add_zero, Nat.sub_self, Nat.sub_zero, List.set_cons_zero, List.set_cons_succ, List.append_nil, List.drop, List.drop_zero,
      Option.some.injEq, exists_eq_left', exists_eq_left, true_and, and_true, if_true, if_false, Bool.false_eq_true, Bool.not_true, Bool.not_false, ite_true, ite_false, reduceIte, reduceCtorEq, Nat.le_refl, ↓dOp_e, ↓dTop_k, ↓dBot_k, topK_q, botK_q, ↓repr_pair b_n b_d, ↓dBool_k, boolK_q, rEqQ, eqII, dpII, eqS, dpS, eqB, dpB, beq_self_eq_true, e1]
    have l1 := str_len (i := q.num) (b_n.up (by decide))
    have l2 := str_len (i := (q.den : Int)) (b_d.up (by decide))
    have sl : sizeLine = 16777216 := by decide
    have es : (("/" : String) : Str).length = 1 := rfl
    have a1 : (toString q.num : Str).length + (("/" : String) : Str).length ≤ sizeLine := by omega
    have a2 : ((toString q.num : Str) ++ (("/" : String) : Str)).length + (toString (q.den : Int) : Str).length ≤ sizeLine := by
      rw [strLen_append]
      omega
    refine dSeq_step (sd' := [some (.ptr p), some (.int h), some (.int l), some (.int s), some (amt q), some (.int g), some (.int (if 0 < l then 1 else -1)), some (.tup [.int q.num, .int (q.den : Int)]), some (.str (qStr q)), none]) (W' := (put W p (penM cs k4 g4))) (fun D' => ?_) ?_
    · by_cases hd : q.den = 1
      · have e : ((q.den : Int) == 1) = true := by rw [hd]; rfl
        have e2 : qStr q = toString q.num := if_pos hd
        simp only [↓dSeq_e, ↓dNext_e, ↓dBreak_e, ↓dCont_e, ↓dNever_e, ↓dRet_e, ↓dRetN_e, ↓dDrop_e, ↓dIfS_e, ↓dAsg_e, ↓dPar_e, ↓dPar3_e, ↓gN_e, ↓gTp_e, ↓gNs_e, ↓gN0_e, ↓dVar_e, ↓dC_e, ↓dCB_e, ↓dCons_e, ↓dNil_e, ↓dTup_e, ↓dLst_e, ↓dLstM_e, ↓dOpMul_e, ↓dOpAdd_e, ↓dOpSub_e, ↓dOpFdv_e, ↓dOpMod_e, ↓dOpPow_e, ↓dOpCm_e, ↓dOpEq_e, ↓dOpIn_e, ↓dOpIs_e, ↓dTst_e, ↓dTbl_e, ↓dNot_e, ↓dAnd_e, ↓dOr_e, ↓dAndV_e, ↓dOrV_e, ↓dNotV_e, ↓dIf_e, ↓dCall_e, ↓dSm_e, ↓dCm_e, ↓dFor_e, ↓iSq_e, ↓iRng1_e, ↓dNeg_e, ↓dFld_e, ↓dLc_e, ↓dBM_e, ↓dFmt_e, ↓dSl_e, ↓dPart_e, ↓dNoPart_e, ↓dfl_e0, ↓tMul_ii, ↓tAdd_ii, ↓tSub_ii, ↓tFdiv_ii, ↓tMod_ii, ↓tPow_ii, ↓tCm_ii, ↓rdP0, ↓rdP1, ↓rdV0, ↓rdV1, ↓rdA,
      kBl, kTru, rIsN_f, rIsN_t, isNon_non, isNon_int, isNon_str, isNon_tup, isNon_lst, isNon_parts, isNon_amt, rIsiD, kSome, startD, kI2, rInt2,
      List.map_cons, List.map_nil, List.length_cons, List.length_nil, List.cons_append, List.nil_append, List.getElem?_cons_zero, List.getElem?_cons_succ, List.replicate, Nat.reduceSub, Nat.reduceAdd, Nat.reduceLeDiff, Nat.zero_add, Nat.add_zero, Nat.sub_self, Nat.sub_zero, List.set_cons_zero, List.set_cons_succ, List.append_nil, List.drop, List.drop_zero,
      Option.some.injEq, exists_eq_left', exists_eq_left, true_and, and_true, if_true, if_false, Bool.false_eq_true, Bool.not_true, Bool.not_false, ite_true, ite_false, reduceIte, reduceCtorEq, Nat.le_refl, ↓dOp_e, tIx_t, ix0, ix1, kSome, ↓dStr_k, ↓strK_i b_n, rEqQ, eqII, dpII, e, e2]
      · have e : ((q.den : Int) == 1) = false := by
          simp
          omega
        have e2 : qStr q = (toString q.num : Str) ++ "/" ++ (toString (q.den : Int) : Str) := if_neg hd
        simp only [↓dSeq_e, ↓dNext_e, ↓dBreak_e, ↓dCont_e, ↓dNever_e, ↓dRet_e, ↓dRetN_e, ↓dDrop_e, ↓dIfS_e, ↓dAsg_e, ↓dPar_e, ↓dPar3_e, ↓gN_e, ↓gTp_e, ↓gNs_e, ↓gN0_e, ↓dVar_e, ↓dC_e, ↓dCB_e, ↓dCons_e, ↓dNil_e, ↓dTup_e, ↓dLst_e, ↓dLstM_e, ↓dOpMul_e, ↓dOpAdd_e, ↓dOpSub_e, ↓dOpFdv_e, ↓dOpMod_e, ↓dOpPow_e, ↓dOpCm_e, ↓dOpEq_e, ↓dOpIn_e, ↓dOpIs_e, ↓dTst_e, ↓dTbl_e, ↓dNot_e, ↓dAnd_e, ↓dOr_e, ↓dAndV_e, ↓dOrV_e, ↓dNotV_e, ↓dIf_e, ↓dCall_e, ↓dSm_e, ↓dCm_e, ↓dFor_e, ↓iSq_e, ↓iRng1_e, ↓dNeg_e, ↓dFld_e, ↓dLc_e, ↓dBM_e, ↓dFmt_e, ↓dSl_e, ↓dPart_e, ↓dNoPart_e, ↓dfl_e0, ↓tMul_ii, ↓tAdd_ii, ↓tSub_ii, ↓tFdiv_ii, ↓tMod_ii, ↓tPow_ii, ↓tCm_ii, ↓rdP0, ↓rdP1, ↓rdV0, ↓rdV1, ↓rdA,
      kBl, kTru, rIsN_f, rIsN_t, isNon_non, isNon_int, isNon_str, isNon_tup, isNon_lst, isNon_parts, isNon_amt, rIsiD, kSome, startD, kI2, rInt2,
      List.map_cons, List.map_nil, List.length_cons, List.length_nil, List.cons_append, List.nil_append, List.getElem?_cons_zero, List.getElem?_cons_succ, List.replicate, Nat.reduceSub, Nat.reduceAdd, Nat.reduceLeDiff, Nat.zero_add, Nat.add_zero, Nat.sub_self, Nat.sub_zero, List.set_cons_zero, List.set_cons_succ, List.append_nil, List.drop, List.drop_zero,
      Option.some.injEq, exists_eq_left', exists_eq_left, true_and, and_true, if_true, if_false, Bool.false_eq_true, Bool.not_true, Bool.not_false, ite_true, ite_false, reduceIte, reduceCtorEq, Nat.le_refl, ↓dOp_e, tIx_t, ix0, ix1, kSome, ↓dStr_k, ↓strK_i b_n, ↓strK_i b_d, rEqQ, eqII, dpII, e, ↓tAdd_ss a1, ↓tAdd_ss a2, e2]
    refine dSeq_stepI (sd' := [some (.ptr p), some (.int h), some (.int l), some (.int s), some (amt q), some (.int g), some (.int (if 0 < l then 1 else -1)), some (.tup [.int q.num, .int (q.den : Int)]), some (.str (qStr q)), none]) (W' := (put W p (penM cs k4 g4))) (fun D' gD => ?_) ?_
    · simp only [↓dSeq_e, ↓dNext_e, ↓dBreak_e, ↓dCont_e, ↓dNever_e, ↓dRet_e, ↓dRetN_e, ↓dDrop_e, ↓dIfS_e, ↓dAsg_e, ↓dPar_e, ↓dPar3_e, ↓gN_e, ↓gTp_e, ↓gNs_e, ↓gN0_e, ↓dVar_e, ↓dC_e, ↓dCB_e, ↓dCons_e, ↓dNil_e, ↓dTup_e, ↓dLst_e, ↓dLstM_e, ↓dOpMul_e, ↓dOpAdd_e, ↓dOpSub_e, ↓dOpFdv_e, ↓dOpMod_e, ↓dOpPow_e, ↓dOpCm_e, ↓dOpEq_e, ↓dOpIn_e, ↓dOpIs_e, ↓dTst_e, ↓dTbl_e, ↓dNot_e, ↓dAnd_e, ↓dOr_e, ↓dAndV_e, ↓dOrV_e, ↓dNotV_e, ↓dIf_e, ↓dCall_e, ↓dSm_e, ↓dCm_e, ↓dFor_e, ↓iSq_e, ↓iRng1_e, ↓dNeg_e, ↓dFld_e, ↓dLc_e, ↓dBM_e, ↓dFmt_e, ↓dSl_e, ↓dPart_e, ↓dNoPart_e, ↓dfl_e0, ↓tMul_ii, ↓tAdd_ii, ↓tSub_ii, ↓tFdiv_ii, ↓tMod_ii, ↓tPow_ii, ↓tCm_ii, ↓rdP0, ↓rdP1, ↓rdV0, ↓rdV1, ↓rdA,
      kBl, kTru, rIsN_f, rIsN_t, isNon_non, isNon_int, isNon_str, isNon_tup, isNon_lst, isNon_parts, isNon_amt, rIsiD, kSome, startD, kI2, rInt2,
      List.map_cons, List.map_nil, List.length_cons, List.length_nil, List.cons_append, List.nil_append, List.getElem?_cons_zero, List.getElem?_cons_succ, List.replicate, Nat.reduceSub, Nat.reduceAdd, Nat.reduceLeDiff, Nat.zero_add, Nat.add_zero, Nat.sub_self, Nat.sub_zero, List.set_cons_zero, List.set_cons_succ, List.append_nil, List.drop, List.drop_zero,
      Option.some.injEq, exists_eq_left', exists_eq_left, true_and, and_true, if_true, if_false, Bool.false_eq_true, Bool.not_true, Bool.not_false, ite_true, ite_false, reduceIte, reduceCtorEq, Nat.le_refl, ↓dStr_k, strK_q szs, rEqQ, eqS, dpS, beq_self_eq_true, ↓dOp_e, ↓dMkK_k]
      refine mkA_2 (by omega) (bd.sub (n := 1) (a := 0) (by unfold bd; decide) b_l).bg ?_
      rw [dv_nn, ← hq]
      simp only [↓dSeq_e, ↓dNext_e, ↓dBreak_e, ↓dCont_e, ↓dNever_e, ↓dRet_e, ↓dRetN_e, ↓dDrop_e, ↓dIfS_e, ↓dAsg_e, ↓dPar_e, ↓dPar3_e, ↓gN_e, ↓gTp_e, ↓gNs_e, ↓gN0_e, ↓dVar_e, ↓dC_e, ↓dCB_e, ↓dCons_e, ↓dNil_e, ↓dTup_e, ↓dLst_e, ↓dLstM_e, ↓dOpMul_e, ↓dOpAdd_e, ↓dOpSub_e, ↓dOpFdv_e, ↓dOpMod_e, ↓dOpPow_e, ↓dOpCm_e, ↓dOpEq_e, ↓dOpIn_e, ↓dOpIs_e, ↓dTst_e, ↓dTbl_e, ↓dNot_e, ↓dAnd_e, ↓dOr_e, ↓dAndV_e, ↓dOrV_e, ↓dNotV_e, ↓dIf_e, ↓dCall_e, ↓dSm_e, ↓dCm_e, ↓dFor_e, ↓iSq_e, ↓iRng1_e, ↓dNeg_e, ↓dFld_e, ↓dLc_e, ↓dBM_e, ↓dFmt_e, ↓dSl_e, ↓dPart_e, ↓dNoPart_e, ↓dfl_e0, ↓tMul_ii, ↓tAdd_ii, ↓tSub_ii, ↓tFdiv_ii, ↓tMod_ii, ↓tPow_ii, ↓tCm_ii, ↓rdP0, ↓rdP1, ↓rdV0, ↓rdV1, ↓rdA,
      kBl, kTru, rIsN_f, rIsN_t, isNon_non, isNon_int, isNon_str, isNon_tup, isNon_lst, isNon_parts, isNon_amt, rIsiD, kSome, startD, kI2, rInt2,
      List.map_cons, List.map_nil, List.length_cons, List.length_nil, List.cons_append, List.nil_append, List.getElem?_cons_zero, List.getElem?_cons_succ, List.replicate, Nat.reduceSub, Nat.reduceAdd, Nat.reduceLeDiff, Nat.zero_add, Nat.add_zero, Nat.sub_self, Nat.sub_zero, List.set_cons_zero, List.set_cons_succ, List.append_nil, List.drop, List.drop_zero,
      Option.some.injEq, exists_eq_left', exists_eq_left, true_and, and_true, if_true, if_false, Bool.false_eq_true, Bool.not_true, Bool.not_false, ite_true, ite_false, reduceIte, reduceCtorEq, Nat.le_refl, rEqQ, eqD_amt h0, dpA, decide_true, ↓of_q h0 (toQ_amt _)]
      exact gD
    have w1 : decide (q = (q.num : Rat)) = ((q.den : Int) == 1) := by
      rw [Bool.eq_iff_iff, decide_eq_true_eq, whole_iff, beq_iff_eq]
      omega
    refine dSeq_step (sd' := [some (.ptr p), some (.int h), some (.int l), some (.int s), some (amt q), some (.int g), some (.int (if 0 < l then 1 else -1)), some (.tup [.int q.num, .int (q.den : Int)]), some (.str (qStr q)), none]) (W' := (put W p (penM cs k4 g4))) (fun D' => ?_) ?_
    · simp only [↓dSeq_e, ↓dNext_e, ↓dBreak_e, ↓dCont_e, ↓dNever_e, ↓dRet_e, ↓dRetN_e, ↓dDrop_e, ↓dIfS_e, ↓dAsg_e, ↓dPar_e, ↓dPar3_e, ↓gN_e, ↓gTp_e, ↓gNs_e, ↓gN0_e, ↓dVar_e, ↓dC_e, ↓dCB_e, ↓dCons_e, ↓dNil_e, ↓dTup_e, ↓dLst_e, ↓dLstM_e, ↓dOpMul_e, ↓dOpAdd_e, ↓dOpSub_e, ↓dOpFdv_e, ↓dOpMod_e, ↓dOpPow_e, ↓dOpCm_e, ↓dOpEq_e, ↓dOpIn_e, ↓dOpIs_e, ↓dTst_e, ↓dTbl_e, ↓dNot_e, ↓dAnd_e, ↓dOr_e, ↓dAndV_e, ↓dOrV_e, ↓dNotV_e, ↓dIf_e, ↓dCall_e, ↓dSm_e, ↓dCm_e, ↓dFor_e, ↓iSq_e, ↓iRng1_e, ↓dNeg_e, ↓dFld_e, ↓dLc_e, ↓dBM_e, ↓dFmt_e, ↓dSl_e, ↓dPart_e, ↓dNoPart_e, ↓dfl_e0, ↓tMul_ii, ↓tAdd_ii, ↓tSub_ii, ↓tFdiv_ii, ↓tMod_ii, ↓tPow_ii, ↓tCm_ii, ↓rdP0, ↓rdP1, ↓rdV0, ↓rdV1, ↓rdA,
      kBl, kTru, rIsN_f, rIsN_t, isNon_non, isNon_int, isNon_str, isNon_tup, isNon_lst, isNon_parts, isNon_amt, rIsiD, kSome, startD, kI2, rInt2,
      List.map_cons, List.map_nil, List.length_cons, List.length_nil, List.cons_append, List.nil_append, List.getElem?_cons_zero, List.getElem?_cons_succ, List.replicate, Nat.reduceSub, Nat.reduceAdd, Nat.reduceLeDiff, Nat.zero_add, Nat.add_zero, Nat.sub_self, Nat.sub_zero, List.set_cons_zero, List.set_cons_succ, List.append_nil, List.drop, List.drop_zero,
      Option.some.injEq, exists_eq_left', exists_eq_left, true_and, and_true, if_true, if_false, Bool.false_eq_true, Bool.not_true, Bool.not_false, ite_true, ite_false, reduceIte, reduceCtorEq, Nat.le_refl, ↓dOp_e, tIx_t, ix0, ix1, kSome, rEqQ, eqD_amt_int h0, eqD_int_amt h0, dpA, w1, eqII, dpII, ↓repr_b3, eqS, dpS, beq_self_eq_true]
    have nn : decide (q = Rat.divInt (h + 1) l) = false := decide_eq_false (by rw [hq]; exact dv_ne1 lz)
    refine dSeq_stepI (sd' := [some (.ptr p), some (.int h), some (.int l), some (.int s), some (amt q), some (.int g), some (.int (if 0 < l then 1 else -1)), some (.tup [.int q.num, .int (q.den : Int)]), some (.str (qStr q)), none]) (W' := (put W p (penM cs k4 g4))) (fun D' gD => ?_) ?_
    · simp only [↓dSeq_e, ↓dNext_e, ↓dBreak_e, ↓dCont_e, ↓dNever_e, ↓dRet_e, ↓dRetN_e, ↓dDrop_e, ↓dIfS_e, ↓dAsg_e, ↓dPar_e, ↓dPar3_e, ↓gN_e, ↓gTp_e, ↓gNs_e, ↓gN0_e, ↓dVar_e, ↓dC_e, ↓dCB_e, ↓dCons_e, ↓dNil_e, ↓dTup_e, ↓dLst_e, ↓dLstM_e, ↓dOpMul_e, ↓dOpAdd_e, ↓dOpSub_e, ↓dOpFdv_e, ↓dOpMod_e, ↓dOpPow_e, ↓dOpCm_e, ↓dOpEq_e, ↓dOpIn_e, ↓dOpIs_e, ↓dTst_e, ↓dTbl_e, ↓dNot_e, ↓dAnd_e, ↓dOr_e, ↓dAndV_e, ↓dOrV_e, ↓dNotV_e, ↓dIf_e, ↓dCall_e, ↓dSm_e, ↓dCm_e, ↓dFor_e, ↓iSq_e, ↓iRng1_e, ↓dNeg_e, ↓dFld_e, ↓dLc_e, ↓dBM_e, ↓dFmt_e, ↓dSl_e, ↓dPart_e, ↓dNoPart_e, ↓dfl_e0, ↓tMul_ii, ↓tAdd_ii, ↓tSub_ii, ↓tFdiv_ii, ↓tMod_ii, ↓tPow_ii, ↓tCm_ii, ↓rdP0, ↓rdP1, ↓rdV0, ↓rdV1, ↓rdA,
      kBl, kTru, rIsN_f, rIsN_t, isNon_non, isNon_int, isNon_str, isNon_tup, isNon_lst, isNon_parts, isNon_amt, rIsiD, kSome, startD, kI2, rInt2,
      List.map_cons, List.map_nil, List.length_cons, List.length_nil, List.cons_append, List.nil_append, List.getElem?_cons_zero, List.getElem?_cons_succ, List.replicate, Nat.reduceSub, Nat.reduceAdd, Nat.reduceLeDiff, Nat.zero_add, Nat.add_zero, Nat.sub_self, Nat.sub_zero, List.set_cons_zero, List.set_cons_succ, List.append_nil, List.drop, List.drop_zero,
      Option.some.injEq, exists_eq_left', exists_eq_left, true_and, and_true, if_true, if_false, Bool.false_eq_true, Bool.not_true, Bool.not_false, ite_true, ite_false, reduceIte, reduceCtorEq, Nat.le_refl, ↓dOp_e, ↓dMk_amt]
      refine mkA_2 lz b_l.bg ?_
      simp only [↓dSeq_e, ↓dNext_e, ↓dBreak_e, ↓dCont_e, ↓dNever_e, ↓dRet_e, ↓dRetN_e, ↓dDrop_e, ↓dIfS_e, ↓dAsg_e, ↓dPar_e, ↓dPar3_e, ↓gN_e, ↓gTp_e, ↓gNs_e, ↓gN0_e, ↓dVar_e, ↓dC_e, ↓dCB_e, ↓dCons_e, ↓dNil_e, ↓dTup_e, ↓dLst_e, ↓dLstM_e, ↓dOpMul_e, ↓dOpAdd_e, ↓dOpSub_e, ↓dOpFdv_e, ↓dOpMod_e, ↓dOpPow_e, ↓dOpCm_e, ↓dOpEq_e, ↓dOpIn_e, ↓dOpIs_e, ↓dTst_e, ↓dTbl_e, ↓dNot_e, ↓dAnd_e, ↓dOr_e, ↓dAndV_e, ↓dOrV_e, ↓dNotV_e, ↓dIf_e, ↓dCall_e, ↓dSm_e, ↓dCm_e, ↓dFor_e, ↓iSq_e, ↓iRng1_e, ↓dNeg_e, ↓dFld_e, ↓dLc_e, ↓dBM_e, ↓dFmt_e, ↓dSl_e, ↓dPart_e, ↓dNoPart_e, ↓dfl_e0, ↓tMul_ii, ↓tAdd_ii, ↓tSub_ii, ↓tFdiv_ii, ↓tMod_ii, ↓tPow_ii, ↓tCm_ii, ↓rdP0, ↓rdP1, ↓rdV0, ↓rdV1, ↓rdA,
      kBl, kTru, rIsN_f, rIsN_t, isNon_non, isNon_int, isNon_str, isNon_tup, isNon_lst, isNon_parts, isNon_amt, rIsiD, kSome, startD, kI2, rInt2,
      List.map_cons, List.map_nil, List.length_cons, List.length_nil, List.cons_append, List.nil_append, List.getElem?_cons_zero, List.getElem?_cons_succ, List.replicate, Nat.reduceSub, Nat.reduceAdd, Nat.reduceLeDiff, Nat.zero_add, Nat.add_zero, Nat.sub_self, Nat.sub_zero, List.set_cons_zero, List.set_cons_succ, List.append_nil, List.drop, List.drop_zero,
      Option.some.injEq, exists_eq_left', exists_eq_left, true_and, and_true, if_true, if_false, Bool.false_eq_true, Bool.not_true, Bool.not_false, ite_true, ite_false, reduceIte, reduceCtorEq, Nat.le_refl, rEqQ, eqD_amt h0, dpA, nn, tIn_lst, lits_no h0, dps_lits]
      first
        | exact gD
        | exact ⟨by decide, gD⟩
    refine dSeq_step (sd' := [some (.ptr p), some (.int h), some (.int l), some (.int s), some (amt q), some (.int g), some (.int (if 0 < l then 1 else -1)), some (.tup [.int q.num, .int (q.den : Int)]), some (.str (qStr q)), some (amt (h : Rat))]) (W' := (put W p (penM cs k4 g4))) (fun D' => ?_) ?_
    · simp only [↓dSeq_e, ↓dNext_e, ↓dBreak_e, ↓dCont_e, ↓dNever_e, ↓dRet_e, ↓dRetN_e, ↓dDrop_e, ↓dIfS_e, ↓dAsg_e, ↓dPar_e, ↓dPar3_e, ↓gN_e, ↓gTp_e, ↓gNs_e, ↓gN0_e, ↓dVar_e, ↓dC_e, ↓dCB_e, ↓dCons_e, ↓dNil_e, ↓dTup_e, ↓dLst_e, ↓dLstM_e, ↓dOpMul_e, ↓dOpAdd_e, ↓dOpSub_e, ↓dOpFdv_e, ↓dOpMod_e, ↓dOpPow_e, ↓dOpCm_e, ↓dOpEq_e, ↓dOpIn_e, ↓dOpIs_e, ↓dTst_e, ↓dTbl_e, ↓dNot_e, ↓dAnd_e, ↓dOr_e, ↓dAndV_e, ↓dOrV_e, ↓dNotV_e, ↓dIf_e, ↓dCall_e, ↓dSm_e, ↓dCm_e, ↓dFor_e, ↓iSq_e, ↓iRng1_e, ↓dNeg_e, ↓dFld_e, ↓dLc_e, ↓dBM_e, ↓dFmt_e, ↓dSl_e, ↓dPart_e, ↓dNoPart_e, ↓dfl_e0, ↓tMul_ii, ↓tAdd_ii, ↓tSub_ii, ↓tFdiv_ii, ↓tMod_ii, ↓tPow_ii, ↓tCm_ii, ↓rdP0, ↓rdP1, ↓rdV0, ↓rdV1, ↓rdA,
      kBl, kTru, rIsN_f, rIsN_t, isNon_non, isNon_int, isNon_str, isNon_tup, isNon_lst, isNon_parts, isNon_amt, rIsiD, kSome, startD, kI2, rInt2,
      List.map_cons, List.map_nil, List.length_cons, List.length_nil, List.cons_append, List.nil_append, List.getElem?_cons_zero, List.getElem?_cons_succ, List.replicate, Nat.reduceSub, Nat.reduceAdd, Nat.reduceLeDiff, Nat.zero_add, Nat.add_zero, Nat.sub_self, Nat.sub_zero, List.set_cons_zero, List.set_cons_succ, List.append_nil, List.drop, List.drop_zero,
      Option.some.injEq, exists_eq_left', exists_eq_left, true_and, and_true, if_true, if_false, Bool.false_eq_true, Bool.not_true, Bool.not_false, ite_true, ite_false, reduceIte, reduceCtorEq, Nat.le_refl, ↓dSmK_e, ↓kw1, ↓of_q h0 (toQ_int h)]
    have fin := hh k4 g4 (by omega) (by omega)
    rw [put_put] at fin
    simp only [↓dSeq_e, ↓dNext_e, ↓dBreak_e, ↓dCont_e, ↓dNever_e, ↓dRet_e, ↓dRetN_e, ↓dDrop_e, ↓dIfS_e, ↓dAsg_e, ↓dPar_e, ↓dPar3_e, ↓gN_e, ↓gTp_e, ↓gNs_e, ↓gN0_e, ↓dVar_e, ↓dC_e, ↓dCB_e, ↓dCons_e, ↓dNil_e, ↓dTup_e, ↓dLst_e, ↓dLstM_e, ↓dOpMul_e, ↓dOpAdd_e, ↓dOpSub_e, ↓dOpFdv_e, ↓dOpMod_e, ↓dOpPow_e, ↓dOpCm_e, ↓dOpEq_e, ↓dOpIn_e, ↓dOpIs_e, ↓dTst_e, ↓dTbl_e, ↓dNot_e, ↓dAnd_e, ↓dOr_e, ↓dAndV_e, ↓dOrV_e, ↓dNotV_e, ↓dIf_e, ↓dCall_e, ↓dSm_e, ↓dCm_e, ↓dFor_e, ↓iSq_e, ↓iRng1_e, ↓dNeg_e, ↓dFld_e, ↓dLc_e, ↓dBM_e, ↓dFmt_e, ↓dSl_e, ↓dPart_e, ↓dNoPart_e, ↓dfl_e0, ↓tMul_ii, ↓tAdd_ii, ↓tSub_ii, ↓tFdiv_ii, ↓tMod_ii, ↓tPow_ii, ↓tCm_ii, ↓rdP0, ↓rdP1, ↓rdV0, ↓rdV1, ↓rdA,
      kBl, kTru, rIsN_f, rIsN_t, isNon_non, isNon_int, isNon_str, isNon_tup, isNon_lst, isNon_parts, isNon_amt, kSome, startD, kI2, rInt2,
      List.map_cons, List.map_nil, List.length_cons, List.length_nil, List.cons_append, List.nil_append, List.getElem?_cons_zero, List.getElem?_cons_succ, List.replicate, Nat.reduceSub, Nat.reduceAdd, Nat.reduceLeDiff, Nat.zero_add, Nat.add_zero, Nat.sub_self, Nat.sub_zero, List.set_cons_zero, List.set_cons_succ, List.append_nil, List.drop, List.drop_zero,
      Option.some.injEq, exists_eq_left', exists_eq_left, true_and, and_true, if_true, if_false, Bool.false_eq_true, Bool.not_true, Bool.not_false, ite_true, ite_false, reduceIte, reduceCtorEq, Nat.le_refl, isi_amt h0, ↓dOp_e, ↓dTop_k, ↓dBot_k, topK_q, botK_q, Rat.num_intCast, Rat.den_intCast, rEqQ, show ((1 : Nat) : Int) = 1 from rfl, eqT2, dpT2, ↓dMk_amt]
    refine mkA_1 ?_
    simp only [↓dSeq_e, ↓dNext_e, ↓dBreak_e, ↓dCont_e, ↓dNever_e, ↓dRet_e, ↓dRetN_e, ↓dDrop_e, ↓dIfS_e, ↓dAsg_e, ↓dPar_e, ↓dPar3_e, ↓gN_e, ↓gTp_e, ↓gNs_e, ↓gN0_e, ↓dVar_e, ↓dC_e, ↓dCB_e, ↓dCons_e, ↓dNil_e, ↓dTup_e, ↓dLst_e, ↓dLstM_e, ↓dOpMul_e, ↓dOpAdd_e, ↓dOpSub_e, ↓dOpFdv_e, ↓dOpMod_e, ↓dOpPow_e, ↓dOpCm_e, ↓dOpEq_e, ↓dOpIn_e, ↓dOpIs_e, ↓dTst_e, ↓dTbl_e, ↓dNot_e, ↓dAnd_e, ↓dOr_e, ↓dAndV_e, ↓dOrV_e, ↓dNotV_e, ↓dIf_e, ↓dCall_e, ↓dSm_e, ↓dCm_e, ↓dFor_e, ↓iSq_e, ↓iRng1_e, ↓dNeg_e, ↓dFld_e, ↓dLc_e, ↓dBM_e, ↓dFmt_e, ↓dSl_e, ↓dPart_e, ↓dNoPart_e, ↓dfl_e0, ↓tMul_ii, ↓tAdd_ii, ↓tSub_ii, ↓tFdiv_ii, ↓tMod_ii, ↓tPow_ii, ↓tCm_ii, ↓rdP0, ↓rdP1, ↓rdV0, ↓rdV1, ↓rdA,
      kBl, kTru, rIsN_f, rIsN_t, isNon_non, isNon_int, isNon_str, isNon_tup, isNon_lst, isNon_parts, isNon_amt, rIsiD, kSome, startD, kI2, rInt2,
      List.map_cons, List.map_nil, List.length_cons, List.length_nil, List.cons_append, List.nil_append, List.getElem?_cons_zero, List.getElem?_cons_succ, List.replicate, Nat.reduceSub, Nat.reduceAdd, Nat.reduceLeDiff, Nat.zero_add, Nat.add_zero, Nat.sub_self, Nat.sub_zero, List.set_cons_zero, List.set_cons_succ, List.append_nil, List.drop, List.drop_zero,
      Option.some.injEq, exists_eq_left', exists_eq_left, true_and, and_true, if_true, if_false, Bool.false_eq_true, Bool.not_true, Bool.not_false, ite_true, ite_false, reduceIte, reduceCtorEq, Nat.le_refl, rEqQ, eqD_amt h0, dpA, decide_true]
    exact fin
end Mv
end
section
set_option Elab.async false
set_option linter.all false
set_option maxRecDepth 100000
set_option maxHeartbeats 4000000
namespace Mv
open PySem PySem.Spec L2 SX
theorem len__law_refused_right (S : Sy) : ∀ ds W Q E, sp__law_refused_right S ds W Q E → ds.length = 1 := fun ds W Q E h => len_pen h.2 fun r q h => by
  match r, h with
  | [], h => rfl
theorem eqM6 {q : EqI} {a b c d e : Str} : eqD q (.lst [.str a, .str b, .str c, .str d, .str e, .non]) (.lst [.str a, .str b, .str c, .str d, .str e, .non]) = some true := by
  have fn : flatO .non .non = some true := rfl
  simp only [eqD, List.length_cons, List.length_nil, if_true, eqDs, flatS, fn]
theorem dpM6 {a b c d e : Str} : ((D.lst [.str a, .str b, .str c, .str d, .str e, .non]).dp ≤ 6) = True := propext ⟨fun _ => trivial, fun _ => by
  simp only [D.dp, dps]
  decide⟩
/-- odd values in the place of a part -/
theorem odd_top {S : Sy} {x : D} (h0 : 0 ∈ S.cl) {q : Rat} (h : x ∈ [.non, .bl true, .bl false, .str "3", .tup [.int 3], .lst [], .dK [], amt q]) : (∀ W, knT S W x) ∧ intD x = none := by
  simp only [List.mem_cons, List.not_mem_nil, or_false] at h
  rcases h with rfl | rfl | rfl | rfl | rfl | rfl | rfl | rfl
  all_goals first
    | exact ⟨fun W => ⟨.own 0, rfl, fun j e => by cases e; exact h0⟩, rfl⟩
    | exact ⟨fun W => ⟨_, rfl, fun j e => (by cases e)⟩, rfl⟩
theorem odd_bot {S : Sy} {x : D} (h0 : 0 ∈ S.cl) {q : Rat} (h : x ∈ [.non, .int 0, .bl true, .str "1", .tup [.int 1], .lst [.int 2], .dK [], amt q]) : (∀ W, knT S W x) ∧ (intD x = none ∨ x = .int 0) := by
  simp only [List.mem_cons, List.not_mem_nil, or_false] at h
  rcases h with rfl | rfl | rfl | rfl | rfl | rfl | rfl | rfl
  all_goals first
    | exact ⟨fun W => ⟨.own 0, rfl, fun j e => by cases e; exact h0⟩, .inl rfl⟩
    | exact ⟨fun W => ⟨_, rfl, fun j e => (by cases e)⟩, .inl rfl⟩
    | exact ⟨fun W => ⟨_, rfl, fun j e => (by cases e)⟩, .inr rfl⟩
theorem odd_of_v {S : Sy} {x : D} (h : x ∈ [.non, .bl true, .str "3", .tup [.int 3], .lst [], .dK []]) : (∀ W, knD S W x) ∧ toQ x = none := by
  simp only [List.mem_cons, List.not_mem_nil, or_false] at h
  rcases h with rfl | rfl | rfl | rfl | rfl | rfl
  all_goals exact ⟨fun W => ⟨⟨_, rfl, fun j e => (by cases e)⟩, fun h => h.elim⟩, rfl⟩
theorem pf__law_refused_right (S : Sy) : ∀ ds W Q2 E2, sp__law_refused_right S ds W Q2 E2 → t__law_refused_right S { nx := fun _ W => Q2 .non W, rt := Q2 } (startD ["_law_pen_here", "_law_odd", "_law_more", "_law_fine", "_law_heard_here", "_law_other"] ds) W (fun x _ W => E2 x W) := by
  intro ds W Q E hh
  obtain ⟨h0, hh⟩ := hh
  obtain ⟨p, r, cs, k, g0, rfl, ⟨hW, hl, hk0, hk1⟩, hk, hh⟩ := spPen.inv hh
  match r, hh with
  | [], hh =>
    have eW : W = put W p (penM cs k g0) := (put_get hW).symm
    rw [eW] at hh ⊢
    unfold t__law_refused_right
    refine dSeq_stepA (fun sd W' => ∃ (x : D) (k1 g1 : Int), (∀ W, knT S W x) ∧ intD x = none ∧ sd = [some (.ptr p), some x, none, none, none, none] ∧ W' = put W p (penM cs k1 g1) ∧ k ≤ k1 ∧ k1 ≤ k + 1) (fun D' hD => ?_) ?_
    · simp only [↓dSeq_e, ↓dNext_e, ↓dBreak_e, ↓dCont_e, ↓dNever_e, ↓dRet_e, ↓dRetN_e, ↓dDrop_e, ↓dIfS_e, ↓dAsg_e, ↓dPar_e, ↓dPar3_e, ↓gN_e, ↓gTp_e, ↓gNs_e, ↓gN0_e, ↓dVar_e, ↓dC_e, ↓dCB_e, ↓dCons_e, ↓dNil_e, ↓dTup_e, ↓dLst_e, ↓dLstM_e, ↓dOpMul_e, ↓dOpAdd_e, ↓dOpSub_e, ↓dOpFdv_e, ↓dOpMod_e, ↓dOpPow_e, ↓dOpCm_e, ↓dOpEq_e, ↓dOpIn_e, ↓dOpIs_e, ↓dTst_e, ↓dTbl_e, ↓dNot_e, ↓dAnd_e, ↓dOr_e, ↓dAndV_e, ↓dOrV_e, ↓dNotV_e, ↓dIf_e, ↓dCall_e, ↓dSm_e, ↓dCm_e, ↓dFor_e, ↓iSq_e, ↓iRng1_e, ↓dNeg_e, ↓dFld_e, ↓dLc_e, ↓dBM_e, ↓dFmt_e, ↓dSl_e, ↓dPart_e, ↓dNoPart_e, ↓dfl_e0, ↓tMul_ii, ↓tAdd_ii, ↓tSub_ii, ↓tFdiv_ii, ↓tMod_ii, ↓tPow_ii, ↓tCm_ii, ↓rdP0, ↓rdP1, ↓rdV0, ↓rdV1, ↓rdA,
      kBl, kTru, rIsN_f, rIsN_t, isNon_non, isNon_int, isNon_str, isNon_tup, isNon_lst, isNon_parts, isNon_amt, rIsiD, kSome, startD, kI2, rInt2,
      List.map_cons, List.map_nil, List.length_cons, List.length_nil, List.cons_append, List.nil_append, List.getElem?_cons_zero, List.getElem?_cons_succ, List.replicate, Nat.reduceSub, Nat.reduceAdd, Nat.reduceLeDiff, Nat.zero_add, Nat.add_zero, Nat.sub_self, Nat.sub_zero, List.set_cons_zero, List.set_cons_succ, List.append_nil, List.drop, List.drop_zero,
      Option.some.injEq, exists_eq_left', exists_eq_left, true_and, and_true, if_true, if_false, Bool.false_eq_true, Bool.not_true, Bool.not_false, ite_true, ite_false, reduceIte, reduceCtorEq, Nat.le_refl, startD, dDct0_e, ↓dMk_amt]
      refine mkA_2 (by decide) (bg_small (by decide)) ?_
      try simp only [↓dSeq_e, ↓dNext_e, ↓dBreak_e, ↓dCont_e, ↓dNever_e, ↓dRet_e, ↓dRetN_e, ↓dDrop_e, ↓dIfS_e, ↓dAsg_e, ↓dPar_e, ↓dPar3_e, ↓gN_e, ↓gTp_e, ↓gNs_e, ↓gN0_e, ↓dVar_e, ↓dC_e, ↓dCB_e, ↓dCons_e, ↓dNil_e, ↓dTup_e, ↓dLst_e, ↓dLstM_e, ↓dOpMul_e, ↓dOpAdd_e, ↓dOpSub_e, ↓dOpFdv_e, ↓dOpMod_e, ↓dOpPow_e, ↓dOpCm_e, ↓dOpEq_e, ↓dOpIn_e, ↓dOpIs_e, ↓dTst_e, ↓dTbl_e, ↓dNot_e, ↓dAnd_e, ↓dOr_e, ↓dAndV_e, ↓dOrV_e, ↓dNotV_e, ↓dIf_e, ↓dCall_e, ↓dSm_e, ↓dCm_e, ↓dFor_e, ↓iSq_e, ↓iRng1_e, ↓dNeg_e, ↓dFld_e, ↓dLc_e, ↓dBM_e, ↓dFmt_e, ↓dSl_e, ↓dPart_e, ↓dNoPart_e, ↓dfl_e0, ↓tMul_ii, ↓tAdd_ii, ↓tSub_ii, ↓tFdiv_ii, ↓tMod_ii, ↓tPow_ii, ↓tCm_ii, ↓rdP0, ↓rdP1, ↓rdV0, ↓rdV1, ↓rdA,
      kBl, kTru, rIsN_f, rIsN_t, isNon_non, isNon_int, isNon_str, isNon_tup, isNon_lst, isNon_parts, isNon_amt, rIsiD, kSome, startD, kI2, rInt2,
      List.map_cons, List.map_nil, List.length_cons, List.length_nil, List.cons_append, List.nil_append, List.getElem?_cons_zero, List.getElem?_cons_succ, List.replicate, Nat.reduceSub, Nat.reduceAdd, Nat.reduceLeDiff, Nat.zero_add, Nat.add_zero, Nat.sub_self, Nat.sub_zero, List.set_cons_zero, List.set_cons_succ, List.append_nil, List.drop, List.drop_zero,
      Option.some.injEq, exists_eq_left', exists_eq_left, true_and, and_true, if_true, if_false, Bool.false_eq_true, Bool.not_true, Bool.not_false, ite_true, ite_false, reduceIte, reduceCtorEq, Nat.le_refl, ]
      refine pickP hl hk0 (by omega) (by simp) (by simp) fun x k1 g1 hx q1 q2 => ?_
      have o := odd_top (S := S) h0 hx
      exact hD _ _ ⟨x, k1, g1, o.1, o.2, rfl, rfl, q1, q2⟩
    rintro _ _ ⟨x, k1, g1, kx, ix, rfl, rfl, q1, q2⟩
    refine dSeq_stepA (fun sd W' => ∃ (y : D) (k2 g2 : Int), (∀ W, knT S W y) ∧ (intD y = none ∨ y = .int 0) ∧ sd = [some (.ptr p), some x, some y, none, none, none] ∧ W' = put W p (penM cs k2 g2) ∧ k ≤ k2 ∧ k2 ≤ k + 2) (fun D' hD => ?_) ?_
    · simp only [↓dSeq_e, ↓dNext_e, ↓dBreak_e, ↓dCont_e, ↓dNever_e, ↓dRet_e, ↓dRetN_e, ↓dDrop_e, ↓dIfS_e, ↓dAsg_e, ↓dPar_e, ↓dPar3_e, ↓gN_e, ↓gTp_e, ↓gNs_e, ↓gN0_e, ↓dVar_e, ↓dC_e, ↓dCB_e, ↓dCons_e, ↓dNil_e, ↓dTup_e, ↓dLst_e, ↓dLstM_e, ↓dOpMul_e, ↓dOpAdd_e, ↓dOpSub_e, ↓dOpFdv_e, ↓dOpMod_e, ↓dOpPow_e, ↓dOpCm_e, ↓dOpEq_e, ↓dOpIn_e, ↓dOpIs_e, ↓dTst_e, ↓dTbl_e, ↓dNot_e, ↓dAnd_e, ↓dOr_e, ↓dAndV_e, ↓dOrV_e, ↓dNotV_e, ↓dIf_e, ↓dCall_e, ↓dSm_e, ↓dCm_e, ↓dFor_e, ↓iSq_e, ↓iRng1_e, ↓dNeg_e, ↓dFld_e, ↓dLc_e, ↓dBM_e, ↓dFmt_e, ↓dSl_e, ↓dPart_e, ↓dNoPart_e, ↓dfl_e0, ↓tMul_ii, ↓tAdd_ii, ↓tSub_ii, ↓tFdiv_ii, ↓tMod_ii, ↓tPow_ii, ↓tCm_ii, ↓rdP0, ↓rdP1, ↓rdV0, ↓rdV1, ↓rdA,
      kBl, kTru, rIsN_f, rIsN_t, isNon_non, isNon_int, isNon_str, isNon_tup, isNon_lst, isNon_parts, isNon_amt, rIsiD, kSome, startD, kI2, rInt2,
      List.map_cons, List.map_nil, List.length_cons, List.length_nil, List.cons_append, List.nil_append, List.getElem?_cons_zero, List.getElem?_cons_succ, List.replicate, Nat.reduceSub, Nat.reduceAdd, Nat.reduceLeDiff, Nat.zero_add, Nat.add_zero, Nat.sub_self, Nat.sub_zero, List.set_cons_zero, List.set_cons_succ, List.append_nil, List.drop, List.drop_zero,
      Option.some.injEq, exists_eq_left', exists_eq_left, true_and, and_true, if_true, if_false, Bool.false_eq_true, Bool.not_true, Bool.not_false, ite_true, ite_false, reduceIte, reduceCtorEq, Nat.le_refl, dDct0_e, ↓dMk_amt]
      refine mkA_1 ?_
      try simp only [↓dSeq_e, ↓dNext_e, ↓dBreak_e, ↓dCont_e, ↓dNever_e, ↓dRet_e, ↓dRetN_e, ↓dDrop_e, ↓dIfS_e, ↓dAsg_e, ↓dPar_e, ↓dPar3_e, ↓gN_e, ↓gTp_e, ↓gNs_e, ↓gN0_e, ↓dVar_e, ↓dC_e, ↓dCB_e, ↓dCons_e, ↓dNil_e, ↓dTup_e, ↓dLst_e, ↓dLstM_e, ↓dOpMul_e, ↓dOpAdd_e, ↓dOpSub_e, ↓dOpFdv_e, ↓dOpMod_e, ↓dOpPow_e, ↓dOpCm_e, ↓dOpEq_e, ↓dOpIn_e, ↓dOpIs_e, ↓dTst_e, ↓dTbl_e, ↓dNot_e, ↓dAnd_e, ↓dOr_e, ↓dAndV_e, ↓dOrV_e, ↓dNotV_e, ↓dIf_e, ↓dCall_e, ↓dSm_e, ↓dCm_e, ↓dFor_e, ↓iSq_e, ↓iRng1_e, ↓dNeg_e, ↓dFld_e, ↓dLc_e, ↓dBM_e, ↓dFmt_e, ↓dSl_e, ↓dPart_e, ↓dNoPart_e, ↓dfl_e0, ↓tMul_ii, ↓tAdd_ii, ↓tSub_ii, ↓tFdiv_ii, ↓tMod_ii, ↓tPow_ii, ↓tCm_ii, ↓rdP0, ↓rdP1, ↓rdV0, ↓rdV1, ↓rdA,
      kBl, kTru, rIsN_f, rIsN_t, isNon_non, isNon_int, isNon_str, isNon_tup, isNon_lst, isNon_parts, isNon_amt, rIsiD, kSome, startD, kI2, rInt2,
      List.map_cons, List.map_nil, List.length_cons, List.length_nil, List.cons_append, List.nil_append, List.getElem?_cons_zero, List.getElem?_cons_succ, List.replicate, Nat.reduceSub, Nat.reduceAdd, Nat.reduceLeDiff, Nat.zero_add, Nat.add_zero, Nat.sub_self, Nat.sub_zero, List.set_cons_zero, List.set_cons_succ, List.append_nil, List.drop, List.drop_zero,
      Option.some.injEq, exists_eq_left', exists_eq_left, true_and, and_true, if_true, if_false, Bool.false_eq_true, Bool.not_true, Bool.not_false, ite_true, ite_false, reduceIte, reduceCtorEq, Nat.le_refl, ]
      refine pickP hl (by omega) (by omega) (by simp) (by simp) fun y k2 g2 hy q3 q4 => ?_
      have o := odd_bot (S := S) h0 hy
      exact hD _ _ ⟨y, k2, g2, o.1, o.2, rfl, rfl, by omega, by omega⟩
    rintro _ _ ⟨y, k2, g2, ky, iy, rfl, rfl, q3, q4⟩
    refine dSeq_stepA (fun sd W' => ∃ (n k3 g3 : Int), sd = [some (.ptr p), some x, some y, some (.int n), none, none] ∧ W' = put W p (penM cs k3 g3) ∧ k ≤ k3 ∧ k3 ≤ k + 7) (fun D' hD => ?_) ?_
    · simp only [↓dSeq_e, ↓dNext_e, ↓dBreak_e, ↓dCont_e, ↓dNever_e, ↓dRet_e, ↓dRetN_e, ↓dDrop_e, ↓dIfS_e, ↓dAsg_e, ↓dPar_e, ↓dPar3_e, ↓gN_e, ↓gTp_e, ↓gNs_e, ↓gN0_e, ↓dVar_e, ↓dC_e, ↓dCB_e, ↓dCons_e, ↓dNil_e, ↓dTup_e, ↓dLst_e, ↓dLstM_e, ↓dOpMul_e, ↓dOpAdd_e, ↓dOpSub_e, ↓dOpFdv_e, ↓dOpMod_e, ↓dOpPow_e, ↓dOpCm_e, ↓dOpEq_e, ↓dOpIn_e, ↓dOpIs_e, ↓dTst_e, ↓dTbl_e, ↓dNot_e, ↓dAnd_e, ↓dOr_e, ↓dAndV_e, ↓dOrV_e, ↓dNotV_e, ↓dIf_e, ↓dCall_e, ↓dSm_e, ↓dCm_e, ↓dFor_e, ↓iSq_e, ↓iRng1_e, ↓dNeg_e, ↓dFld_e, ↓dLc_e, ↓dBM_e, ↓dFmt_e, ↓dSl_e, ↓dPart_e, ↓dNoPart_e, ↓dfl_e0, ↓tMul_ii, ↓tAdd_ii, ↓tSub_ii, ↓tFdiv_ii, ↓tMod_ii, ↓tPow_ii, ↓tCm_ii, ↓rdP0, ↓rdP1, ↓rdV0, ↓rdV1, ↓rdA,
      kBl, kTru, rIsN_f, rIsN_t, isNon_non, isNon_int, isNon_str, isNon_tup, isNon_lst, isNon_parts, isNon_amt, rIsiD, kSome, startD, kI2, rInt2,
      List.map_cons, List.map_nil, List.length_cons, List.length_nil, List.cons_append, List.nil_append, List.getElem?_cons_zero, List.getElem?_cons_succ, List.replicate, Nat.reduceSub, Nat.reduceAdd, Nat.reduceLeDiff, Nat.zero_add, Nat.add_zero, Nat.sub_self, Nat.sub_zero, List.set_cons_zero, List.set_cons_succ, List.append_nil, List.drop, List.drop_zero,
      Option.some.injEq, exists_eq_left', exists_eq_left, true_and, and_true, if_true, if_false, Bool.false_eq_true, Bool.not_true, Bool.not_false, ite_true, ite_false, reduceIte, reduceCtorEq, Nat.le_refl, ]
      refine numP hl (by omega) (by omega) fun n k3 g3 hn q5 q6 => ?_
      exact hD _ _ ⟨n, k3, g3, rfl, rfl, by omega, by omega⟩
    rintro _ _ ⟨n, k3, g3, rfl, rfl, q5, q6⟩
    refine dSeq_stepA (fun sd W' => ∃ p1, put W p (penM cs k3 g3) p1 = none ∧ sd = [some (.ptr p), some x, some y, some (.int n), some (.ptr p1), none] ∧ W' = put (put W p (penM cs k3 g3)) p1 (.lst [.str "top"])) (fun D' hD => ?_) ?_
    · simp only [↓dSeq_e, ↓dNext_e, ↓dBreak_e, ↓dCont_e, ↓dNever_e, ↓dRet_e, ↓dRetN_e, ↓dDrop_e, ↓dIfS_e, ↓dAsg_e, ↓dPar_e, ↓dPar3_e, ↓gN_e, ↓gTp_e, ↓gNs_e, ↓gN0_e, ↓dVar_e, ↓dC_e, ↓dCB_e, ↓dCons_e, ↓dNil_e, ↓dTup_e, ↓dLst_e, ↓dLstM_e, ↓dOpMul_e, ↓dOpAdd_e, ↓dOpSub_e, ↓dOpFdv_e, ↓dOpMod_e, ↓dOpPow_e, ↓dOpCm_e, ↓dOpEq_e, ↓dOpIn_e, ↓dOpIs_e, ↓dTst_e, ↓dTbl_e, ↓dNot_e, ↓dAnd_e, ↓dOr_e, ↓dAndV_e, ↓dOrV_e, ↓dNotV_e, ↓dIf_e, ↓dCall_e, ↓dSm_e, ↓dCm_e, ↓dFor_e, ↓iSq_e, ↓iRng1_e, ↓dNeg_e, ↓dFld_e, ↓dLc_e, ↓dBM_e, ↓dFmt_e, ↓dSl_e, ↓dPart_e, ↓dNoPart_e, ↓dfl_e0, ↓tMul_ii, ↓tAdd_ii, ↓tSub_ii, ↓tFdiv_ii, ↓tMod_ii, ↓tPow_ii, ↓tCm_ii, ↓rdP0, ↓rdP1, ↓rdV0, ↓rdV1, ↓rdA,
      kBl, kTru, rIsN_f, rIsN_t, isNon_non, isNon_int, isNon_str, isNon_tup, isNon_lst, isNon_parts, isNon_amt, rIsiD, kSome, startD, kI2, rInt2,
      List.map_cons, List.map_nil, List.length_cons, List.length_nil, List.cons_append, List.nil_append, List.getElem?_cons_zero, List.getElem?_cons_succ, List.replicate, Nat.reduceSub, Nat.reduceAdd, Nat.reduceLeDiff, Nat.zero_add, Nat.add_zero, Nat.sub_self, Nat.sub_zero, List.set_cons_zero, List.set_cons_succ, List.append_nil, List.drop, List.drop_zero,
      Option.some.injEq, exists_eq_left', exists_eq_left, true_and, and_true, if_true, if_false, Bool.false_eq_true, Bool.not_true, Bool.not_false, ite_true, ite_false, reduceIte, reduceCtorEq, Nat.le_refl, ↓heard_e, ↓dMk_amt]
      refine mkA_x2 kx ky ix ?_
      simp only [↓dSeq_e, ↓dNext_e, ↓dBreak_e, ↓dCont_e, ↓dNever_e, ↓dRet_e, ↓dRetN_e, ↓dDrop_e, ↓dIfS_e, ↓dAsg_e, ↓dPar_e, ↓dPar3_e, ↓gN_e, ↓gTp_e, ↓gNs_e, ↓gN0_e, ↓dVar_e, ↓dC_e, ↓dCB_e, ↓dCons_e, ↓dNil_e, ↓dTup_e, ↓dLst_e, ↓dLstM_e, ↓dOpMul_e, ↓dOpAdd_e, ↓dOpSub_e, ↓dOpFdv_e, ↓dOpMod_e, ↓dOpPow_e, ↓dOpCm_e, ↓dOpEq_e, ↓dOpIn_e, ↓dOpIs_e, ↓dTst_e, ↓dTbl_e, ↓dNot_e, ↓dAnd_e, ↓dOr_e, ↓dAndV_e, ↓dOrV_e, ↓dNotV_e, ↓dIf_e, ↓dCall_e, ↓dSm_e, ↓dCm_e, ↓dFor_e, ↓iSq_e, ↓iRng1_e, ↓dNeg_e, ↓dFld_e, ↓dLc_e, ↓dBM_e, ↓dFmt_e, ↓dSl_e, ↓dPart_e, ↓dNoPart_e, ↓dfl_e0, ↓tMul_ii, ↓tAdd_ii, ↓tSub_ii, ↓tFdiv_ii, ↓tMod_ii, ↓tPow_ii, ↓tCm_ii, ↓rdP0, ↓rdP1, ↓rdV0, ↓rdV1, ↓rdA,
      kBl, kTru, rIsN_f, rIsN_t, isNon_non, isNon_int, isNon_str, isNon_tup, isNon_lst, isNon_parts, isNon_amt, rIsiD, kSome, startD, kI2, rInt2,
      List.map_cons, List.map_nil, List.length_cons, List.length_nil, List.cons_append, List.nil_append, List.getElem?_cons_zero, List.getElem?_cons_succ, List.replicate, Nat.reduceSub, Nat.reduceAdd, Nat.reduceLeDiff, Nat.zero_add, Nat.add_zero, Nat.sub_self, Nat.sub_zero, List.set_cons_zero, List.set_cons_succ, List.append_nil, List.drop, List.drop_zero,
      Option.some.injEq, exists_eq_left', exists_eq_left, true_and, and_true, if_true, if_false, Bool.false_eq_true, Bool.not_true, Bool.not_false, ite_true, ite_false, reduceIte, reduceCtorEq, Nat.le_refl, heardK_b]
      first
        | exact fun p1 hp1 => hD _ _ ⟨p1, hp1, rfl, rfl⟩
        | exact ⟨by decide, fun p1 hp1 => hD _ _ ⟨p1, hp1, rfl, rfl⟩⟩
    rintro _ _ ⟨p1, hp1, rfl, rfl⟩
    have ne : p ≠ p1 := fun e => by
      rw [← e, put_same] at hp1
      cases hp1
    refine dSeq_stepI (sd' := [some (.ptr p), some x, some y, some (.int n), some (.ptr p1), none]) (W' := put (put W p (penM cs k3 g3)) p1 (.lst [.str "top", .str "top"])) (fun D' gD => ?_) ?_
    · simp only [↓dSeq_e, ↓dNext_e, ↓dBreak_e, ↓dCont_e, ↓dNever_e, ↓dRet_e, ↓dRetN_e, ↓dDrop_e, ↓dIfS_e, ↓dAsg_e, ↓dPar_e, ↓dPar3_e, ↓gN_e, ↓gTp_e, ↓gNs_e, ↓gN0_e, ↓dVar_e, ↓dC_e, ↓dCB_e, ↓dCons_e, ↓dNil_e, ↓dTup_e, ↓dLst_e, ↓dLstM_e, ↓dOpMul_e, ↓dOpAdd_e, ↓dOpSub_e, ↓dOpFdv_e, ↓dOpMod_e, ↓dOpPow_e, ↓dOpCm_e, ↓dOpEq_e, ↓dOpIn_e, ↓dOpIs_e, ↓dTst_e, ↓dTbl_e, ↓dNot_e, ↓dAnd_e, ↓dOr_e, ↓dAndV_e, ↓dOrV_e, ↓dNotV_e, ↓dIf_e, ↓dCall_e, ↓dSm_e, ↓dCm_e, ↓dFor_e, ↓iSq_e, ↓iRng1_e, ↓dNeg_e, ↓dFld_e, ↓dLc_e, ↓dBM_e, ↓dFmt_e, ↓dSl_e, ↓dPart_e, ↓dNoPart_e, ↓dfl_e0, ↓tMul_ii, ↓tAdd_ii, ↓tSub_ii, ↓tFdiv_ii, ↓tMod_ii, ↓tPow_ii, ↓tCm_ii, ↓rdP0, ↓rdP1, ↓rdV0, ↓rdV1, ↓rdA,
      kBl, kTru, rIsN_f, rIsN_t, isNon_non, isNon_int, isNon_str, isNon_tup, isNon_lst, isNon_parts, isNon_amt, rIsiD, kSome, startD, kI2, rInt2,
      List.map_cons, List.map_nil, List.length_cons, List.length_nil, List.cons_append, List.nil_append, List.getElem?_cons_zero, List.getElem?_cons_succ, List.replicate, Nat.reduceSub, Nat.reduceAdd, Nat.reduceLeDiff, Nat.zero_add, Nat.add_zero, Nat.sub_self, Nat.sub_zero, List.set_cons_zero, List.set_cons_succ, List.append_nil, List.drop, List.drop_zero,
      Option.some.injEq, exists_eq_left', exists_eq_left, true_and, and_true, if_true, if_false, Bool.false_eq_true, Bool.not_true, Bool.not_false, ite_true, ite_false, reduceIte, reduceCtorEq, Nat.le_refl, tyM_p, ↓heard_e, ↓dMk_amt, ↓dMkK_k]
      refine mkA_x1 kx ix ?_
      simp only [↓dSeq_e, ↓dNext_e, ↓dBreak_e, ↓dCont_e, ↓dNever_e, ↓dRet_e, ↓dRetN_e, ↓dDrop_e, ↓dIfS_e, ↓dAsg_e, ↓dPar_e, ↓dPar3_e, ↓gN_e, ↓gTp_e, ↓gNs_e, ↓gN0_e, ↓dVar_e, ↓dC_e, ↓dCB_e, ↓dCons_e, ↓dNil_e, ↓dTup_e, ↓dLst_e, ↓dLstM_e, ↓dOpMul_e, ↓dOpAdd_e, ↓dOpSub_e, ↓dOpFdv_e, ↓dOpMod_e, ↓dOpPow_e, ↓dOpCm_e, ↓dOpEq_e, ↓dOpIn_e, ↓dOpIs_e, ↓dTst_e, ↓dTbl_e, ↓dNot_e, ↓dAnd_e, ↓dOr_e, ↓dAndV_e, ↓dOrV_e, ↓dNotV_e, ↓dIf_e, ↓dCall_e, ↓dSm_e, ↓dCm_e, ↓dFor_e, ↓iSq_e, ↓iRng1_e, ↓dNeg_e, ↓dFld_e, ↓dLc_e, ↓dBM_e, ↓dFmt_e, ↓dSl_e, ↓dPart_e, ↓dNoPart_e, ↓dfl_e0, ↓tMul_ii, ↓tAdd_ii, ↓tSub_ii, ↓tFdiv_ii, ↓tMod_ii, ↓tPow_ii, ↓tCm_ii, ↓rdP0, ↓rdP1, ↓rdV0, ↓rdV1, ↓rdA,
      kBl, kTru, rIsN_f, rIsN_t, isNon_non, isNon_int, isNon_str, isNon_tup, isNon_lst, isNon_parts, isNon_amt, rIsiD, kSome, startD, kI2, rInt2,
      List.map_cons, List.map_nil, List.length_cons, List.length_nil, List.cons_append, List.nil_append, List.getElem?_cons_zero, List.getElem?_cons_succ, List.replicate, Nat.reduceSub, Nat.reduceAdd, Nat.reduceLeDiff, Nat.zero_add, Nat.add_zero, Nat.sub_self, Nat.sub_zero, List.set_cons_zero, List.set_cons_succ, List.append_nil, List.drop, List.drop_zero,
      Option.some.injEq, exists_eq_left', exists_eq_left, true_and, and_true, if_true, if_false, Bool.false_eq_true, Bool.not_true, Bool.not_false, ite_true, ite_false, reduceIte, reduceCtorEq, Nat.le_refl, heardK_b, mApp_e]
      first
        | exact gD
        | exact ⟨by decide, gD⟩
    refine dSeq_stepI (sd' := [some (.ptr p), some x, some y, some (.int n), some (.ptr p1), none]) (W' := put (put W p (penM cs k3 g3)) p1 (.lst [.str "top", .str "top", .str "bottom"])) (fun D' gD => ?_) ?_
    · simp only [↓dSeq_e, ↓dNext_e, ↓dBreak_e, ↓dCont_e, ↓dNever_e, ↓dRet_e, ↓dRetN_e, ↓dDrop_e, ↓dIfS_e, ↓dAsg_e, ↓dPar_e, ↓dPar3_e, ↓gN_e, ↓gTp_e, ↓gNs_e, ↓gN0_e, ↓dVar_e, ↓dC_e, ↓dCB_e, ↓dCons_e, ↓dNil_e, ↓dTup_e, ↓dLst_e, ↓dLstM_e, ↓dOpMul_e, ↓dOpAdd_e, ↓dOpSub_e, ↓dOpFdv_e, ↓dOpMod_e, ↓dOpPow_e, ↓dOpCm_e, ↓dOpEq_e, ↓dOpIn_e, ↓dOpIs_e, ↓dTst_e, ↓dTbl_e, ↓dNot_e, ↓dAnd_e, ↓dOr_e, ↓dAndV_e, ↓dOrV_e, ↓dNotV_e, ↓dIf_e, ↓dCall_e, ↓dSm_e, ↓dCm_e, ↓dFor_e, ↓iSq_e, ↓iRng1_e, ↓dNeg_e, ↓dFld_e, ↓dLc_e, ↓dBM_e, ↓dFmt_e, ↓dSl_e, ↓dPart_e, ↓dNoPart_e, ↓dfl_e0, ↓tMul_ii, ↓tAdd_ii, ↓tSub_ii, ↓tFdiv_ii, ↓tMod_ii, ↓tPow_ii, ↓tCm_ii, ↓rdP0, ↓rdP1, ↓rdV0, ↓rdV1, ↓rdA,
      kBl, kTru, rIsN_f, rIsN_t, isNon_non, isNon_int, isNon_str, isNon_tup, isNon_lst, isNon_parts, isNon_amt, rIsiD, kSome, startD, kI2, rInt2,
      List.map_cons, List.map_nil, List.length_cons, List.length_nil, List.cons_append, List.nil_append, List.getElem?_cons_zero, List.getElem?_cons_succ, List.replicate, Nat.reduceSub, Nat.reduceAdd, Nat.reduceLeDiff, Nat.zero_add, Nat.add_zero, Nat.sub_self, Nat.sub_zero, List.set_cons_zero, List.set_cons_succ, List.append_nil, List.drop, List.drop_zero,
      Option.some.injEq, exists_eq_left', exists_eq_left, true_and, and_true, if_true, if_false, Bool.false_eq_true, Bool.not_true, Bool.not_false, ite_true, ite_false, reduceIte, reduceCtorEq, Nat.le_refl, tyM_p, ↓heard_e, ↓dMk_amt, ↓dMkK_k]
      refine mkA_xb ky iy ?_
      simp only [↓dSeq_e, ↓dNext_e, ↓dBreak_e, ↓dCont_e, ↓dNever_e, ↓dRet_e, ↓dRetN_e, ↓dDrop_e, ↓dIfS_e, ↓dAsg_e, ↓dPar_e, ↓dPar3_e, ↓gN_e, ↓gTp_e, ↓gNs_e, ↓gN0_e, ↓dVar_e, ↓dC_e, ↓dCB_e, ↓dCons_e, ↓dNil_e, ↓dTup_e, ↓dLst_e, ↓dLstM_e, ↓dOpMul_e, ↓dOpAdd_e, ↓dOpSub_e, ↓dOpFdv_e, ↓dOpMod_e, ↓dOpPow_e, ↓dOpCm_e, ↓dOpEq_e, ↓dOpIn_e, ↓dOpIs_e, ↓dTst_e, ↓dTbl_e, ↓dNot_e, ↓dAnd_e, ↓dOr_e, ↓dAndV_e, ↓dOrV_e, ↓dNotV_e, ↓dIf_e, ↓dCall_e, ↓dSm_e, ↓dCm_e, ↓dFor_e, ↓iSq_e, ↓iRng1_e, ↓dNeg_e, ↓dFld_e, ↓dLc_e, ↓dBM_e, ↓dFmt_e, ↓dSl_e, ↓dPart_e, ↓dNoPart_e, ↓dfl_e0, ↓tMul_ii, ↓tAdd_ii, ↓tSub_ii, ↓tFdiv_ii, ↓tMod_ii, ↓tPow_ii, ↓tCm_ii, ↓rdP0, ↓rdP1, ↓rdV0, ↓rdV1, ↓rdA,
      kBl, kTru, rIsN_f, rIsN_t, isNon_non, isNon_int, isNon_str, isNon_tup, isNon_lst, isNon_parts, isNon_amt, rIsiD, kSome, startD, kI2, rInt2,
      List.map_cons, List.map_nil, List.length_cons, List.length_nil, List.cons_append, List.nil_append, List.getElem?_cons_zero, List.getElem?_cons_succ, List.replicate, Nat.reduceSub, Nat.reduceAdd, Nat.reduceLeDiff, Nat.zero_add, Nat.add_zero, Nat.sub_self, Nat.sub_zero, List.set_cons_zero, List.set_cons_succ, List.append_nil, List.drop, List.drop_zero,
      Option.some.injEq, exists_eq_left', exists_eq_left, true_and, and_true, if_true, if_false, Bool.false_eq_true, Bool.not_true, Bool.not_false, ite_true, ite_false, reduceIte, reduceCtorEq, Nat.le_refl, heardK_b, mApp_e]
      first
        | exact gD
        | exact ⟨by decide, gD⟩
    refine dSeq_stepI (sd' := [some (.ptr p), some x, some y, some (.int n), some (.ptr p1), none]) (W' := put (put W p (penM cs k3 g3)) p1 (.lst [.str "top", .str "top", .str "bottom", .str "bottom"])) (fun D' gD => ?_) ?_
    · simp only [↓dSeq_e, ↓dNext_e, ↓dBreak_e, ↓dCont_e, ↓dNever_e, ↓dRet_e, ↓dRetN_e, ↓dDrop_e, ↓dIfS_e, ↓dAsg_e, ↓dPar_e, ↓dPar3_e, ↓gN_e, ↓gTp_e, ↓gNs_e, ↓gN0_e, ↓dVar_e, ↓dC_e, ↓dCB_e, ↓dCons_e, ↓dNil_e, ↓dTup_e, ↓dLst_e, ↓dLstM_e, ↓dOpMul_e, ↓dOpAdd_e, ↓dOpSub_e, ↓dOpFdv_e, ↓dOpMod_e, ↓dOpPow_e, ↓dOpCm_e, ↓dOpEq_e, ↓dOpIn_e, ↓dOpIs_e, ↓dTst_e, ↓dTbl_e, ↓dNot_e, ↓dAnd_e, ↓dOr_e, ↓dAndV_e, ↓dOrV_e, ↓dNotV_e, ↓dIf_e, ↓dCall_e, ↓dSm_e, ↓dCm_e, ↓dFor_e, ↓iSq_e, ↓iRng1_e, ↓dNeg_e, ↓dFld_e, ↓dLc_e, ↓dBM_e, ↓dFmt_e, ↓dSl_e, ↓dPart_e, ↓dNoPart_e, ↓dfl_e0, ↓tMul_ii, ↓tAdd_ii, ↓tSub_ii, ↓tFdiv_ii, ↓tMod_ii, ↓tPow_ii, ↓tCm_ii, ↓rdP0, ↓rdP1, ↓rdV0, ↓rdV1, ↓rdA,
      kBl, kTru, rIsN_f, rIsN_t, isNon_non, isNon_int, isNon_str, isNon_tup, isNon_lst, isNon_parts, isNon_amt, rIsiD, kSome, startD, kI2, rInt2,
      List.map_cons, List.map_nil, List.length_cons, List.length_nil, List.cons_append, List.nil_append, List.getElem?_cons_zero, List.getElem?_cons_succ, List.replicate, Nat.reduceSub, Nat.reduceAdd, Nat.reduceLeDiff, Nat.zero_add, Nat.add_zero, Nat.sub_self, Nat.sub_zero, List.set_cons_zero, List.set_cons_succ, List.append_nil, List.drop, List.drop_zero,
      Option.some.injEq, exists_eq_left', exists_eq_left, true_and, and_true, if_true, if_false, Bool.false_eq_true, Bool.not_true, Bool.not_false, ite_true, ite_false, reduceIte, reduceCtorEq, Nat.le_refl, tyM_p, ↓heard_e, ↓dMk_amt, ↓dMkK_k]
      refine mkA_xb ky iy ?_
      simp only [↓dSeq_e, ↓dNext_e, ↓dBreak_e, ↓dCont_e, ↓dNever_e, ↓dRet_e, ↓dRetN_e, ↓dDrop_e, ↓dIfS_e, ↓dAsg_e, ↓dPar_e, ↓dPar3_e, ↓gN_e, ↓gTp_e, ↓gNs_e, ↓gN0_e, ↓dVar_e, ↓dC_e, ↓dCB_e, ↓dCons_e, ↓dNil_e, ↓dTup_e, ↓dLst_e, ↓dLstM_e, ↓dOpMul_e, ↓dOpAdd_e, ↓dOpSub_e, ↓dOpFdv_e, ↓dOpMod_e, ↓dOpPow_e, ↓dOpCm_e, ↓dOpEq_e, ↓dOpIn_e, ↓dOpIs_e, ↓dTst_e, ↓dTbl_e, ↓dNot_e, ↓dAnd_e, ↓dOr_e, ↓dAndV_e, ↓dOrV_e, ↓dNotV_e, ↓dIf_e, ↓dCall_e, ↓dSm_e, ↓dCm_e, ↓dFor_e, ↓iSq_e, ↓iRng1_e, ↓dNeg_e, ↓dFld_e, ↓dLc_e, ↓dBM_e, ↓dFmt_e, ↓dSl_e, ↓dPart_e, ↓dNoPart_e, ↓dfl_e0, ↓tMul_ii, ↓tAdd_ii, ↓tSub_ii, ↓tFdiv_ii, ↓tMod_ii, ↓tPow_ii, ↓tCm_ii, ↓rdP0, ↓rdP1, ↓rdV0, ↓rdV1, ↓rdA,
      kBl, kTru, rIsN_f, rIsN_t, isNon_non, isNon_int, isNon_str, isNon_tup, isNon_lst, isNon_parts, isNon_amt, rIsiD, kSome, startD, kI2, rInt2,
      List.map_cons, List.map_nil, List.length_cons, List.length_nil, List.cons_append, List.nil_append, List.getElem?_cons_zero, List.getElem?_cons_succ, List.replicate, Nat.reduceSub, Nat.reduceAdd, Nat.reduceLeDiff, Nat.zero_add, Nat.add_zero, Nat.sub_self, Nat.sub_zero, List.set_cons_zero, List.set_cons_succ, List.append_nil, List.drop, List.drop_zero,
      Option.some.injEq, exists_eq_left', exists_eq_left, true_and, and_true, if_true, if_false, Bool.false_eq_true, Bool.not_true, Bool.not_false, ite_true, ite_false, reduceIte, reduceCtorEq, Nat.le_refl, heardK_b, mApp_e]
      first
        | exact gD
        | exact ⟨by decide, gD⟩
    refine dSeq_stepA (fun sd W' => ∃ (z : D) (k4 g4 : Int), (∀ W, knD S W z) ∧ toQ z = none ∧ sd = [some (.ptr p), some x, some y, some (.int n), some (.ptr p1), some z] ∧ W' = put (put W p (penM cs k4 g4)) p1 (.lst [.str "top", .str "top", .str "bottom", .str "bottom"]) ∧ k ≤ k4 ∧ k4 ≤ k + 8) (fun D' hD => ?_) ?_
    · simp only [↓dSeq_e, ↓dNext_e, ↓dBreak_e, ↓dCont_e, ↓dNever_e, ↓dRet_e, ↓dRetN_e, ↓dDrop_e, ↓dIfS_e, ↓dAsg_e, ↓dPar_e, ↓dPar3_e, ↓gN_e, ↓gTp_e, ↓gNs_e, ↓gN0_e, ↓dVar_e, ↓dC_e, ↓dCB_e, ↓dCons_e, ↓dNil_e, ↓dTup_e, ↓dLst_e, ↓dLstM_e, ↓dOpMul_e, ↓dOpAdd_e, ↓dOpSub_e, ↓dOpFdv_e, ↓dOpMod_e, ↓dOpPow_e, ↓dOpCm_e, ↓dOpEq_e, ↓dOpIn_e, ↓dOpIs_e, ↓dTst_e, ↓dTbl_e, ↓dNot_e, ↓dAnd_e, ↓dOr_e, ↓dAndV_e, ↓dOrV_e, ↓dNotV_e, ↓dIf_e, ↓dCall_e, ↓dSm_e, ↓dCm_e, ↓dFor_e, ↓iSq_e, ↓iRng1_e, ↓dNeg_e, ↓dFld_e, ↓dLc_e, ↓dBM_e, ↓dFmt_e, ↓dSl_e, ↓dPart_e, ↓dNoPart_e, ↓dfl_e0, ↓tMul_ii, ↓tAdd_ii, ↓tSub_ii, ↓tFdiv_ii, ↓tMod_ii, ↓tPow_ii, ↓tCm_ii, ↓rdP0, ↓rdP1, ↓rdV0, ↓rdV1, ↓rdA,
      kBl, kTru, rIsN_f, rIsN_t, isNon_non, isNon_int, isNon_str, isNon_tup, isNon_lst, isNon_parts, isNon_amt, rIsiD, kSome, startD, kI2, rInt2,
      List.map_cons, List.map_nil, List.length_cons, List.length_nil, List.cons_append, List.nil_append, List.getElem?_cons_zero, List.getElem?_cons_succ, List.replicate, Nat.reduceSub, Nat.reduceAdd, Nat.reduceLeDiff, Nat.zero_add, Nat.add_zero, Nat.sub_self, Nat.sub_zero, List.set_cons_zero, List.set_cons_succ, List.append_nil, List.drop, List.drop_zero,
      Option.some.injEq, exists_eq_left', exists_eq_left, true_and, and_true, if_true, if_false, Bool.false_eq_true, Bool.not_true, Bool.not_false, ite_true, ite_false, reduceIte, reduceCtorEq, Nat.le_refl, dDct0_e]
      rw [put_sw ne]
      refine pickP hl (by omega) (by omega) (by simp) (by simp) fun z k4 g4 hz q7 q8 => ?_
      have o := odd_of_v (S := S) hz
      exact hD _ _ ⟨z, k4, g4, o.1, o.2, rfl, (put_sw ne).symm, by omega, by omega⟩
    rintro _ _ ⟨z, k4, g4, kz, iz, rfl, rfl, q7, q8⟩
    refine dSeq_stepI (sd' := [some (.ptr p), some x, some y, some (.int n), some (.ptr p1), some z]) (W' := put (put W p (penM cs k4 g4)) p1 (.lst [.str "top", .str "top", .str "bottom", .str "bottom", .str "value"])) (fun D' gD => ?_) ?_
    · simp only [↓dSeq_e, ↓dNext_e, ↓dBreak_e, ↓dCont_e, ↓dNever_e, ↓dRet_e, ↓dRetN_e, ↓dDrop_e, ↓dIfS_e, ↓dAsg_e, ↓dPar_e, ↓dPar3_e, ↓gN_e, ↓gTp_e, ↓gNs_e, ↓gN0_e, ↓dVar_e, ↓dC_e, ↓dCB_e, ↓dCons_e, ↓dNil_e, ↓dTup_e, ↓dLst_e, ↓dLstM_e, ↓dOpMul_e, ↓dOpAdd_e, ↓dOpSub_e, ↓dOpFdv_e, ↓dOpMod_e, ↓dOpPow_e, ↓dOpCm_e, ↓dOpEq_e, ↓dOpIn_e, ↓dOpIs_e, ↓dTst_e, ↓dTbl_e, ↓dNot_e, ↓dAnd_e, ↓dOr_e, ↓dAndV_e, ↓dOrV_e, ↓dNotV_e, ↓dIf_e, ↓dCall_e, ↓dSm_e, ↓dCm_e, ↓dFor_e, ↓iSq_e, ↓iRng1_e, ↓dNeg_e, ↓dFld_e, ↓dLc_e, ↓dBM_e, ↓dFmt_e, ↓dSl_e, ↓dPart_e, ↓dNoPart_e, ↓dfl_e0, ↓tMul_ii, ↓tAdd_ii, ↓tSub_ii, ↓tFdiv_ii, ↓tMod_ii, ↓tPow_ii, ↓tCm_ii, ↓rdP0, ↓rdP1, ↓rdV0, ↓rdV1, ↓rdA,
      kBl, kTru, rIsN_f, rIsN_t, isNon_non, isNon_int, isNon_str, isNon_tup, isNon_lst, isNon_parts, isNon_amt, rIsiD, kSome, startD, kI2, rInt2,
      List.map_cons, List.map_nil, List.length_cons, List.length_nil, List.cons_append, List.nil_append, List.getElem?_cons_zero, List.getElem?_cons_succ, List.replicate, Nat.reduceSub, Nat.reduceAdd, Nat.reduceLeDiff, Nat.zero_add, Nat.add_zero, Nat.sub_self, Nat.sub_zero, List.set_cons_zero, List.set_cons_succ, List.append_nil, List.drop, List.drop_zero,
      Option.some.injEq, exists_eq_left', exists_eq_left, true_and, and_true, if_true, if_false, Bool.false_eq_true, Bool.not_true, Bool.not_false, ite_true, ite_false, reduceIte, reduceCtorEq, Nat.le_refl, tyM_p, ↓heard_e, ↓of_x h0 (kz _) iz]
      simp only [↓dSeq_e, ↓dNext_e, ↓dBreak_e, ↓dCont_e, ↓dNever_e, ↓dRet_e, ↓dRetN_e, ↓dDrop_e, ↓dIfS_e, ↓dAsg_e, ↓dPar_e, ↓dPar3_e, ↓gN_e, ↓gTp_e, ↓gNs_e, ↓gN0_e, ↓dVar_e, ↓dC_e, ↓dCB_e, ↓dCons_e, ↓dNil_e, ↓dTup_e, ↓dLst_e, ↓dLstM_e, ↓dOpMul_e, ↓dOpAdd_e, ↓dOpSub_e, ↓dOpFdv_e, ↓dOpMod_e, ↓dOpPow_e, ↓dOpCm_e, ↓dOpEq_e, ↓dOpIn_e, ↓dOpIs_e, ↓dTst_e, ↓dTbl_e, ↓dNot_e, ↓dAnd_e, ↓dOr_e, ↓dAndV_e, ↓dOrV_e, ↓dNotV_e, ↓dIf_e, ↓dCall_e, ↓dSm_e, ↓dCm_e, ↓dFor_e, ↓iSq_e, ↓iRng1_e, ↓dNeg_e, ↓dFld_e, ↓dLc_e, ↓dBM_e, ↓dFmt_e, ↓dSl_e, ↓dPart_e, ↓dNoPart_e, ↓dfl_e0, ↓tMul_ii, ↓tAdd_ii, ↓tSub_ii, ↓tFdiv_ii, ↓tMod_ii, ↓tPow_ii, ↓tCm_ii, ↓rdP0, ↓rdP1, ↓rdV0, ↓rdV1, ↓rdA,
      kBl, kTru, rIsN_f, rIsN_t, isNon_non, isNon_int, isNon_str, isNon_tup, isNon_lst, isNon_parts, isNon_amt, rIsiD, kSome, startD, kI2, rInt2,
      List.map_cons, List.map_nil, List.length_cons, List.length_nil, List.cons_append, List.nil_append, List.getElem?_cons_zero, List.getElem?_cons_succ, List.replicate, Nat.reduceSub, Nat.reduceAdd, Nat.reduceLeDiff, Nat.zero_add, Nat.add_zero, Nat.sub_self, Nat.sub_zero, List.set_cons_zero, List.set_cons_succ, List.append_nil, List.drop, List.drop_zero,
      Option.some.injEq, exists_eq_left', exists_eq_left, true_and, and_true, if_true, if_false, Bool.false_eq_true, Bool.not_true, Bool.not_false, ite_true, ite_false, reduceIte, reduceCtorEq, Nat.le_refl, heardK_b, mApp_e]
      first
        | exact gD
        | exact ⟨by decide, gD⟩
    refine dSeq_stepI (sd' := [some (.ptr p), some x, some y, some (.int n), some (.ptr p1), some z]) (W' := put (put W p (penM cs k4 g4)) p1 (.lst [.str "top", .str "top", .str "bottom", .str "bottom", .str "value", .non])) (fun D' gD => ?_) ?_
    · simp only [↓dSeq_e, ↓dNext_e, ↓dBreak_e, ↓dCont_e, ↓dNever_e, ↓dRet_e, ↓dRetN_e, ↓dDrop_e, ↓dIfS_e, ↓dAsg_e, ↓dPar_e, ↓dPar3_e, ↓gN_e, ↓gTp_e, ↓gNs_e, ↓gN0_e, ↓dVar_e, ↓dC_e, ↓dCB_e, ↓dCons_e, ↓dNil_e, ↓dTup_e, ↓dLst_e, ↓dLstM_e, ↓dOpMul_e, ↓dOpAdd_e, ↓dOpSub_e, ↓dOpFdv_e, ↓dOpMod_e, ↓dOpPow_e, ↓dOpCm_e, ↓dOpEq_e, ↓dOpIn_e, ↓dOpIs_e, ↓dTst_e, ↓dTbl_e, ↓dNot_e, ↓dAnd_e, ↓dOr_e, ↓dAndV_e, ↓dOrV_e, ↓dNotV_e, ↓dIf_e, ↓dCall_e, ↓dSm_e, ↓dCm_e, ↓dFor_e, ↓iSq_e, ↓iRng1_e, ↓dNeg_e, ↓dFld_e, ↓dLc_e, ↓dBM_e, ↓dFmt_e, ↓dSl_e, ↓dPart_e, ↓dNoPart_e, ↓dfl_e0, ↓tMul_ii, ↓tAdd_ii, ↓tSub_ii, ↓tFdiv_ii, ↓tMod_ii, ↓tPow_ii, ↓tCm_ii, ↓rdP0, ↓rdP1, ↓rdV0, ↓rdV1, ↓rdA,
      kBl, kTru, rIsN_f, rIsN_t, isNon_non, isNon_int, isNon_str, isNon_tup, isNon_lst, isNon_parts, isNon_amt, rIsiD, kSome, startD, kI2, rInt2,
      List.map_cons, List.map_nil, List.length_cons, List.length_nil, List.cons_append, List.nil_append, List.getElem?_cons_zero, List.getElem?_cons_succ, List.replicate, Nat.reduceSub, Nat.reduceAdd, Nat.reduceLeDiff, Nat.zero_add, Nat.add_zero, Nat.sub_self, Nat.sub_zero, List.set_cons_zero, List.set_cons_succ, List.append_nil, List.drop, List.drop_zero,
      Option.some.injEq, exists_eq_left', exists_eq_left, true_and, and_true, if_true, if_false, Bool.false_eq_true, Bool.not_true, Bool.not_false, ite_true, ite_false, reduceIte, reduceCtorEq, Nat.le_refl, tyM_p, ↓heard_e, ↓dMk_amt]
      refine mkA_1 ?_
      simp only [↓dSeq_e, ↓dNext_e, ↓dBreak_e, ↓dCont_e, ↓dNever_e, ↓dRet_e, ↓dRetN_e, ↓dDrop_e, ↓dIfS_e, ↓dAsg_e, ↓dPar_e, ↓dPar3_e, ↓gN_e, ↓gTp_e, ↓gNs_e, ↓gN0_e, ↓dVar_e, ↓dC_e, ↓dCB_e, ↓dCons_e, ↓dNil_e, ↓dTup_e, ↓dLst_e, ↓dLstM_e, ↓dOpMul_e, ↓dOpAdd_e, ↓dOpSub_e, ↓dOpFdv_e, ↓dOpMod_e, ↓dOpPow_e, ↓dOpCm_e, ↓dOpEq_e, ↓dOpIn_e, ↓dOpIs_e, ↓dTst_e, ↓dTbl_e, ↓dNot_e, ↓dAnd_e, ↓dOr_e, ↓dAndV_e, ↓dOrV_e, ↓dNotV_e, ↓dIf_e, ↓dCall_e, ↓dSm_e, ↓dCm_e, ↓dFor_e, ↓iSq_e, ↓iRng1_e, ↓dNeg_e, ↓dFld_e, ↓dLc_e, ↓dBM_e, ↓dFmt_e, ↓dSl_e, ↓dPart_e, ↓dNoPart_e, ↓dfl_e0, ↓tMul_ii, ↓tAdd_ii, ↓tSub_ii, ↓tFdiv_ii, ↓tMod_ii, ↓tPow_ii, ↓tCm_ii, ↓rdP0, ↓rdP1, ↓rdV0, ↓rdV1, ↓rdA,
      kBl, kTru, rIsN_f, rIsN_t, isNon_non, isNon_int, isNon_str, isNon_tup, isNon_lst, isNon_parts, isNon_amt, rIsiD, kSome, startD, kI2, rInt2,
      List.map_cons, List.map_nil, List.length_cons, List.length_nil, List.cons_append, List.nil_append, List.getElem?_cons_zero, List.getElem?_cons_succ, List.replicate, Nat.reduceSub, Nat.reduceAdd, Nat.reduceLeDiff, Nat.zero_add, Nat.add_zero, Nat.sub_self, Nat.sub_zero, List.set_cons_zero, List.set_cons_succ, List.append_nil, List.drop, List.drop_zero,
      Option.some.injEq, exists_eq_left', exists_eq_left, true_and, and_true, if_true, if_false, Bool.false_eq_true, Bool.not_true, Bool.not_false, ite_true, ite_false, reduceIte, reduceCtorEq, Nat.le_refl, mApp_e]
      first
        | exact gD
        | exact ⟨by decide, gD⟩
    have hp4 : put W p (penM cs k4 g4) p1 = none := by
      rw [put_ne (Ne.symm ne)] at hp1 ⊢
      exact hp1
    have fin := hh k4 g4 (by omega) (by omega)
    rw [put_put] at fin
    simp only [↓dSeq_e, ↓dNext_e, ↓dBreak_e, ↓dCont_e, ↓dNever_e, ↓dRet_e, ↓dRetN_e, ↓dDrop_e, ↓dIfS_e, ↓dAsg_e, ↓dPar_e, ↓dPar3_e, ↓gN_e, ↓gTp_e, ↓gNs_e, ↓gN0_e, ↓dVar_e, ↓dC_e, ↓dCB_e, ↓dCons_e, ↓dNil_e, ↓dTup_e, ↓dLst_e, ↓dLstM_e, ↓dOpMul_e, ↓dOpAdd_e, ↓dOpSub_e, ↓dOpFdv_e, ↓dOpMod_e, ↓dOpPow_e, ↓dOpCm_e, ↓dOpEq_e, ↓dOpIn_e, ↓dOpIs_e, ↓dTst_e, ↓dTbl_e, ↓dNot_e, ↓dAnd_e, ↓dOr_e, ↓dAndV_e, ↓dOrV_e, ↓dNotV_e, ↓dIf_e, ↓dCall_e, ↓dSm_e, ↓dCm_e, ↓dFor_e, ↓iSq_e, ↓iRng1_e, ↓dNeg_e, ↓dFld_e, ↓dLc_e, ↓dBM_e, ↓dFmt_e, ↓dSl_e, ↓dPart_e, ↓dNoPart_e, ↓dfl_e0, ↓tMul_ii, ↓tAdd_ii, ↓tSub_ii, ↓tFdiv_ii, ↓tMod_ii, ↓tPow_ii, ↓tCm_ii, ↓rdP0, ↓rdP1, ↓rdV0, ↓rdV1, ↓rdA,
      kBl, kTru, rIsN_f, rIsN_t, isNon_non, isNon_int, isNon_str, isNon_tup, isNon_lst, isNon_parts, isNon_amt, rIsiD, kSome, startD, kI2, rInt2,
      List.map_cons, List.map_nil, List.length_cons, List.length_nil, List.cons_append, List.nil_append, List.getElem?_cons_zero, List.getElem?_cons_succ, List.replicate, Nat.reduceSub, Nat.reduceAdd, Nat.reduceLeDiff, Nat.zero_add, Nat.add_zero, Nat.sub_self, Nat.sub_zero, List.set_cons_zero, List.set_cons_succ, List.append_nil, List.drop, List.drop_zero,
      Option.some.injEq, exists_eq_left', exists_eq_left, true_and, and_true, if_true, if_false, Bool.false_eq_true, Bool.not_true, Bool.not_false, ite_true, ite_false, reduceIte, reduceCtorEq, Nat.le_refl, ↓dOp_e, ↓dFrz_e, put_same, M.d, cut_put hp4, rEqQ, eqM6, dpM6]
    exact fin
end Mv
end
section
set_option Elab.async false
set_option linter.all false
set_option maxRecDepth 100000
set_option maxHeartbeats 4000000
namespace Mv
open PySem PySem.Spec L2 SX
theorem rightP {S : Sy} {W : Wd} {p : Addr} {cs : List Int} {k g : Int} {Q E : QD} (hc : 0 ∈ S.cl) (hl : cs.length ≤ 63) (h0 : 0 ≤ k) (hk : k + 20 ≤ 100000) (q : ∀ k' g', k ≤ k' → k' ≤ k + 20 → Q (.bl true) (put W p (penM cs k' g'))) : sp__law_right S [.ptr p] (put W p (penM cs k g)) Q E :=
  ⟨hc, cs, k, g, ⟨put_same, hl, h0, by omega⟩, hk, fun k' g' h4 h5 => by
    rw [put_put]
    exact q k' g' h4 h5⟩
theorem refusedP {S : Sy} {W : Wd} {p : Addr} {cs : List Int} {k g : Int} {Q E : QD} (hc : 0 ∈ S.cl) (hl : cs.length ≤ 63) (h0 : 0 ≤ k) (hk : k + 20 ≤ 100000) (q : ∀ k' g', k ≤ k' → k' ≤ k + 20 → Q (.bl true) (put W p (penM cs k' g'))) : sp__law_refused_right S [.ptr p] (put W p (penM cs k g)) Q E :=
  ⟨hc, cs, k, g, ⟨put_same, hl, h0, by omega⟩, hk, fun k' g' h4 h5 => by
    rw [put_put]
    exact q k' g' h4 h5⟩
theorem szs_0 : SZs (0 : Rat) := by
  unfold SZs
  decide +kernel
theorem eqE4 {q : EqI} {i : Int} {s : Str} {x y : Bool} : eqD q (.lst [.int i, .str s, .bl x, .bl y]) (.lst [.int i, .str s, .bl x, .bl y]) = some true := by
  have fi : ∀ i : Int, flatO (.int i) (.int i) = some true := fun i => by
    show some (i == i) = _
    rw [beq_self_eq_true]
  have fb : ∀ i : Bool, flatO (.bl i) (.bl i) = some true := fun i => by
    cases i <;> rfl
  simp only [eqD, List.length_cons, List.length_nil, if_true, eqDs, flatS, fi, fb]
theorem dpE4 {i : Int} {s : Str} {x y : Bool} : ((D.lst [.int i, .str s, .bl x, .bl y]).dp ≤ 6) = True := propext ⟨fun _ => trivial, fun _ => by
  simp only [D.dp, dps]
  decide⟩
theorem pf_law (S : Sy) : ∀ ds W Q2 E2, sp_law S ds W Q2 E2 → t_law S { nx := fun _ W => Q2 .non W, rt := Q2 } (startD ["_law_script", "_law_pen_here", "_law_turn"] ds) W (fun x _ W => E2 x W) := by
  intro ds W Q E h
  obtain ⟨h0, ns, rfl, hns, q⟩ := h
  unfold t_law
  refine dSeq_stepA (fun sd W' => ∃ p cs, sd = [some (.frl (ns.map D.int)), some (.ptr p), none] ∧ W' = put W p (penM cs 0 0) ∧ cs.length ≤ 63) (fun D' hD => ?_) ?_
  · simp only [↓dSeq_e, ↓dNext_e, ↓dBreak_e, ↓dCont_e, ↓dNever_e, ↓dRet_e, ↓dRetN_e, ↓dDrop_e, ↓dIfS_e, ↓dAsg_e, ↓dPar_e, ↓dPar3_e, ↓gN_e, ↓gTp_e, ↓gNs_e, ↓gN0_e, ↓dVar_e, ↓dC_e, ↓dCB_e, ↓dCons_e, ↓dNil_e, ↓dTup_e, ↓dLst_e, ↓dLstM_e, ↓dOpMul_e, ↓dOpAdd_e, ↓dOpSub_e, ↓dOpFdv_e, ↓dOpMod_e, ↓dOpPow_e, ↓dOpCm_e, ↓dOpEq_e, ↓dOpIn_e, ↓dOpIs_e, ↓dTst_e, ↓dTbl_e, ↓dNot_e, ↓dAnd_e, ↓dOr_e, ↓dAndV_e, ↓dOrV_e, ↓dNotV_e, ↓dIf_e, ↓dCall_e, ↓dSm_e, ↓dCm_e, ↓dFor_e, ↓iSq_e, ↓iRng1_e, ↓dNeg_e, ↓dFld_e, ↓dLc_e, ↓dBM_e, ↓dFmt_e, ↓dSl_e, ↓dPart_e, ↓dNoPart_e, ↓dfl_e0, ↓tMul_ii, ↓tAdd_ii, ↓tSub_ii, ↓tFdiv_ii, ↓tMod_ii, ↓tPow_ii, ↓tCm_ii, ↓rdP0, ↓rdP1, ↓rdV0, ↓rdV1, ↓rdA,
      kBl, kTru, rIsN_f, rIsN_t, isNon_non, isNon_int, isNon_str, isNon_tup, isNon_lst, isNon_parts, isNon_amt, rIsiD, kSome, startD, kI2, rInt2,
      List.map_cons, List.map_nil, List.length_cons, List.length_nil, List.cons_append, List.nil_append, List.getElem?_cons_zero, List.getElem?_cons_succ, List.replicate, Nat.reduceSub, Nat.reduceAdd, Nat.reduceLeDiff, Nat.zero_add, Nat.add_zero, Nat.sub_self, Nat.sub_zero, List.set_cons_zero, List.set_cons_succ, List.append_nil, List.drop, List.drop_zero,
      Option.some.injEq, exists_eq_left', exists_eq_left, true_and, and_true, if_true, if_false, Bool.false_eq_true, Bool.not_true, Bool.not_false, ite_true, ite_false, reduceIte, reduceCtorEq, Nat.le_refl, startD]
    exact ⟨ns, rfl, fun p cs hp hl => hD _ _ ⟨p, cs, rfl, rfl, hl⟩⟩
  rintro _ _ ⟨p, cs, rfl, rfl, hl⟩
  refine dSeq_stepA (fun sd W' => ∃ v2, sd = [some (.frl (ns.map D.int)), some (.ptr p), v2]) (fun D' hD => ?_) ?_
  rotate_left
  · rintro _ W' ⟨v2, rfl⟩
    have e1 : Rat.divInt 0 (-5) = 0 := by decide +kernel
    have e2 : Rat.divInt 0 9 = 0 := by decide +kernel
    have e3 : ((0 : Int) : Rat) = 0 := rfl
    have e4 : qStr 0 = "0" := by decide +kernel
    have e5 : (Rat.den 0 : Int) = 1 := rfl
    simp only [↓dSeq_e, ↓dNext_e, ↓dBreak_e, ↓dCont_e, ↓dNever_e, ↓dRet_e, ↓dRetN_e, ↓dDrop_e, ↓dIfS_e, ↓dAsg_e, ↓dPar_e, ↓dPar3_e, ↓gN_e, ↓gTp_e, ↓gNs_e, ↓gN0_e, ↓dVar_e, ↓dC_e, ↓dCB_e, ↓dCons_e, ↓dNil_e, ↓dTup_e, ↓dLst_e, ↓dLstM_e, ↓dOpMul_e, ↓dOpAdd_e, ↓dOpSub_e, ↓dOpFdv_e, ↓dOpMod_e, ↓dOpPow_e, ↓dOpCm_e, ↓dOpEq_e, ↓dOpIn_e, ↓dOpIs_e, ↓dTst_e, ↓dTbl_e, ↓dNot_e, ↓dAnd_e, ↓dOr_e, ↓dAndV_e, ↓dOrV_e, ↓dNotV_e, ↓dIf_e, ↓dCall_e, ↓dSm_e, ↓dCm_e, ↓dFor_e, ↓iSq_e, ↓iRng1_e, ↓dNeg_e, ↓dFld_e, ↓dLc_e, ↓dBM_e, ↓dFmt_e, ↓dSl_e, ↓dPart_e, ↓dNoPart_e, ↓dfl_e0, ↓tMul_ii, ↓tAdd_ii, ↓tSub_ii, ↓tFdiv_ii, ↓tMod_ii, ↓tPow_ii, ↓tCm_ii, ↓rdP0, ↓rdP1, ↓rdV0, ↓rdV1, ↓rdA,
      kBl, kTru, rIsN_f, rIsN_t, isNon_non, isNon_int, isNon_str, isNon_tup, isNon_lst, isNon_parts, isNon_amt, rIsiD, kSome, startD, kI2, rInt2,
      List.map_cons, List.map_nil, List.length_cons, List.length_nil, List.cons_append, List.nil_append, List.getElem?_cons_zero, List.getElem?_cons_succ, List.replicate, Nat.reduceSub, Nat.reduceAdd, Nat.reduceLeDiff, Nat.zero_add, Nat.add_zero, Nat.sub_self, Nat.sub_zero, List.set_cons_zero, List.set_cons_succ, List.append_nil, List.drop, List.drop_zero,
      Option.some.injEq, exists_eq_left', exists_eq_left, true_and, and_true, if_true, if_false, Bool.false_eq_true, Bool.not_true, Bool.not_false, ite_true, ite_false, reduceIte, reduceCtorEq, Nat.le_refl, ↓dOp_e, ↓dBot_k, ↓dNegO_k, negK_i, ↓dMk_amt]
    refine mkA_2 (by decide) (bg_small (by decide)) ?_
    simp only [↓dSeq_e, ↓dNext_e, ↓dBreak_e, ↓dCont_e, ↓dNever_e, ↓dRet_e, ↓dRetN_e, ↓dDrop_e, ↓dIfS_e, ↓dAsg_e, ↓dPar_e, ↓dPar3_e, ↓gN_e, ↓gTp_e, ↓gNs_e, ↓gN0_e, ↓dVar_e, ↓dC_e, ↓dCB_e, ↓dCons_e, ↓dNil_e, ↓dTup_e, ↓dLst_e, ↓dLstM_e, ↓dOpMul_e, ↓dOpAdd_e, ↓dOpSub_e, ↓dOpFdv_e, ↓dOpMod_e, ↓dOpPow_e, ↓dOpCm_e, ↓dOpEq_e, ↓dOpIn_e, ↓dOpIs_e, ↓dTst_e, ↓dTbl_e, ↓dNot_e, ↓dAnd_e, ↓dOr_e, ↓dAndV_e, ↓dOrV_e, ↓dNotV_e, ↓dIf_e, ↓dCall_e, ↓dSm_e, ↓dCm_e, ↓dFor_e, ↓iSq_e, ↓iRng1_e, ↓dNeg_e, ↓dFld_e, ↓dLc_e, ↓dBM_e, ↓dFmt_e, ↓dSl_e, ↓dPart_e, ↓dNoPart_e, ↓dfl_e0, ↓tMul_ii, ↓tAdd_ii, ↓tSub_ii, ↓tFdiv_ii, ↓tMod_ii, ↓tPow_ii, ↓tCm_ii, ↓rdP0, ↓rdP1, ↓rdV0, ↓rdV1, ↓rdA,
      kBl, kTru, rIsN_f, rIsN_t, isNon_non, isNon_int, isNon_str, isNon_tup, isNon_lst, isNon_parts, isNon_amt, rIsiD, kSome, startD, kI2, rInt2,
      List.map_cons, List.map_nil, List.length_cons, List.length_nil, List.cons_append, List.nil_append, List.getElem?_cons_zero, List.getElem?_cons_succ, List.replicate, Nat.reduceSub, Nat.reduceAdd, Nat.reduceLeDiff, Nat.zero_add, Nat.add_zero, Nat.sub_self, Nat.sub_zero, List.set_cons_zero, List.set_cons_succ, List.append_nil, List.drop, List.drop_zero,
      Option.some.injEq, exists_eq_left', exists_eq_left, true_and, and_true, if_true, if_false, Bool.false_eq_true, Bool.not_true, Bool.not_false, ite_true, ite_false, reduceIte, reduceCtorEq, Nat.le_refl, e1, ↓dBot_k, botK_q, e5, ↓dStr_k, ↓dNegO_k, negK_i, ↓dMk_amt]
    refine mkA_2 (by decide) (bg_small (by decide)) ?_
    simp only [↓dSeq_e, ↓dNext_e, ↓dBreak_e, ↓dCont_e, ↓dNever_e, ↓dRet_e, ↓dRetN_e, ↓dDrop_e, ↓dIfS_e, ↓dAsg_e, ↓dPar_e, ↓dPar3_e, ↓gN_e, ↓gTp_e, ↓gNs_e, ↓gN0_e, ↓dVar_e, ↓dC_e, ↓dCB_e, ↓dCons_e, ↓dNil_e, ↓dTup_e, ↓dLst_e, ↓dLstM_e, ↓dOpMul_e, ↓dOpAdd_e, ↓dOpSub_e, ↓dOpFdv_e, ↓dOpMod_e, ↓dOpPow_e, ↓dOpCm_e, ↓dOpEq_e, ↓dOpIn_e, ↓dOpIs_e, ↓dTst_e, ↓dTbl_e, ↓dNot_e, ↓dAnd_e, ↓dOr_e, ↓dAndV_e, ↓dOrV_e, ↓dNotV_e, ↓dIf_e, ↓dCall_e, ↓dSm_e, ↓dCm_e, ↓dFor_e, ↓iSq_e, ↓iRng1_e, ↓dNeg_e, ↓dFld_e, ↓dLc_e, ↓dBM_e, ↓dFmt_e, ↓dSl_e, ↓dPart_e, ↓dNoPart_e, ↓dfl_e0, ↓tMul_ii, ↓tAdd_ii, ↓tSub_ii, ↓tFdiv_ii, ↓tMod_ii, ↓tPow_ii, ↓tCm_ii, ↓rdP0, ↓rdP1, ↓rdV0, ↓rdV1, ↓rdA,
      kBl, kTru, rIsN_f, rIsN_t, isNon_non, isNon_int, isNon_str, isNon_tup, isNon_lst, isNon_parts, isNon_amt, rIsiD, kSome, startD, kI2, rInt2,
      List.map_cons, List.map_nil, List.length_cons, List.length_nil, List.cons_append, List.nil_append, List.getElem?_cons_zero, List.getElem?_cons_succ, List.replicate, Nat.reduceSub, Nat.reduceAdd, Nat.reduceLeDiff, Nat.zero_add, Nat.add_zero, Nat.sub_self, Nat.sub_zero, List.set_cons_zero, List.set_cons_succ, List.append_nil, List.drop, List.drop_zero,
      Option.some.injEq, exists_eq_left', exists_eq_left, true_and, and_true, if_true, if_false, Bool.false_eq_true, Bool.not_true, Bool.not_false, ite_true, ite_false, reduceIte, reduceCtorEq, Nat.le_refl, e1, strK_q szs_0, e4, ↓dOp_e, ↓dMk_amt]
    refine mkA_2 (by decide) (bg_small (by decide)) ?_
    simp only [↓dSeq_e, ↓dNext_e, ↓dBreak_e, ↓dCont_e, ↓dNever_e, ↓dRet_e, ↓dRetN_e, ↓dDrop_e, ↓dIfS_e, ↓dAsg_e, ↓dPar_e, ↓dPar3_e, ↓gN_e, ↓gTp_e, ↓gNs_e, ↓gN0_e, ↓dVar_e, ↓dC_e, ↓dCB_e, ↓dCons_e, ↓dNil_e, ↓dTup_e, ↓dLst_e, ↓dLstM_e, ↓dOpMul_e, ↓dOpAdd_e, ↓dOpSub_e, ↓dOpFdv_e, ↓dOpMod_e, ↓dOpPow_e, ↓dOpCm_e, ↓dOpEq_e, ↓dOpIn_e, ↓dOpIs_e, ↓dTst_e, ↓dTbl_e, ↓dNot_e, ↓dAnd_e, ↓dOr_e, ↓dAndV_e, ↓dOrV_e, ↓dNotV_e, ↓dIf_e, ↓dCall_e, ↓dSm_e, ↓dCm_e, ↓dFor_e, ↓iSq_e, ↓iRng1_e, ↓dNeg_e, ↓dFld_e, ↓dLc_e, ↓dBM_e, ↓dFmt_e, ↓dSl_e, ↓dPart_e, ↓dNoPart_e, ↓dfl_e0, ↓tMul_ii, ↓tAdd_ii, ↓tSub_ii, ↓tFdiv_ii, ↓tMod_ii, ↓tPow_ii, ↓tCm_ii, ↓rdP0, ↓rdP1, ↓rdV0, ↓rdV1, ↓rdA,
      kBl, kTru, rIsN_f, rIsN_t, isNon_non, isNon_int, isNon_str, isNon_tup, isNon_lst, isNon_parts, isNon_amt, rIsiD, kSome, startD, kI2, rInt2,
      List.map_cons, List.map_nil, List.length_cons, List.length_nil, List.cons_append, List.nil_append, List.getElem?_cons_zero, List.getElem?_cons_succ, List.replicate, Nat.reduceSub, Nat.reduceAdd, Nat.reduceLeDiff, Nat.zero_add, Nat.add_zero, Nat.sub_self, Nat.sub_zero, List.set_cons_zero, List.set_cons_succ, List.append_nil, List.drop, List.drop_zero,
      Option.some.injEq, exists_eq_left', exists_eq_left, true_and, and_true, if_true, if_false, Bool.false_eq_true, Bool.not_true, Bool.not_false, ite_true, ite_false, reduceIte, reduceCtorEq, Nat.le_refl, e2, rEqQ, eqD_amt_int h0, dpA, e3, decide_true, ↓dBool_k, ↓dMk_amt]
    refine mkA_1 ?_
    simp only [↓dSeq_e, ↓dNext_e, ↓dBreak_e, ↓dCont_e, ↓dNever_e, ↓dRet_e, ↓dRetN_e, ↓dDrop_e, ↓dIfS_e, ↓dAsg_e, ↓dPar_e, ↓dPar3_e, ↓gN_e, ↓gTp_e, ↓gNs_e, ↓gN0_e, ↓dVar_e, ↓dC_e, ↓dCB_e, ↓dCons_e, ↓dNil_e, ↓dTup_e, ↓dLst_e, ↓dLstM_e, ↓dOpMul_e, ↓dOpAdd_e, ↓dOpSub_e, ↓dOpFdv_e, ↓dOpMod_e, ↓dOpPow_e, ↓dOpCm_e, ↓dOpEq_e, ↓dOpIn_e, ↓dOpIs_e, ↓dTst_e, ↓dTbl_e, ↓dNot_e, ↓dAnd_e, ↓dOr_e, ↓dAndV_e, ↓dOrV_e, ↓dNotV_e, ↓dIf_e, ↓dCall_e, ↓dSm_e, ↓dCm_e, ↓dFor_e, ↓iSq_e, ↓iRng1_e, ↓dNeg_e, ↓dFld_e, ↓dLc_e, ↓dBM_e, ↓dFmt_e, ↓dSl_e, ↓dPart_e, ↓dNoPart_e, ↓dfl_e0, ↓tMul_ii, ↓tAdd_ii, ↓tSub_ii, ↓tFdiv_ii, ↓tMod_ii, ↓tPow_ii, ↓tCm_ii, ↓rdP0, ↓rdP1, ↓rdV0, ↓rdV1, ↓rdA,
      kBl, kTru, rIsN_f, rIsN_t, isNon_non, isNon_int, isNon_str, isNon_tup, isNon_lst, isNon_parts, isNon_amt, rIsiD, kSome, startD, kI2, rInt2,
      List.map_cons, List.map_nil, List.length_cons, List.length_nil, List.cons_append, List.nil_append, List.getElem?_cons_zero, List.getElem?_cons_succ, List.replicate, Nat.reduceSub, Nat.reduceAdd, Nat.reduceLeDiff, Nat.zero_add, Nat.add_zero, Nat.sub_self, Nat.sub_zero, List.set_cons_zero, List.set_cons_succ, List.append_nil, List.drop, List.drop_zero,
      Option.some.injEq, exists_eq_left', exists_eq_left, true_and, and_true, if_true, if_false, Bool.false_eq_true, Bool.not_true, Bool.not_false, ite_true, ite_false, reduceIte, reduceCtorEq, Nat.le_refl, e3, boolK_q, rEqQ, ne_eq, not_true_eq_false, decide_false, eqE4, dpE4]
    exact q W'
  simp only [↓dFor_e, ↓iRng1_e, ↓dCons_e, ↓dC_e, ↓dNil_e]
  refine ⟨by decide, by decide, ?_⟩
  refine loopD_ind (fun n sd W' => ∃ k g v2, sd = [some (.frl (ns.map D.int)), some (.ptr p), v2] ∧ W' = put W p (penM cs k g) ∧ 0 ≤ k ∧ k + 40 * n ≤ 100000) (fun sd W' ⟨_, _, v2, e, _⟩ => ⟨trivial, hD _ _ ⟨v2, e⟩⟩) ?_ _ _ _ ⟨0, 0, none, rfl, rfl, by decide, by decide⟩
  rintro n i _ _ ⟨k, g, v2, rfl, rfl, hk0, hk⟩
  refine ⟨trivial, fun K hK => ?_⟩
  simp only [↓dSeq_e, ↓dNext_e, ↓dBreak_e, ↓dCont_e, ↓dNever_e, ↓dRet_e, ↓dRetN_e, ↓dDrop_e, ↓dIfS_e, ↓dAsg_e, ↓dPar_e, ↓dPar3_e, ↓gN_e, ↓gTp_e, ↓gNs_e, ↓gN0_e, ↓dVar_e, ↓dC_e, ↓dCB_e, ↓dCons_e, ↓dNil_e, ↓dTup_e, ↓dLst_e, ↓dLstM_e, ↓dOpMul_e, ↓dOpAdd_e, ↓dOpSub_e, ↓dOpFdv_e, ↓dOpMod_e, ↓dOpPow_e, ↓dOpCm_e, ↓dOpEq_e, ↓dOpIn_e, ↓dOpIs_e, ↓dTst_e, ↓dTbl_e, ↓dNot_e, ↓dAnd_e, ↓dOr_e, ↓dAndV_e, ↓dOrV_e, ↓dNotV_e, ↓dIf_e, ↓dCall_e, ↓dSm_e, ↓dCm_e, ↓dFor_e, ↓iSq_e, ↓iRng1_e, ↓dNeg_e, ↓dFld_e, ↓dLc_e, ↓dBM_e, ↓dFmt_e, ↓dSl_e, ↓dPart_e, ↓dNoPart_e, ↓dfl_e0, ↓tMul_ii, ↓tAdd_ii, ↓tSub_ii, ↓tFdiv_ii, ↓tMod_ii, ↓tPow_ii, ↓tCm_ii, ↓rdP0, ↓rdP1, ↓rdV0, ↓rdV1, ↓rdA,
      kBl, kTru, rIsN_f, rIsN_t, isNon_non, isNon_int, isNon_str, isNon_tup, isNon_lst, isNon_parts, isNon_amt, rIsiD, kSome, startD, kI2, rInt2,
      List.map_cons, List.map_nil, List.length_cons, List.length_nil, List.cons_append, List.nil_append, List.getElem?_cons_zero, List.getElem?_cons_succ, List.replicate, Nat.reduceSub, Nat.reduceAdd, Nat.reduceLeDiff, Nat.zero_add, Nat.add_zero, Nat.sub_self, Nat.sub_zero, List.set_cons_zero, List.set_cons_succ, List.append_nil, List.drop, List.drop_zero,
      Option.some.injEq, exists_eq_left', exists_eq_left, true_and, and_true, if_true, if_false, Bool.false_eq_true, Bool.not_true, Bool.not_false, ite_true, ite_false, reduceIte, reduceCtorEq, Nat.le_refl, ]
  refine rightP h0 hl hk0 (by omega) fun k1 g1 q1 q2 => ?_
  simp only [↓dSeq_e, ↓dNext_e, ↓dBreak_e, ↓dCont_e, ↓dNever_e, ↓dRet_e, ↓dRetN_e, ↓dDrop_e, ↓dIfS_e, ↓dAsg_e, ↓dPar_e, ↓dPar3_e, ↓gN_e, ↓gTp_e, ↓gNs_e, ↓gN0_e, ↓dVar_e, ↓dC_e, ↓dCB_e, ↓dCons_e, ↓dNil_e, ↓dTup_e, ↓dLst_e, ↓dLstM_e, ↓dOpMul_e, ↓dOpAdd_e, ↓dOpSub_e, ↓dOpFdv_e, ↓dOpMod_e, ↓dOpPow_e, ↓dOpCm_e, ↓dOpEq_e, ↓dOpIn_e, ↓dOpIs_e, ↓dTst_e, ↓dTbl_e, ↓dNot_e, ↓dAnd_e, ↓dOr_e, ↓dAndV_e, ↓dOrV_e, ↓dNotV_e, ↓dIf_e, ↓dCall_e, ↓dSm_e, ↓dCm_e, ↓dFor_e, ↓iSq_e, ↓iRng1_e, ↓dNeg_e, ↓dFld_e, ↓dLc_e, ↓dBM_e, ↓dFmt_e, ↓dSl_e, ↓dPart_e, ↓dNoPart_e, ↓dfl_e0, ↓tMul_ii, ↓tAdd_ii, ↓tSub_ii, ↓tFdiv_ii, ↓tMod_ii, ↓tPow_ii, ↓tCm_ii, ↓rdP0, ↓rdP1, ↓rdV0, ↓rdV1, ↓rdA,
      kBl, kTru, rIsN_f, rIsN_t, isNon_non, isNon_int, isNon_str, isNon_tup, isNon_lst, isNon_parts, isNon_amt, rIsiD, kSome, startD, kI2, rInt2,
      List.map_cons, List.map_nil, List.length_cons, List.length_nil, List.cons_append, List.nil_append, List.getElem?_cons_zero, List.getElem?_cons_succ, List.replicate, Nat.reduceSub, Nat.reduceAdd, Nat.reduceLeDiff, Nat.zero_add, Nat.add_zero, Nat.sub_self, Nat.sub_zero, List.set_cons_zero, List.set_cons_succ, List.append_nil, List.drop, List.drop_zero,
      Option.some.injEq, exists_eq_left', exists_eq_left, true_and, and_true, if_true, if_false, Bool.false_eq_true, Bool.not_true, Bool.not_false, ite_true, ite_false, reduceIte, reduceCtorEq, Nat.le_refl, ]
  refine refusedP h0 hl (by omega) (by omega) fun k2 g2 q3 q4 => ?_
  try simp only [↓dSeq_e, ↓dNext_e, ↓dBreak_e, ↓dCont_e, ↓dNever_e, ↓dRet_e, ↓dRetN_e, ↓dDrop_e, ↓dIfS_e, ↓dAsg_e, ↓dPar_e, ↓dPar3_e, ↓gN_e, ↓gTp_e, ↓gNs_e, ↓gN0_e, ↓dVar_e, ↓dC_e, ↓dCB_e, ↓dCons_e, ↓dNil_e, ↓dTup_e, ↓dLst_e, ↓dLstM_e, ↓dOpMul_e, ↓dOpAdd_e, ↓dOpSub_e, ↓dOpFdv_e, ↓dOpMod_e, ↓dOpPow_e, ↓dOpCm_e, ↓dOpEq_e, ↓dOpIn_e, ↓dOpIs_e, ↓dTst_e, ↓dTbl_e, ↓dNot_e, ↓dAnd_e, ↓dOr_e, ↓dAndV_e, ↓dOrV_e, ↓dNotV_e, ↓dIf_e, ↓dCall_e, ↓dSm_e, ↓dCm_e, ↓dFor_e, ↓iSq_e, ↓iRng1_e, ↓dNeg_e, ↓dFld_e, ↓dLc_e, ↓dBM_e, ↓dFmt_e, ↓dSl_e, ↓dPart_e, ↓dNoPart_e, ↓dfl_e0, ↓tMul_ii, ↓tAdd_ii, ↓tSub_ii, ↓tFdiv_ii, ↓tMod_ii, ↓tPow_ii, ↓tCm_ii, ↓rdP0, ↓rdP1, ↓rdV0, ↓rdV1, ↓rdA,
      kBl, kTru, rIsN_f, rIsN_t, isNon_non, isNon_int, isNon_str, isNon_tup, isNon_lst, isNon_parts, isNon_amt, rIsiD, kSome, startD, kI2, rInt2,
      List.map_cons, List.map_nil, List.length_cons, List.length_nil, List.cons_append, List.nil_append, List.getElem?_cons_zero, List.getElem?_cons_succ, List.replicate, Nat.reduceSub, Nat.reduceAdd, Nat.reduceLeDiff, Nat.zero_add, Nat.add_zero, Nat.sub_self, Nat.sub_zero, List.set_cons_zero, List.set_cons_succ, List.append_nil, List.drop, List.drop_zero,
      Option.some.injEq, exists_eq_left', exists_eq_left, true_and, and_true, if_true, if_false, Bool.false_eq_true, Bool.not_true, Bool.not_false, ite_true, ite_false, reduceIte, reduceCtorEq, Nat.le_refl, ]
  exact hK _ _ ⟨k2, g2, _, rfl, rfl, by omega, by omega⟩
end Mv
end
section
set_option Elab.async false
set_option linter.all false
set_option maxRecDepth 100000
set_option maxHeartbeats 8000000
namespace Mv
open PySem PySem.Spec L2 SX
theorem pf__law_draw (S : Sy) : ∀ ds W Q2 E2, sp__law_draw S ds W Q2 E2 → t__law_draw S { nx := fun _ W => Q2 .non W, rt := Q2 } (startD ["_law_pen_here", "_law_many", "_law_digit", "_law_at", "_law_cell", "_law_great", "_law_mixed"] ds) W (fun x _ W => E2 x W) :=
  pf_draw (c1 := 36781) (c2 := 1579) (p1 := 2147483549) (c3 := 50021) (c4 := 499) (p2 := 2147483629) (c5 := 173) (c6 := 55163) (c7 := 97) (p3 := 2147483587) (q := qN) (n := 5) (by decide) (by decide) (by decide) (by decide) (by decide) (by decide) (by decide) (by decide) (by decide)
theorem pf__law_pick (S : Sy) : ∀ ds W Q2 E2, sp__law_pick S ds W Q2 E2 → t__law_pick S { nx := fun _ W => Q2 .non W, rt := Q2 } (startD ["_law_pen_here", "_law_some"] ds) W (fun x _ W => E2 x W) := pf_pick
theorem len__law_pen (S : Sy) : ∀ ds W Q E, sp__law_pen S ds W Q E → ds.length = 1 := fun ds W Q E h => by
  obtain ⟨_, rfl, _⟩ := h
  rfl
theorem pf__law_pen (S : Sy) : ∀ ds W Q2 E2, sp__law_pen S ds W Q2 E2 → t__law_pen S { nx := fun _ W => Q2 .non W, rt := Q2 } (startD ["_law_script"] ds) W (fun x _ W => E2 x W) := pf_pen
end Mv
end
section
set_option Elab.async false
set_option linter.all false
set_option maxRecDepth 100000
set_option maxHeartbeats 8000000
namespace Mv.K02
open PySem PySem.Spec L2 PyProof.Rows
open He (ga ma)
open He5 (DefA wf)
def top (i : Nat) : Stmt := PySem.Challenge.pw_movedsums_k02_amounts_in_lowest_terms.main.body.getD i (.Pass ⟨0, 0, 0, 0⟩)
def inCls (s : Stmt) (j : Nat) : Stmt := inClass s j
def cn : Cn := [(1, "MoneyError"), (2, "BadInput"), (3, "BadAmount"), (13, "BadText"), (0, "Amount")]
def cpl : List Nat := [0]
abbrev s_is_integer : Stmt := top 3
def d_is_integer : DefA := ⟨fun K => ga K "is_integer", "is_integer", "is_integer", defArgs s_is_integer, defBody s_is_integer, defScope s_is_integer, [], []⟩
abbrev s_common_divisor : Stmt := top 5
def d_common_divisor : DefA := ⟨fun K => ga K "common_divisor", "common_divisor", "common_divisor", defArgs s_common_divisor, defBody s_common_divisor, defScope s_common_divisor, [], []⟩
abbrev s_lowest : Stmt := top 12
def d_lowest : DefA := ⟨fun K => ga K "lowest", "lowest", "lowest", defArgs s_lowest, defBody s_lowest, defScope s_lowest, [], []⟩
abbrev s_parts_of : Stmt := top 13
def d_parts_of : DefA := ⟨fun K => ga K "parts_of", "parts_of", "parts_of", defArgs s_parts_of, defBody s_parts_of, defScope s_parts_of, [], []⟩
abbrev s_Amount_init : Stmt := inCls (top 14) 0
def d_Amount_init : DefA := ⟨fun K => ma K (ga K "Amount") "__init__", "__init__", "Amount.__init__", defArgs s_Amount_init, defBody s_Amount_init, defScope s_Amount_init, [.int 1], []⟩
abbrev s_Amount_top : Stmt := inCls (top 14) 1
def d_Amount_top : DefA := ⟨fun K => wf K (ga K "Amount") "property" "top", "top", "Amount.top", defArgs s_Amount_top, defBody s_Amount_top, defScope s_Amount_top, [], []⟩
abbrev s_Amount_bottom : Stmt := inCls (top 14) 2
def d_Amount_bottom : DefA := ⟨fun K => wf K (ga K "Amount") "property" "bottom", "bottom", "Amount.bottom", defArgs s_Amount_bottom, defBody s_Amount_bottom, defScope s_Amount_bottom, [], []⟩
abbrev s_Amount_of : Stmt := inCls (top 14) 3
def d_Amount_of : DefA := ⟨fun K => wf K (ga K "Amount") "staticmethod" "of", "of", "Amount.of", defArgs s_Amount_of, defBody s_Amount_of, defScope s_Amount_of, [], []⟩
abbrev s_Amount_add : Stmt := inCls (top 14) 9
def d_Amount_add : DefA := ⟨fun K => ma K (ga K "Amount") "__add__", "__add__", "Amount.__add__", defArgs s_Amount_add, defBody s_Amount_add, defScope s_Amount_add, [], []⟩
abbrev s_Amount_radd : Stmt := inCls (top 14) 10
def d_Amount_radd : DefA := ⟨fun K => ma K (ga K "Amount") "__radd__", "__radd__", "Amount.__radd__", defArgs s_Amount_radd, defBody s_Amount_radd, defScope s_Amount_radd, [], []⟩
abbrev s_Amount_sub : Stmt := inCls (top 14) 11
def d_Amount_sub : DefA := ⟨fun K => ma K (ga K "Amount") "__sub__", "__sub__", "Amount.__sub__", defArgs s_Amount_sub, defBody s_Amount_sub, defScope s_Amount_sub, [], []⟩
abbrev s_Amount_neg : Stmt := inCls (top 14) 15
def d_Amount_neg : DefA := ⟨fun K => ma K (ga K "Amount") "__neg__", "__neg__", "Amount.__neg__", defArgs s_Amount_neg, defBody s_Amount_neg, defScope s_Amount_neg, [], []⟩
abbrev s_Amount_rsub : Stmt := inCls (top 14) 12
def d_Amount_rsub : DefA := ⟨fun K => ma K (ga K "Amount") "__rsub__", "__rsub__", "Amount.__rsub__", defArgs s_Amount_rsub, defBody s_Amount_rsub, defScope s_Amount_rsub, [], []⟩
abbrev s_Amount_mul : Stmt := inCls (top 14) 13
def d_Amount_mul : DefA := ⟨fun K => ma K (ga K "Amount") "__mul__", "__mul__", "Amount.__mul__", defArgs s_Amount_mul, defBody s_Amount_mul, defScope s_Amount_mul, [], []⟩
abbrev s_Amount_rmul : Stmt := inCls (top 14) 14
def d_Amount_rmul : DefA := ⟨fun K => ma K (ga K "Amount") "__rmul__", "__rmul__", "Amount.__rmul__", defArgs s_Amount_rmul, defBody s_Amount_rmul, defScope s_Amount_rmul, [], []⟩
abbrev s_Amount_abs : Stmt := inCls (top 14) 16
def d_Amount_abs : DefA := ⟨fun K => ma K (ga K "Amount") "__abs__", "__abs__", "Amount.__abs__", defArgs s_Amount_abs, defBody s_Amount_abs, defScope s_Amount_abs, [], []⟩
abbrev s_times_of : Stmt := top 15
def d_times_of : DefA := ⟨fun K => ga K "times_of", "times_of", "times_of", defArgs s_times_of, defBody s_times_of, defScope s_times_of, [], []⟩
abbrev s_Amount_floordiv : Stmt := inCls (top 14) 17
def d_Amount_floordiv : DefA := ⟨fun K => ma K (ga K "Amount") "__floordiv__", "__floordiv__", "Amount.__floordiv__", defArgs s_Amount_floordiv, defBody s_Amount_floordiv, defScope s_Amount_floordiv, [], []⟩
abbrev s_Amount_mod : Stmt := inCls (top 14) 18
def d_Amount_mod : DefA := ⟨fun K => ma K (ga K "Amount") "__mod__", "__mod__", "Amount.__mod__", defArgs s_Amount_mod, defBody s_Amount_mod, defScope s_Amount_mod, [], []⟩
abbrev s_Amount_bool : Stmt := inCls (top 14) 19
def d_Amount_bool : DefA := ⟨fun K => ma K (ga K "Amount") "__bool__", "__bool__", "Amount.__bool__", defArgs s_Amount_bool, defBody s_Amount_bool, defScope s_Amount_bool, [], []⟩
abbrev s_Amount_eq : Stmt := inCls (top 14) 20
def d_Amount_eq : DefA := ⟨fun K => ma K (ga K "Amount") "__eq__", "__eq__", "Amount.__eq__", defArgs s_Amount_eq, defBody s_Amount_eq, defScope s_Amount_eq, [], []⟩
abbrev s_Amount_lt : Stmt := inCls (top 14) 21
def d_Amount_lt : DefA := ⟨fun K => ma K (ga K "Amount") "__lt__", "__lt__", "Amount.__lt__", defArgs s_Amount_lt, defBody s_Amount_lt, defScope s_Amount_lt, [], []⟩
abbrev s_Amount_gt : Stmt := inCls (top 14) 23
def d_Amount_gt : DefA := ⟨fun K => ma K (ga K "Amount") "__gt__", "__gt__", "Amount.__gt__", defArgs s_Amount_gt, defBody s_Amount_gt, defScope s_Amount_gt, [], []⟩
abbrev s_Amount_str : Stmt := inCls (top 14) 25
def d_Amount_str : DefA := ⟨fun K => ma K (ga K "Amount") "__str__", "__str__", "Amount.__str__", defArgs s_Amount_str, defBody s_Amount_str, defScope s_Amount_str, [], []⟩
abbrev s__law_pen : Stmt := top 18
def d__law_pen : DefA := ⟨fun K => ga K "_law_pen", "_law_pen", "_law_pen", defArgs s__law_pen, defBody s__law_pen, defScope s__law_pen, [], []⟩
abbrev s__law_draw : Stmt := top 19
def d__law_draw : DefA := ⟨fun K => ga K "_law_draw", "_law_draw", "_law_draw", defArgs s__law_draw, defBody s__law_draw, defScope s__law_draw, [], []⟩
abbrev s__law_pick : Stmt := top 20
def d__law_pick : DefA := ⟨fun K => ga K "_law_pick", "_law_pick", "_law_pick", defArgs s__law_pick, defBody s__law_pick, defScope s__law_pick, [], []⟩
abbrev s__law_number : Stmt := top 21
def d__law_number : DefA := ⟨fun K => ga K "_law_number", "_law_number", "_law_number", defArgs s__law_number, defBody s__law_number, defScope s__law_number, [], []⟩
abbrev s__law_divisor : Stmt := top 22
def d__law_divisor : DefA := ⟨fun K => ga K "_law_divisor", "_law_divisor", "_law_divisor", defArgs s__law_divisor, defBody s__law_divisor, defScope s__law_divisor, [], []⟩
abbrev s__law_heard : Stmt := top 23
def d__law_heard : DefA := ⟨fun K => ga K "_law_heard", "_law_heard", "_law_heard", defArgs s__law_heard, defBody s__law_heard, defScope s__law_heard, [], []⟩
abbrev s__law_right : Stmt := top 24
def d__law_right : DefA := ⟨fun K => ga K "_law_right", "_law_right", "_law_right", defArgs s__law_right, defBody s__law_right, defScope s__law_right, [], []⟩
abbrev s__law_refused_right : Stmt := top 25
def d__law_refused_right : DefA := ⟨fun K => ga K "_law_refused_right", "_law_refused_right", "_law_refused_right", defArgs s__law_refused_right, defBody s__law_refused_right, defScope s__law_refused_right, [], []⟩
abbrev s_law : Stmt := top 26
def d_law : DefA := ⟨fun K => ga K "law", "law", "law", defArgs s_law, defBody s_law, defScope s_law, [], []⟩
abbrev s_xBadAmount : Stmt := inCls (top 9) 0
def d_xBadAmount : DefA := ⟨fun K => ma K (ga K "BadAmount") "__init__", "__init__", "BadAmount.__init__", defArgs s_xBadAmount, defBody s_xBadAmount, defScope s_xBadAmount, [], []⟩
def fn : List DefA := [d_is_integer, d_common_divisor, d_lowest, d_parts_of, d_Amount_init, d_Amount_top, d_Amount_bottom, d_Amount_of, d_Amount_add, d_Amount_radd, d_Amount_sub, d_Amount_neg, d_Amount_rsub, d_Amount_mul, d_Amount_rmul, d_Amount_abs, d_times_of, d_Amount_floordiv, d_Amount_mod, d_Amount_bool, d_Amount_eq, d_Amount_lt, d_Amount_gt, d_Amount_str, d__law_pen, d__law_draw, d__law_pick, d__law_number, d__law_divisor, d__law_heard, d__law_right, d__law_refused_right, d_law, d_xBadAmount]
abbrev lamL (K : PySem.W.Frag) : List Addr := [d__law_refused_right.at_ K]
abbrev lamT (K : PySem.W.Frag) : List (Addr × Str) := [(tabA K (d__law_refused_right.at_ K), lamQ d__law_refused_right.qual d__law_refused_right.scope)]
abbrev f_0 : PySem.W.Frag → Bool := cnB cn
abbrev f_1 : PySem.W.Frag → Bool := fun K => isiB K (caK cn K) cpl (.type "int") (isiInt cpl)
abbrev f_2 : PySem.W.Frag → Bool := fun K => isiB K (caK cn K) cpl (.type "bool") (isiTy .bl cpl)
abbrev f_3 : PySem.W.Frag → Bool := fun K => isiB K (caK cn K) cpl (.ref (caK cn K 0)) (isiOwn [0] cpl)
abbrev f_4 : PySem.W.Frag → Bool := fun K => isiB K (caK cn K) cpl (.type "str") (isiTy .str cpl)
abbrev f_5 : PySem.W.Frag → Bool := fun K => (He.Fa.free "int").ok K
abbrev f_6 : PySem.W.Frag → Bool := fun K => (He.Fa.free "isinstance").ok K
abbrev f_7 : PySem.W.Frag → Bool := fun K => (He.Fa.free "bool").ok K
abbrev f_8 : PySem.W.Frag → Bool := fun K => (He.Fa.glo "common_divisor").ok K
abbrev f_9 : PySem.W.Frag → Bool := fun K => (He.Fa.free "abs").ok K
abbrev f_10 : PySem.W.Frag → Bool := fun K => (He.Fa.glo "Amount").ok K
abbrev f_11 : PySem.W.Frag → Bool := fun K => clsB K (caK cn K 0)
abbrev f_12 : PySem.W.Frag → Bool := fun K => He.eqO (PySem.W.findIn K (.ref (caK cn K 0)) "parts") (some none)
abbrev f_13 : PySem.W.Frag → Bool := fun K => (He.Fa.glo "is_integer").ok K
abbrev f_14 : PySem.W.Frag → Bool := fun K => oexB K (caK cn K 3)
abbrev f_15 : PySem.W.Frag → Bool := fun K => He.eqO (PySem.W.findIn K (.ref (caK cn K 3)) "__init__") (some (some (.ref (ma K (ga K "BadAmount") "__init__")))) && decide (PySem.W.typeIn K (.ref (ma K (ga K "BadAmount") "__init__")) = some (.type "function"))
abbrev f_16 : PySem.W.Frag → Bool := fun K => He.eqO (PySem.W.findIn K (.ref (caK cn K 3)) "part") (some none)
abbrev f_17 : PySem.W.Frag → Bool := fun K => (He.Fa.glo "BadAmount").ok K
abbrev f_18 : PySem.W.Frag → Bool := fun K => (He.Fa.glo "lowest").ok K
abbrev f_19 : PySem.W.Frag → Bool := fun K => mkB K (caK cn K 0)
abbrev f_20 : PySem.W.Frag → Bool := fun K => (He.Fa.glo "parts_of").ok K
abbrev f_21 : PySem.W.Frag → Bool := fun K => methB K (caK cn K 0) "__add__"
abbrev f_22 : PySem.W.Frag → Bool := fun K => ownFB K (caK cn K 0) (Operator.info .Add).2
abbrev f_23 : PySem.W.Frag → Bool := fun K => methB K (caK cn K 0) "__neg__"
abbrev f_24 : PySem.W.Frag → Bool := fun K => methB K (caK cn K 0) "__mul__"
abbrev f_25 : PySem.W.Frag → Bool := fun K => ownFB K (caK cn K 0) (Operator.info .Mult).2
abbrev f_26 : PySem.W.Frag → Bool := fun K => (He.Fa.glo "times_of").ok K
abbrev f_27 : PySem.W.Frag → Bool := fun K => (He.Fa.free "list").ok K
abbrev f_28 : PySem.W.Frag → Bool := fun K => (He.Fa.free "len").ok K
abbrev f_29 : PySem.W.Frag → Bool := fun K => (He.Fa.glo "_law_draw").ok K
abbrev f_30 : PySem.W.Frag → Bool := fun K => (He.Fa.glo "_law_pick").ok K
abbrev f_31 : PySem.W.Frag → Bool := fun K => methB K (caK cn K 0) "__eq__"
abbrev f_32 : PySem.W.Frag → Bool := fun K => nfB K (caK cn K) cpl 0
abbrev f_33 : PySem.W.Frag → Bool := fun K => decide (PySem.W.mroIn K (caK cn K 0) (.type "object") = some true)
abbrev f_34 : PySem.W.Frag → Bool := fun K => He.eqO (PySem.W.findIn K (.ref (caK cn K 0)) "__ne__") (some (some (.builtin "object.__ne__")))
abbrev f_35 : PySem.W.Frag → Bool := fun K => leftTs.all fun T => decide (PySem.W.subIn K (.ref (caK cn K 0)) (.type T) = some false)
abbrev f_36 : PySem.W.Frag → Bool := fun K => methB K (caK cn K 0) "__radd__"
abbrev f_37 : PySem.W.Frag → Bool := fun K => ownRB K (caK cn K 0) (Operator.info .Add).2
abbrev f_38 : PySem.W.Frag → Bool := fun K => methB K (caK cn K 0) "__rmul__"
abbrev f_39 : PySem.W.Frag → Bool := fun K => ownRB K (caK cn K 0) (Operator.info .Mult).2
abbrev f_40 : PySem.W.Frag → Bool := fun K => methB K (caK cn K 0) "__sub__"
abbrev f_41 : PySem.W.Frag → Bool := fun K => methB K (caK cn K 0) "__rsub__"
abbrev f_42 : PySem.W.Frag → Bool := fun K => ownFB K (caK cn K 0) (Operator.info .Sub).2
abbrev f_43 : PySem.W.Frag → Bool := fun K => ownRB K (caK cn K 0) (Operator.info .Sub).2
abbrev f_44 : PySem.W.Frag → Bool := fun K => methB K (caK cn K 0) "__abs__"
abbrev f_45 : PySem.W.Frag → Bool := fun K => methB K (caK cn K 0) "__mod__"
abbrev f_46 : PySem.W.Frag → Bool := fun K => ownFB K (caK cn K 0) (Operator.info .Mod).2
abbrev f_47 : PySem.W.Frag → Bool := fun K => (He.Fa.glo "MoneyError").ok K
abbrev f_48 : PySem.W.Frag → Bool := fun K => decide (PySem.W.exmOne K (.ref (caK cn K 3)) (.ref (caK cn K 1)) = some true)
abbrev f_49 : PySem.W.Frag → Bool := fun K => excCB K (caK cn K 3)
abbrev f_50 : PySem.W.Frag → Bool := fun K => decide (PySem.W.kitOne K (.ref (caK cn K 3)) (.ref (caK cn K 3)) = some true)
abbrev f_51 : PySem.W.Frag → Bool := fun K => (He.Fa.glo "_law_number").ok K
abbrev f_52 : PySem.W.Frag → Bool := fun K => (He.Fa.glo "_law_divisor").ok K
abbrev f_53 : PySem.W.Frag → Bool := fun K => methB K (caK cn K 0) "__gt__"
abbrev f_54 : PySem.W.Frag → Bool := fun K => methB K (caK cn K 0) "__lt__"
abbrev f_55 : PySem.W.Frag → Bool := fun K => decide (PySem.W.subIn K (.ref (caK cn K 0)) (.type "int") = some false)
abbrev f_56 : PySem.W.Frag → Bool := fun K => methB K (caK cn K 0) "__floordiv__"
abbrev f_57 : PySem.W.Frag → Bool := fun K => ownFB K (caK cn K 0) (Operator.info .FloorDiv).2
abbrev f_58 : PySem.W.Frag → Bool := fun K => propB K (caK cn K 0) "top"
abbrev f_59 : PySem.W.Frag → Bool := fun K => propB K (caK cn K 0) "bottom"
abbrev f_60 : PySem.W.Frag → Bool := fun K => (He.Fa.free "repr").ok K
abbrev f_61 : PySem.W.Frag → Bool := fun K => methB K (caK cn K 0) "__bool__"
abbrev f_62 : PySem.W.Frag → Bool := fun K => methB K (caK cn K 0) "__str__"
abbrev f_63 : PySem.W.Frag → Bool := fun K => (He.Fa.free "str").ok K
abbrev f_64 : PySem.W.Frag → Bool := fun K => creadB K (caK cn K 0)
abbrev f_65 : PySem.W.Frag → Bool := fun K => He5.wrapB K (caK cn K 0) "staticmethod" "staticmethod.__get__" "of"
abbrev f_66 : PySem.W.Frag → Bool := fun K => (He.Fa.glo "_law_heard").ok K
abbrev f_67 : PySem.W.Frag → Bool := fun K => decide (((lamT K).map (·.1)).Nodup)
abbrev f_68 : PySem.W.Frag → Bool := fun K => lamB K (d__law_refused_right.at_ K)
abbrev f_69 : PySem.W.Frag → Bool := fun K => (He.Fa.glo "_law_pen").ok K
abbrev f_70 : PySem.W.Frag → Bool := fun K => (He.Fa.free "range").ok K
abbrev f_71 : PySem.W.Frag → Bool := fun K => (He.Fa.glo "_law_right").ok K
abbrev f_72 : PySem.W.Frag → Bool := fun K => (He.Fa.glo "_law_refused_right").ok K
abbrev f_73 : PySem.W.Frag → Bool := fun K => (He.Fa.glo "law").ok K
def mf : List (PySem.W.Frag → Bool) := [f_0, f_1, f_2, f_3, f_4, f_5, f_6, f_7, f_8, f_9, f_10, f_11, f_12, f_13, f_14, f_15, f_16, f_17, f_18, f_19, f_20, f_21, f_22, f_23, f_24, f_25, f_26, f_27, f_28, f_29, f_30, f_31, f_32, f_33, f_34, f_35, f_36, f_37, f_38, f_39, f_40, f_41, f_42, f_43, f_44, f_45, f_46, f_47, f_48, f_49, f_50, f_51, f_52, f_53, f_54, f_55, f_56, f_57, f_58, f_59, f_60, f_61, f_62, f_63, f_64, f_65, f_66, f_67, f_68, f_69, f_70, f_71, f_72, f_73]
structure Wk (K : PySem.W.Frag) (mg : Str → Option Value) (base : Heap) : Prop where
  says : SaysM mf fn K
  kin : K.In base
  ns : base.Ns mainGlobals mg
  tb : ∀ f ∈ lamL K, LamX.TabB base mg (codeA K f) (tabA K f)

variable {P : Program} {w : World} {K : PySem.W.Frag} {mg : Str → Option Value} {base : Heap}
theorem fa_0 (W : Wk K mg base) : f_0 K = true := W.says.fact 0 rfl
theorem fa_1 (W : Wk K mg base) : f_1 K = true := W.says.fact 1 rfl
theorem fa_2 (W : Wk K mg base) : f_2 K = true := W.says.fact 2 rfl
theorem fa_3 (W : Wk K mg base) : f_3 K = true := W.says.fact 3 rfl
theorem fa_4 (W : Wk K mg base) : f_4 K = true := W.says.fact 4 rfl
theorem fa_5 (W : Wk K mg base) : f_5 K = true := W.says.fact 5 rfl
theorem fa_6 (W : Wk K mg base) : f_6 K = true := W.says.fact 6 rfl
theorem fa_7 (W : Wk K mg base) : f_7 K = true := W.says.fact 7 rfl
theorem fa_8 (W : Wk K mg base) : f_8 K = true := W.says.fact 8 rfl
theorem fa_9 (W : Wk K mg base) : f_9 K = true := W.says.fact 9 rfl
theorem fa_10 (W : Wk K mg base) : f_10 K = true := W.says.fact 10 rfl
theorem fa_11 (W : Wk K mg base) : f_11 K = true := W.says.fact 11 rfl
theorem fa_12 (W : Wk K mg base) : f_12 K = true := W.says.fact 12 rfl
theorem fa_13 (W : Wk K mg base) : f_13 K = true := W.says.fact 13 rfl
theorem fa_14 (W : Wk K mg base) : f_14 K = true := W.says.fact 14 rfl
theorem fa_15 (W : Wk K mg base) : f_15 K = true := W.says.fact 15 rfl
theorem fa_16 (W : Wk K mg base) : f_16 K = true := W.says.fact 16 rfl
theorem fa_17 (W : Wk K mg base) : f_17 K = true := W.says.fact 17 rfl
theorem fa_18 (W : Wk K mg base) : f_18 K = true := W.says.fact 18 rfl
theorem fa_19 (W : Wk K mg base) : f_19 K = true := W.says.fact 19 rfl
theorem fa_20 (W : Wk K mg base) : f_20 K = true := W.says.fact 20 rfl
theorem fa_21 (W : Wk K mg base) : f_21 K = true := W.says.fact 21 rfl
theorem fa_22 (W : Wk K mg base) : f_22 K = true := W.says.fact 22 rfl
theorem fa_23 (W : Wk K mg base) : f_23 K = true := W.says.fact 23 rfl
theorem fa_24 (W : Wk K mg base) : f_24 K = true := W.says.fact 24 rfl
theorem fa_25 (W : Wk K mg base) : f_25 K = true := W.says.fact 25 rfl
theorem fa_26 (W : Wk K mg base) : f_26 K = true := W.says.fact 26 rfl
theorem fa_27 (W : Wk K mg base) : f_27 K = true := W.says.fact 27 rfl
theorem fa_28 (W : Wk K mg base) : f_28 K = true := W.says.fact 28 rfl
theorem fa_29 (W : Wk K mg base) : f_29 K = true := W.says.fact 29 rfl
theorem fa_30 (W : Wk K mg base) : f_30 K = true := W.says.fact 30 rfl
theorem fa_31 (W : Wk K mg base) : f_31 K = true := W.says.fact 31 rfl
theorem fa_32 (W : Wk K mg base) : f_32 K = true := W.says.fact 32 rfl
theorem fa_33 (W : Wk K mg base) : f_33 K = true := W.says.fact 33 rfl
theorem fa_34 (W : Wk K mg base) : f_34 K = true := W.says.fact 34 rfl
theorem fa_35 (W : Wk K mg base) : f_35 K = true := W.says.fact 35 rfl
theorem fa_36 (W : Wk K mg base) : f_36 K = true := W.says.fact 36 rfl
theorem fa_37 (W : Wk K mg base) : f_37 K = true := W.says.fact 37 rfl
theorem fa_38 (W : Wk K mg base) : f_38 K = true := W.says.fact 38 rfl
theorem fa_39 (W : Wk K mg base) : f_39 K = true := W.says.fact 39 rfl
theorem fa_40 (W : Wk K mg base) : f_40 K = true := W.says.fact 40 rfl
theorem fa_41 (W : Wk K mg base) : f_41 K = true := W.says.fact 41 rfl
theorem fa_42 (W : Wk K mg base) : f_42 K = true := W.says.fact 42 rfl
theorem fa_43 (W : Wk K mg base) : f_43 K = true := W.says.fact 43 rfl
theorem fa_44 (W : Wk K mg base) : f_44 K = true := W.says.fact 44 rfl
theorem fa_45 (W : Wk K mg base) : f_45 K = true := W.says.fact 45 rfl
theorem fa_46 (W : Wk K mg base) : f_46 K = true := W.says.fact 46 rfl
theorem fa_47 (W : Wk K mg base) : f_47 K = true := W.says.fact 47 rfl
theorem fa_48 (W : Wk K mg base) : f_48 K = true := W.says.fact 48 rfl
theorem fa_49 (W : Wk K mg base) : f_49 K = true := W.says.fact 49 rfl
theorem fa_50 (W : Wk K mg base) : f_50 K = true := W.says.fact 50 rfl
theorem fa_51 (W : Wk K mg base) : f_51 K = true := W.says.fact 51 rfl
theorem fa_52 (W : Wk K mg base) : f_52 K = true := W.says.fact 52 rfl
theorem fa_53 (W : Wk K mg base) : f_53 K = true := W.says.fact 53 rfl
theorem fa_54 (W : Wk K mg base) : f_54 K = true := W.says.fact 54 rfl
theorem fa_55 (W : Wk K mg base) : f_55 K = true := W.says.fact 55 rfl
theorem fa_56 (W : Wk K mg base) : f_56 K = true := W.says.fact 56 rfl
theorem fa_57 (W : Wk K mg base) : f_57 K = true := W.says.fact 57 rfl
theorem fa_58 (W : Wk K mg base) : f_58 K = true := W.says.fact 58 rfl
theorem fa_59 (W : Wk K mg base) : f_59 K = true := W.says.fact 59 rfl
theorem fa_60 (W : Wk K mg base) : f_60 K = true := W.says.fact 60 rfl
theorem fa_61 (W : Wk K mg base) : f_61 K = true := W.says.fact 61 rfl
theorem fa_62 (W : Wk K mg base) : f_62 K = true := W.says.fact 62 rfl
theorem fa_63 (W : Wk K mg base) : f_63 K = true := W.says.fact 63 rfl
theorem fa_64 (W : Wk K mg base) : f_64 K = true := W.says.fact 64 rfl
theorem fa_65 (W : Wk K mg base) : f_65 K = true := W.says.fact 65 rfl
theorem fa_66 (W : Wk K mg base) : f_66 K = true := W.says.fact 66 rfl
theorem fa_67 (W : Wk K mg base) : f_67 K = true := W.says.fact 67 rfl
theorem fa_68 (W : Wk K mg base) : f_68 K = true := W.says.fact 68 rfl
theorem fa_69 (W : Wk K mg base) : f_69 K = true := W.says.fact 69 rfl
theorem fa_70 (W : Wk K mg base) : f_70 K = true := W.says.fact 70 rfl
theorem fa_71 (W : Wk K mg base) : f_71 K = true := W.says.fact 71 rfl
theorem fa_72 (W : Wk K mg base) : f_72 K = true := W.says.fact 72 rfl
theorem fa_73 (W : Wk K mg base) : f_73 K = true := W.says.fact 73 rfl
abbrev sy (W : Wk K mg base) : Sy := syK cn cpl K (fa_0 W) (lamT K)
theorem is_int (W : Wk K mg base) : IsiF (sy W) (.type "int") (isiInt (sy W).cl) := isiB_ok (S := sy W) (fa_1 W) fun c h => isiInt_own c h
theorem b_int (W : Wk K mg base) : mg "int" = none := He.free_ok W.kin W.ns (fa_5 W)
theorem b_isinstance (W : Wk K mg base) : mg "isinstance" = none := He.free_ok W.kin W.ns (fa_6 W)
theorem is_bool (W : Wk K mg base) : IsiF (sy W) (.type "bool") (isiTy .bl (sy W).cl) := isiB_ok (S := sy W) (fa_2 W) fun c h => isiTy_own c h
theorem b_bool (W : Wk K mg base) : mg "bool" = none := He.free_ok W.kin W.ns (fa_7 W)
theorem sc_is_integer : FnScope ["value"] ["value"] (defScope s_is_integer) := ⟨rfl, rfl, rfl, by decide +kernel, rfl, by decide +kernel, by decide +kernel⟩
theorem dv_is_integer {P : Program} {w : World} {K : PySem.W.Frag} {mg : Str → Option Value} {base : Heap} (W : Wk K mg base) : ∀ (cdv : Value) (A : Around) (outer : List Env) (s : Shared) (H : Hp) (E : XK), Room 3 (A.deeper (envOfC d_is_integer.qual d_is_integer.scope s.heap.objs.size (d_is_integer.at_ K) cdv)) →
    Takes (cxOf (L2.CX P w) P w K mg base ["value"] d_is_integer.qual d_is_integer.scope (d_is_integer.at_ K) cdv A outer s H E) (fun cls d _ H => E cls d H) → PBd (cxOf (L2.CX P w) P w K mg base ["value"] d_is_integer.qual d_is_integer.scope (d_is_integer.at_ K) cdv A outer s H E) (sy W) (fun cls d _ H => E cls d H) d_is_integer.body (t_is_integer (sy W)) :=
  fun cdv A outer s H E hr tk => (pb_one (psd_ret (pd_and (pd_callB (cl_isiT rfl (is_int W)) (pad_cons (pd_var 0) (pad_cons (pd_ty (b_int W)) pad_nil)) (b_isinstance W)) (pd_one (pd_not rfl (pd_callB (cl_isiT rfl (is_bool W)) (pad_cons (pd_var 0) (pad_cons (pd_ty (b_bool W)) pad_nil)) (b_isinstance W)))))))
theorem fn_is_integer {P : Program} {w : World} {K : PySem.W.Frag} {mg : Str → Option Value} {base : Heap} (W : Wk K mg base) : FnD P w (sy W) mg base 4 (d_is_integer.at_ K) 1 [] (sp_is_integer (sy W)) := by
  obtain ⟨fd, F⟩ := W.says.def_ 0 (d := d_is_integer) rfl
  exact fnD_mk (ps := ["value"]) (S := sy W) F (fnD_of (S := sy W) F sc_is_integer (len_is_integer (sy W)) (dv_is_integer W) (pf_is_integer (sy W))) fun _ _ _ _ _ _ us hl => match us, hl with | [_], _ => rfl
theorem eqo_qN {P : Program} {w : World} {K : PySem.W.Frag} {mg : Str → Option Value} {base : Heap} (W : Wk K mg base) (X : Cx) (hK : X.K = K) (hP : X.prog = P) (hw : X.w = w) (hm : X.mg = mg) (hb : X.base = base) : EqO X (sy W) qN 0 := ⟨hK, fun _ _ _ _ h => (nomatch h), fun _ _ _ _ h => (nomatch h), fun _ _ _ _ h => (nomatch h)⟩
theorem sc_common_divisor : FnScope ["one", "other", "high", "low"] ["one", "other"] (defScope s_common_divisor) := ⟨rfl, rfl, rfl, by decide +kernel, rfl, by decide +kernel, by decide +kernel⟩
theorem dv_common_divisor {P : Program} {w : World} {K : PySem.W.Frag} {mg : Str → Option Value} {base : Heap} (W : Wk K mg base) : ∀ (cdv : Value) (A : Around) (outer : List Env) (s : Shared) (H : Hp) (E : XK), Room 12 (A.deeper (envOfC d_common_divisor.qual d_common_divisor.scope s.heap.objs.size (d_common_divisor.at_ K) cdv)) →
    Takes (cxOf (L2.CX P w) P w K mg base ["one", "other", "high", "low"] d_common_divisor.qual d_common_divisor.scope (d_common_divisor.at_ K) cdv A outer s H E) (fun cls d _ H => E cls d H) → PBd (cxOf (L2.CX P w) P w K mg base ["one", "other", "high", "low"] d_common_divisor.qual d_common_divisor.scope (d_common_divisor.at_ K) cdv A outer s H E) (sy W) (fun cls d _ H => E cls d H) d_common_divisor.body (t_common_divisor (sy W)) :=
  fun cdv A outer s H E hr tk => (pb_cons (psd_par rfl sc_common_divisor.nd (pad_cons (pd_var 0) (pad_cons (pd_var 1) pad_nil))) (pb_cons (psd_while (L2.passes_of rfl) (pt_cmpD (od_ne (eqo_qN W _ rfl rfl rfl rfl rfl) hr (by decide)) (pd_var 3) pd_int (L2.nomark _)) (pb_one (psd_par rfl sc_common_divisor.nd (pad_cons (pd_var 3) (pad_cons (pd_op (od_mod rfl tk hr OwnOp.none) (pd_var 2) (pd_var 3)) pad_nil))))) (pb_one (psd_ret (pd_var 2)))))
theorem fn_common_divisor {P : Program} {w : World} {K : PySem.W.Frag} {mg : Str → Option Value} {base : Heap} (W : Wk K mg base) : FnD P w (sy W) mg base 13 (d_common_divisor.at_ K) 2 [] (sp_common_divisor (sy W)) := by
  obtain ⟨fd, F⟩ := W.says.def_ 1 (d := d_common_divisor) rfl
  exact fnD_mk (ps := ["one", "other"]) (S := sy W) F (fnD_of (S := sy W) F sc_common_divisor (len_common_divisor (sy W)) (dv_common_divisor W) (pf_common_divisor (sy W))) fun _ _ _ _ _ _ us hl => match us, hl with | [_, _], _ => rfl
theorem g_common_divisor (W : Wk K mg base) : mg "common_divisor" = some (.ref (ga K "common_divisor")) := He.glo_ok W.kin W.ns (fa_8 W)
theorem b_abs (W : Wk K mg base) : mg "abs" = none := He.free_ok W.kin W.ns (fa_9 W)
theorem sc_lowest : FnScope ["top", "bottom", "size"] ["top", "bottom"] (defScope s_lowest) := ⟨rfl, rfl, rfl, by decide +kernel, rfl, by decide +kernel, by decide +kernel⟩
theorem dv_lowest {P : Program} {w : World} {K : PySem.W.Frag} {mg : Str → Option Value} {base : Heap} (W : Wk K mg base) : ∀ (cdv : Value) (A : Around) (outer : List Env) (s : Shared) (H : Hp) (E : XK), Room 16 (A.deeper (envOfC d_lowest.qual d_lowest.scope s.heap.objs.size (d_lowest.at_ K) cdv)) →
    Takes (cxOf (L2.CX P w) P w K mg base ["top", "bottom", "size"] d_lowest.qual d_lowest.scope (d_lowest.at_ K) cdv A outer s H E) (fun cls d _ H => E cls d H) → PBd (cxOf (L2.CX P w) P w K mg base ["top", "bottom", "size"] d_lowest.qual d_lowest.scope (d_lowest.at_ K) cdv A outer s H E) (sy W) (fun cls d _ H => E cls d H) d_lowest.body (t_lowest (sy W)) :=
  fun cdv A outer s H E hr tk => (pb_cons (psd_set sc_lowest.nd (pd_call rfl tk hr ((fn_common_divisor W).mono (by decide)) (g_common_divisor W) (pad_cons (pd_callB cl_abs (pad_cons (pd_var 0) pad_nil) (b_abs W)) (pad_cons (pd_callB cl_abs (pad_cons (pd_var 1) pad_nil) (b_abs W)) pad_nil)))) (pb_cons (psd_if (pt_cmpD (od_lt rfl tk hr OwnCm.none) (pd_var 1) pd_int (L2.nomark _)) (pb_one (psd_ret (pd_tup (pad_cons (pd_op (od_fdiv rfl tk hr OwnOp.none) (pd_neg (pd_var 0)) (pd_var 2)) (pad_cons (pd_op (od_fdiv rfl tk hr OwnOp.none) (pd_neg (pd_var 1)) (pd_var 2)) pad_nil))))) pb_nil) (pb_one (psd_ret (pd_tup (pad_cons (pd_op (od_fdiv rfl tk hr OwnOp.none) (pd_var 0) (pd_var 2)) (pad_cons (pd_op (od_fdiv rfl tk hr OwnOp.none) (pd_var 1) (pd_var 2)) pad_nil)))))))
theorem fn_lowest {P : Program} {w : World} {K : PySem.W.Frag} {mg : Str → Option Value} {base : Heap} (W : Wk K mg base) : FnD P w (sy W) mg base 17 (d_lowest.at_ K) 2 [] (sp_lowest (sy W)) := by
  obtain ⟨fd, F⟩ := W.says.def_ 2 (d := d_lowest) rfl
  exact fnD_mk (ps := ["top", "bottom"]) (S := sy W) F (fnD_of (S := sy W) F sc_lowest (len_lowest (sy W)) (dv_lowest W) (pf_lowest (sy W))) fun _ _ _ _ _ _ us hl => match us, hl with | [_, _], _ => rfl
theorem is_Amount (W : Wk K mg base) : IsiF (sy W) (.ref ((sy W).ca 0)) (isiOwn [0] (sy W).cl) := isiB_ok (S := sy W) (fa_3 W) fun c h => isiOwn_own c h
theorem g_Amount (W : Wk K mg base) : mg "Amount" = some (.ref (ga K "Amount")) := He.glo_ok W.kin W.ns (fa_10 W)
theorem ao_parts {P : Program} {w : World} {K : PySem.W.Frag} {mg : Str → Option Value} {base : Heap} (W : Wk K mg base) {X : Cx} (hP : X.prog = P) (hw : X.w = w) (hm : X.mg = mg) (hb : X.base = base) {k : Nat} (h : 0 ≤ k) : (a_parts (sy W)).ok X (sy W) k 0 := by
  subst hP hw hm hb
  refine ⟨fun c hc => ?_, fun c hc => ?_⟩
  · rcases List.mem_cons.mp hc with rfl | hc
    · exact ⟨clsB_ok (fa_11 W), He.eqO_ok (fa_12 W)⟩
    exact absurd hc (by simp)
  · exact absurd hc (by simp [a_parts])
theorem g_is_integer (W : Wk K mg base) : mg "is_integer" = some (.ref (ga K "is_integer")) := He.glo_ok W.kin W.ns (fa_13 W)
theorem sc_parts_of : FnScope ["value"] ["value"] (defScope s_parts_of) := ⟨rfl, rfl, rfl, by decide +kernel, rfl, by decide +kernel, by decide +kernel⟩
theorem dv_parts_of {P : Program} {w : World} {K : PySem.W.Frag} {mg : Str → Option Value} {base : Heap} (W : Wk K mg base) : ∀ (cdv : Value) (A : Around) (outer : List Env) (s : Shared) (H : Hp) (E : XK), Room 7 (A.deeper (envOfC d_parts_of.qual d_parts_of.scope s.heap.objs.size (d_parts_of.at_ K) cdv)) →
    Takes (cxOf (L2.CX P w) P w K mg base ["value"] d_parts_of.qual d_parts_of.scope (d_parts_of.at_ K) cdv A outer s H E) (fun cls d _ H => E cls d H) → PBd (cxOf (L2.CX P w) P w K mg base ["value"] d_parts_of.qual d_parts_of.scope (d_parts_of.at_ K) cdv A outer s H E) (sy W) (fun cls d _ H => E cls d H) d_parts_of.body (t_parts_of (sy W)) :=
  fun cdv A outer s H E hr tk => (pb_cons (psd_if (pt_plain rfl (pd_callB (cl_isiC rfl (is_Amount W)) (pad_cons (pd_var 0) (pad_cons (pd_gref (a := (sy W).ca 0) (g_Amount W)) pad_nil)) (b_isinstance W))) (pb_one (psd_ret (pd_attr rfl hr (ao_parts W rfl rfl rfl rfl (by decide)) rfl (pd_var 0)))) pb_nil) (pb_one (psd_ret (pd_ifExp (pt_plain rfl (pd_call rfl tk hr ((fn_is_integer W).mono (by decide)) (g_is_integer W) (pad_cons (pd_var 0) pad_nil))) (pd_tup (pad_cons (pd_var 0) (pad_cons pd_int pad_nil))) pd_non))))
theorem fn_parts_of {P : Program} {w : World} {K : PySem.W.Frag} {mg : Str → Option Value} {base : Heap} (W : Wk K mg base) : FnD P w (sy W) mg base 8 (d_parts_of.at_ K) 1 [] (sp_parts_of (sy W)) := by
  obtain ⟨fd, F⟩ := W.says.def_ 3 (d := d_parts_of) rfl
  exact fnD_mk (ps := ["value"]) (S := sy W) F (fnD_of (S := sy W) F sc_parts_of (len_parts_of (sy W)) (dv_parts_of W) (pf_parts_of (sy W))) fun _ _ _ _ _ _ us hl => match us, hl with | [_], _ => rfl
theorem sc_xBadAmount : FnScope ["self", "part"] ["self", "part"] (defScope s_xBadAmount) := ⟨rfl, rfl, rfl, by decide +kernel, rfl, by decide +kernel, by decide +kernel⟩
theorem rs_BadAmount {P : Program} {w : World} {K : PySem.W.Frag} {mg : Str → Option Value} {base : Heap} (W : Wk K mg base) {k : Nat} (h : 2 ≤ k) : RsD P w (sy W) mg base k 3 [44] := by
  obtain ⟨fd, F⟩ := W.says.def_ 33 (d := d_xBadAmount) rfl
  obtain ⟨h1, h2⟩ := He.ba (fa_15 W)
  have T := oexB_ok (fa_14 W)
  exact RsD.mono ⟨T, ma K (ga K "BadAmount") "__init__", fd, ["self", "part"], He.eqO_ok h1, of_decide_eq_true h2, exinit1 F sc_xBadAmount T (He.eqO_ok (fa_16 W)) (by first | exact Or.inl rfl | exact Or.inr (Or.inl rfl)) (by first | exact Or.inl rfl | exact Or.inr (Or.inl rfl)) (by decide) (by decide) (by decide) (by decide), F.bindsN fun _ _ _ _ _ _ us hl => match us, hl with | [_, _], _ => rfl⟩ h
theorem g_BadAmount (W : Wk K mg base) : mg "BadAmount" = some (.ref (ga K "BadAmount")) := He.glo_ok W.kin W.ns (fa_17 W)
theorem st_parts (W : Wk K mg base) (l : List Nat) (hl : l.all (fun c => [0].contains c) = true := by decide) : ∀ c, c ∈ l → Cls (sy W).K ((sy W).ca c) ∧ NoAttr (sy W).K ((sy W).ca c) (tab.nm 0) := by
  intro c hc
  have hc := List.all_eq_true.mp hl c hc
  simp only [List.contains_eq_mem, decide_eq_true_eq] at hc
  rcases List.mem_cons.mp hc with rfl | hc
  · exact ⟨clsB_ok (fa_11 W), He.eqO_ok (fa_12 W)⟩
  exact absurd hc (by simp)
theorem g_lowest (W : Wk K mg base) : mg "lowest" = some (.ref (ga K "lowest")) := He.glo_ok W.kin W.ns (fa_18 W)
theorem sc_Amount_init : FnScope ["self", "top", "bottom"] ["self", "top", "bottom"] (defScope s_Amount_init) := ⟨rfl, rfl, rfl, by decide +kernel, rfl, by decide +kernel, by decide +kernel⟩
theorem dv_Amount_init {P : Program} {w : World} {K : PySem.W.Frag} {mg : Str → Option Value} {base : Heap} (W : Wk K mg base) : ∀ (cdv : Value) (A : Around) (outer : List Env) (s : Shared) (H : Hp) (E : XK), Room 29 (A.deeper (envOfC d_Amount_init.qual d_Amount_init.scope s.heap.objs.size (d_Amount_init.at_ K) cdv)) →
    Takes (cxOf (L2.CX P w) P w K mg base ["self", "top", "bottom"] d_Amount_init.qual d_Amount_init.scope (d_Amount_init.at_ K) cdv A outer s H E) (fun cls d _ H => E cls d H) → PBd (cxOf (L2.CX P w) P w K mg base ["self", "top", "bottom"] d_Amount_init.qual d_Amount_init.scope (d_Amount_init.at_ K) cdv A outer s H E) (sy W) (fun cls d _ H => E cls d H) d_Amount_init.body (t_Amount_init (sy W)) :=
  fun cdv A outer s H E hr tk => (pb_cons (psd_if (pt_notD (pt_plain rfl (pd_call rfl tk hr ((fn_is_integer W).mono (by decide)) (g_is_integer W) (pad_cons (pd_var 1) pad_nil)))) (pb_one (psd_raise rfl rfl tk hr (rs_BadAmount W (by decide)) (g_BadAmount W) (pad_cons pd_str pad_nil))) pb_nil) (pb_cons (psd_if (PWd.pt (pw_or (pt_notD (pt_plain rfl (pd_call rfl tk hr ((fn_is_integer W).mono (by decide)) (g_is_integer W) (pad_cons (pd_var 2) pad_nil)))) (pw_or1 (pt_cmpD (od_eq (eqo_qN W _ rfl rfl rfl rfl rfl) hr (by decide)) (pd_var 2) pd_int (L2.nomark _))))) (pb_one (psd_raise rfl rfl tk hr (rs_BadAmount W (by decide)) (g_BadAmount W) (pad_cons pd_str pad_nil))) pb_nil) (pb_one (psd_fld rfl (st_parts W [0]) rfl (pd_var 0) (pd_call rfl tk hr ((fn_lowest W).mono (by decide)) (g_lowest W) (pad_cons (pd_var 1) (pad_cons (pd_var 2) pad_nil)))))))
theorem fn_Amount_init {P : Program} {w : World} {K : PySem.W.Frag} {mg : Str → Option Value} {base : Heap} (W : Wk K mg base) : FnD P w (sy W) mg base 30 (d_Amount_init.at_ K) 3 [.int 1] (sp_Amount_init (sy W)) := by
  obtain ⟨fd, F⟩ := W.says.def_ 4 (d := d_Amount_init) rfl
  refine fnD_mk1 (ps := ["self", "top", "bottom"]) (S := sy W) F (fnD_of (S := sy W) F sc_Amount_init (len_Amount_init (sy W)) (dv_Amount_init W) (pf_Amount_init (sy W))) (by simp [DefA.dvs, d_Amount_init]) (by simp [DefA.dvs, d_Amount_init]) (fun F => by repeat constructor) fun j hj T kV doc pm an cdv ct us its h1 h2 => ?_
  match j, hj, us, h1, its, h2 with
  | 0, _, [_, _], _, [_], _ => exact ⟨_, rfl, rfl⟩
  | 1, _, [_, _, _], _, [_], _ => exact ⟨_, rfl, rfl⟩
theorem sc_Amount_top : FnScope ["self"] ["self"] (defScope s_Amount_top) := ⟨rfl, rfl, rfl, by decide +kernel, rfl, by decide +kernel, by decide +kernel⟩
theorem dv_Amount_top {P : Program} {w : World} {K : PySem.W.Frag} {mg : Str → Option Value} {base : Heap} (W : Wk K mg base) : ∀ (cdv : Value) (A : Around) (outer : List Env) (s : Shared) (H : Hp) (E : XK), Room 3 (A.deeper (envOfC d_Amount_top.qual d_Amount_top.scope s.heap.objs.size (d_Amount_top.at_ K) cdv)) →
    Takes (cxOf (L2.CX P w) P w K mg base ["self"] d_Amount_top.qual d_Amount_top.scope (d_Amount_top.at_ K) cdv A outer s H E) (fun cls d _ H => E cls d H) → PBd (cxOf (L2.CX P w) P w K mg base ["self"] d_Amount_top.qual d_Amount_top.scope (d_Amount_top.at_ K) cdv A outer s H E) (sy W) (fun cls d _ H => E cls d H) d_Amount_top.body (t_Amount_top (sy W)) :=
  fun cdv A outer s H E hr tk => (pb_one (psd_ret (pd_ix (ix_d rfl) (pd_attr rfl hr (ao_parts W rfl rfl rfl rfl (by decide)) rfl (pd_var 0)) pd_int)))
theorem fn_Amount_top {P : Program} {w : World} {K : PySem.W.Frag} {mg : Str → Option Value} {base : Heap} (W : Wk K mg base) : FnD P w (sy W) mg base 4 (d_Amount_top.at_ K) 1 [] (sp_Amount_top (sy W)) := by
  obtain ⟨fd, F⟩ := W.says.def_ 5 (d := d_Amount_top) rfl
  exact fnD_mk (ps := ["self"]) (S := sy W) F (fnD_of (S := sy W) F sc_Amount_top (len_Amount_top (sy W)) (dv_Amount_top W) (pf_Amount_top (sy W))) fun _ _ _ _ _ _ us hl => match us, hl with | [_], _ => rfl
theorem sc_Amount_bottom : FnScope ["self"] ["self"] (defScope s_Amount_bottom) := ⟨rfl, rfl, rfl, by decide +kernel, rfl, by decide +kernel, by decide +kernel⟩
theorem dv_Amount_bottom {P : Program} {w : World} {K : PySem.W.Frag} {mg : Str → Option Value} {base : Heap} (W : Wk K mg base) : ∀ (cdv : Value) (A : Around) (outer : List Env) (s : Shared) (H : Hp) (E : XK), Room 3 (A.deeper (envOfC d_Amount_bottom.qual d_Amount_bottom.scope s.heap.objs.size (d_Amount_bottom.at_ K) cdv)) →
    Takes (cxOf (L2.CX P w) P w K mg base ["self"] d_Amount_bottom.qual d_Amount_bottom.scope (d_Amount_bottom.at_ K) cdv A outer s H E) (fun cls d _ H => E cls d H) → PBd (cxOf (L2.CX P w) P w K mg base ["self"] d_Amount_bottom.qual d_Amount_bottom.scope (d_Amount_bottom.at_ K) cdv A outer s H E) (sy W) (fun cls d _ H => E cls d H) d_Amount_bottom.body (t_Amount_bottom (sy W)) :=
  fun cdv A outer s H E hr tk => (pb_one (psd_ret (pd_ix (ix_d rfl) (pd_attr rfl hr (ao_parts W rfl rfl rfl rfl (by decide)) rfl (pd_var 0)) pd_int)))
theorem fn_Amount_bottom {P : Program} {w : World} {K : PySem.W.Frag} {mg : Str → Option Value} {base : Heap} (W : Wk K mg base) : FnD P w (sy W) mg base 4 (d_Amount_bottom.at_ K) 1 [] (sp_Amount_bottom (sy W)) := by
  obtain ⟨fd, F⟩ := W.says.def_ 6 (d := d_Amount_bottom) rfl
  exact fnD_mk (ps := ["self"]) (S := sy W) F (fnD_of (S := sy W) F sc_Amount_bottom (len_Amount_bottom (sy W)) (dv_Amount_bottom W) (pf_Amount_bottom (sy W))) fun _ _ _ _ _ _ us hl => match us, hl with | [_], _ => rfl
theorem mk_Amount {P : Program} {w : World} {K : PySem.W.Frag} {mg : Str → Option Value} {base : Heap} (W : Wk K mg base) {k : Nat} (h : 30 ≤ k) : MkD P w (sy W) mg base k 0 3 [.int 1] (sp_Amount_init (sy W)) := ⟨_, mkB_ok (fa_19 W), (fn_Amount_init W).mono h⟩
theorem sc_Amount_of : FnScope ["value"] ["value"] (defScope s_Amount_of) := ⟨rfl, rfl, rfl, by decide +kernel, rfl, by decide +kernel, by decide +kernel⟩
theorem dv_Amount_of {P : Program} {w : World} {K : PySem.W.Frag} {mg : Str → Option Value} {base : Heap} (W : Wk K mg base) : ∀ (cdv : Value) (A : Around) (outer : List Env) (s : Shared) (H : Hp) (E : XK), Room 33 (A.deeper (envOfC d_Amount_of.qual d_Amount_of.scope s.heap.objs.size (d_Amount_of.at_ K) cdv)) →
    Takes (cxOf (L2.CX P w) P w K mg base ["value"] d_Amount_of.qual d_Amount_of.scope (d_Amount_of.at_ K) cdv A outer s H E) (fun cls d _ H => E cls d H) → PBd (cxOf (L2.CX P w) P w K mg base ["value"] d_Amount_of.qual d_Amount_of.scope (d_Amount_of.at_ K) cdv A outer s H E) (sy W) (fun cls d _ H => E cls d H) d_Amount_of.body (t_Amount_of (sy W)) :=
  fun cdv A outer s H E hr tk => (pb_cons (psd_if (pt_plain rfl (pd_callB (cl_isiC rfl (is_Amount W)) (pad_cons (pd_var 0) (pad_cons (pd_gref (a := (sy W).ca 0) (g_Amount W)) pad_nil)) (b_isinstance W))) (pb_one (psd_ret (pd_var 0))) pb_nil) (pb_cons (psd_if (pt_notD (pt_plain rfl (pd_call rfl tk hr ((fn_is_integer W).mono (by decide)) (g_is_integer W) (pad_cons (pd_var 0) pad_nil)))) (pb_one (psd_raise rfl rfl tk hr (rs_BadAmount W (by decide)) (g_BadAmount W) (pad_cons pd_str pad_nil))) pb_nil) (pb_one (psd_ret (pd_frz (pd_make rfl tk hr (mk_Amount W (by decide)) (g_Amount W) (pad_cons (pd_var 0) pad_nil)))))))
theorem fn_Amount_of {P : Program} {w : World} {K : PySem.W.Frag} {mg : Str → Option Value} {base : Heap} (W : Wk K mg base) : FnD P w (sy W) mg base 34 (d_Amount_of.at_ K) 1 [] (sp_Amount_of (sy W)) := by
  obtain ⟨fd, F⟩ := W.says.def_ 7 (d := d_Amount_of) rfl
  exact fnD_mk (ps := ["value"]) (S := sy W) F (fnD_of (S := sy W) F sc_Amount_of (len_Amount_of (sy W)) (dv_Amount_of W) (pf_Amount_of (sy W))) fun _ _ _ _ _ _ us hl => match us, hl with | [_], _ => rfl
theorem g_parts_of (W : Wk K mg base) : mg "parts_of" = some (.ref (ga K "parts_of")) := He.glo_ok W.kin W.ns (fa_20 W)
theorem sc_Amount_add : FnScope ["self", "other", "parts"] ["self", "other"] (defScope s_Amount_add) := ⟨rfl, rfl, rfl, by decide +kernel, rfl, by decide +kernel, by decide +kernel⟩
theorem dv_Amount_add {P : Program} {w : World} {K : PySem.W.Frag} {mg : Str → Option Value} {base : Heap} (W : Wk K mg base) : ∀ (cdv : Value) (A : Around) (outer : List Env) (s : Shared) (H : Hp) (E : XK), Room 33 (A.deeper (envOfC d_Amount_add.qual d_Amount_add.scope s.heap.objs.size (d_Amount_add.at_ K) cdv)) →
    Takes (cxOf (L2.CX P w) P w K mg base ["self", "other", "parts"] d_Amount_add.qual d_Amount_add.scope (d_Amount_add.at_ K) cdv A outer s H E) (fun cls d _ H => E cls d H) → PBd (cxOf (L2.CX P w) P w K mg base ["self", "other", "parts"] d_Amount_add.qual d_Amount_add.scope (d_Amount_add.at_ K) cdv A outer s H E) (sy W) (fun cls d _ H => E cls d H) d_Amount_add.body (t_Amount_add (sy W)) :=
  fun cdv A outer s H E hr tk => (pb_cons (psd_set sc_Amount_add.nd (pd_call rfl tk hr ((fn_parts_of W).mono (by decide)) (g_parts_of W) (pad_cons (pd_var 1) pad_nil))) (pb_cons (psd_if (pt_cmpD od_isN (pd_var 2) pd_non (L2.nomark _)) (pb_one psd_never) pb_nil) (pb_one (psd_ret (pd_frz (pd_make rfl tk hr (mk_Amount W (by decide)) (g_Amount W) (pad_cons (pd_op (od_add rfl tk hr OwnOp.none) (pd_op (od_mul rfl tk hr OwnOp.none) (pd_ix (ix_d rfl) (pd_attr rfl hr (ao_parts W rfl rfl rfl rfl (by decide)) rfl (pd_var 0)) pd_int) (pd_ix (ix_d rfl) (pd_var 2) pd_int)) (pd_op (od_mul rfl tk hr OwnOp.none) (pd_ix (ix_d rfl) (pd_var 2) pd_int) (pd_ix (ix_d rfl) (pd_attr rfl hr (ao_parts W rfl rfl rfl rfl (by decide)) rfl (pd_var 0)) pd_int))) (pad_cons (pd_op (od_mul rfl tk hr OwnOp.none) (pd_ix (ix_d rfl) (pd_attr rfl hr (ao_parts W rfl rfl rfl rfl (by decide)) rfl (pd_var 0)) pd_int) (pd_ix (ix_d rfl) (pd_var 2) pd_int)) pad_nil))))))))
theorem fn_Amount_add {P : Program} {w : World} {K : PySem.W.Frag} {mg : Str → Option Value} {base : Heap} (W : Wk K mg base) : FnD P w (sy W) mg base 34 (d_Amount_add.at_ K) 2 [] (sp_Amount_add (sy W)) := by
  obtain ⟨fd, F⟩ := W.says.def_ 8 (d := d_Amount_add) rfl
  exact fnD_mk (ps := ["self", "other"]) (S := sy W) F (fnD_of (S := sy W) F sc_Amount_add (len_Amount_add (sy W)) (dv_Amount_add W) (pf_Amount_add (sy W))) fun _ _ _ _ _ _ us hl => match us, hl with | [_, _], _ => rfl
theorem mt_Amount_add {P : Program} {w : World} {K : PySem.W.Frag} {mg : Str → Option Value} {base : Heap} (W : Wk K mg base) {k : Nat} (h : 34 ≤ k) : MtD P w (sy W) mg base k 0 "__add__" 2 [] (sp_Amount_add (sy W)) := ⟨clsB_ok (fa_11 W), _, methB_ok (fa_21 W), (fn_Amount_add W).mono h⟩
theorem ms_mAdd {P : Program} {w : World} {K : PySem.W.Frag} {mg : Str → Option Value} {base : Heap} (W : Wk K mg base) {k : Nat} (h : 34 ≤ k) : ∀ c, c ∈ (mAdd (sy W)).l → MtD P w (sy W) mg base k c "__add__" ((mAdd (sy W)).n c) ((mAdd (sy W)).dd c) ((mAdd (sy W)).sp c) := fun c hc => by
  rcases List.mem_cons.mp hc with rfl | hc
  · exact mt_Amount_add W (Nat.le_trans (by decide) h)
  exact absurd hc (by simp)
theorem ow_AddL {P : Program} {w : World} {K : PySem.W.Frag} {mg : Str → Option Value} {base : Heap} (W : Wk K mg base) (X : Cx) (hP : X.prog = P) (hw : X.w = w) (hm : X.mg = mg) (hb : X.base = base) {k : Nat} (h : 34 ≤ k) : OwnOp X (sy W) k .Add (mAdd (sy W)) .none := by
  subst hP hw hm hb
  refine ⟨ms_mAdd W (Nat.le_trans (by decide) h), fun c hc => ?_, fun c hc => absurd hc (by simp [Mts.none]), fun c hc => ?_⟩
  · rcases List.mem_cons.mp hc with rfl | hc
    · exact ownFB_ok (S := sy W) (fa_22 W)
    exact absurd hc (by simp)
  · exact absurd hc (by simp [Mts.none])
theorem sc_Amount_radd : FnScope ["self", "other"] ["self", "other"] (defScope s_Amount_radd) := ⟨rfl, rfl, rfl, by decide +kernel, rfl, by decide +kernel, by decide +kernel⟩
theorem dv_Amount_radd {P : Program} {w : World} {K : PySem.W.Frag} {mg : Str → Option Value} {base : Heap} (W : Wk K mg base) : ∀ (cdv : Value) (A : Around) (outer : List Env) (s : Shared) (H : Hp) (E : XK), Room 37 (A.deeper (envOfC d_Amount_radd.qual d_Amount_radd.scope s.heap.objs.size (d_Amount_radd.at_ K) cdv)) →
    Takes (cxOf (L2.CX P w) P w K mg base ["self", "other"] d_Amount_radd.qual d_Amount_radd.scope (d_Amount_radd.at_ K) cdv A outer s H E) (fun cls d _ H => E cls d H) → PBd (cxOf (L2.CX P w) P w K mg base ["self", "other"] d_Amount_radd.qual d_Amount_radd.scope (d_Amount_radd.at_ K) cdv A outer s H E) (sy W) (fun cls d _ H => E cls d H) d_Amount_radd.body (t_Amount_radd (sy W)) :=
  fun cdv A outer s H E hr tk => (pb_one (psd_ret (pd_op (od_add rfl tk hr (ow_AddL W _ rfl rfl rfl rfl (by decide))) (pd_var 0) (pd_var 1))))
theorem fn_Amount_radd {P : Program} {w : World} {K : PySem.W.Frag} {mg : Str → Option Value} {base : Heap} (W : Wk K mg base) : FnD P w (sy W) mg base 38 (d_Amount_radd.at_ K) 2 [] (sp_Amount_radd (sy W)) := by
  obtain ⟨fd, F⟩ := W.says.def_ 9 (d := d_Amount_radd) rfl
  exact fnD_mk (ps := ["self", "other"]) (S := sy W) F (fnD_of (S := sy W) F sc_Amount_radd (len_Amount_radd (sy W)) (dv_Amount_radd W) (pf_Amount_radd (sy W))) fun _ _ _ _ _ _ us hl => match us, hl with | [_, _], _ => rfl
theorem sc_Amount_sub : FnScope ["self", "other", "parts"] ["self", "other"] (defScope s_Amount_sub) := ⟨rfl, rfl, rfl, by decide +kernel, rfl, by decide +kernel, by decide +kernel⟩
theorem dv_Amount_sub {P : Program} {w : World} {K : PySem.W.Frag} {mg : Str → Option Value} {base : Heap} (W : Wk K mg base) : ∀ (cdv : Value) (A : Around) (outer : List Env) (s : Shared) (H : Hp) (E : XK), Room 33 (A.deeper (envOfC d_Amount_sub.qual d_Amount_sub.scope s.heap.objs.size (d_Amount_sub.at_ K) cdv)) →
    Takes (cxOf (L2.CX P w) P w K mg base ["self", "other", "parts"] d_Amount_sub.qual d_Amount_sub.scope (d_Amount_sub.at_ K) cdv A outer s H E) (fun cls d _ H => E cls d H) → PBd (cxOf (L2.CX P w) P w K mg base ["self", "other", "parts"] d_Amount_sub.qual d_Amount_sub.scope (d_Amount_sub.at_ K) cdv A outer s H E) (sy W) (fun cls d _ H => E cls d H) d_Amount_sub.body (t_Amount_sub (sy W)) :=
  fun cdv A outer s H E hr tk => (pb_cons (psd_set sc_Amount_sub.nd (pd_call rfl tk hr ((fn_parts_of W).mono (by decide)) (g_parts_of W) (pad_cons (pd_var 1) pad_nil))) (pb_cons (psd_if (pt_cmpD od_isN (pd_var 2) pd_non (L2.nomark _)) (pb_one psd_never) pb_nil) (pb_one (psd_ret (pd_frz (pd_make rfl tk hr (mk_Amount W (by decide)) (g_Amount W) (pad_cons (pd_op (od_sub rfl tk hr OwnOp.none) (pd_op (od_mul rfl tk hr OwnOp.none) (pd_ix (ix_d rfl) (pd_attr rfl hr (ao_parts W rfl rfl rfl rfl (by decide)) rfl (pd_var 0)) pd_int) (pd_ix (ix_d rfl) (pd_var 2) pd_int)) (pd_op (od_mul rfl tk hr OwnOp.none) (pd_ix (ix_d rfl) (pd_var 2) pd_int) (pd_ix (ix_d rfl) (pd_attr rfl hr (ao_parts W rfl rfl rfl rfl (by decide)) rfl (pd_var 0)) pd_int))) (pad_cons (pd_op (od_mul rfl tk hr OwnOp.none) (pd_ix (ix_d rfl) (pd_attr rfl hr (ao_parts W rfl rfl rfl rfl (by decide)) rfl (pd_var 0)) pd_int) (pd_ix (ix_d rfl) (pd_var 2) pd_int)) pad_nil))))))))
theorem fn_Amount_sub {P : Program} {w : World} {K : PySem.W.Frag} {mg : Str → Option Value} {base : Heap} (W : Wk K mg base) : FnD P w (sy W) mg base 34 (d_Amount_sub.at_ K) 2 [] (sp_Amount_sub (sy W)) := by
  obtain ⟨fd, F⟩ := W.says.def_ 10 (d := d_Amount_sub) rfl
  exact fnD_mk (ps := ["self", "other"]) (S := sy W) F (fnD_of (S := sy W) F sc_Amount_sub (len_Amount_sub (sy W)) (dv_Amount_sub W) (pf_Amount_sub (sy W))) fun _ _ _ _ _ _ us hl => match us, hl with | [_, _], _ => rfl
theorem sc_Amount_neg : FnScope ["self"] ["self"] (defScope s_Amount_neg) := ⟨rfl, rfl, rfl, by decide +kernel, rfl, by decide +kernel, by decide +kernel⟩
theorem dv_Amount_neg {P : Program} {w : World} {K : PySem.W.Frag} {mg : Str → Option Value} {base : Heap} (W : Wk K mg base) : ∀ (cdv : Value) (A : Around) (outer : List Env) (s : Shared) (H : Hp) (E : XK), Room 33 (A.deeper (envOfC d_Amount_neg.qual d_Amount_neg.scope s.heap.objs.size (d_Amount_neg.at_ K) cdv)) →
    Takes (cxOf (L2.CX P w) P w K mg base ["self"] d_Amount_neg.qual d_Amount_neg.scope (d_Amount_neg.at_ K) cdv A outer s H E) (fun cls d _ H => E cls d H) → PBd (cxOf (L2.CX P w) P w K mg base ["self"] d_Amount_neg.qual d_Amount_neg.scope (d_Amount_neg.at_ K) cdv A outer s H E) (sy W) (fun cls d _ H => E cls d H) d_Amount_neg.body (t_Amount_neg (sy W)) :=
  fun cdv A outer s H E hr tk => (pb_one (psd_ret (pd_frz (pd_make rfl tk hr (mk_Amount W (by decide)) (g_Amount W) (pad_cons (pd_neg (pd_ix (ix_d rfl) (pd_attr rfl hr (ao_parts W rfl rfl rfl rfl (by decide)) rfl (pd_var 0)) pd_int)) (pad_cons (pd_ix (ix_d rfl) (pd_attr rfl hr (ao_parts W rfl rfl rfl rfl (by decide)) rfl (pd_var 0)) pd_int) pad_nil))))))
theorem fn_Amount_neg {P : Program} {w : World} {K : PySem.W.Frag} {mg : Str → Option Value} {base : Heap} (W : Wk K mg base) : FnD P w (sy W) mg base 34 (d_Amount_neg.at_ K) 1 [] (sp_Amount_neg (sy W)) := by
  obtain ⟨fd, F⟩ := W.says.def_ 11 (d := d_Amount_neg) rfl
  exact fnD_mk (ps := ["self"]) (S := sy W) F (fnD_of (S := sy W) F sc_Amount_neg (len_Amount_neg (sy W)) (dv_Amount_neg W) (pf_Amount_neg (sy W))) fun _ _ _ _ _ _ us hl => match us, hl with | [_], _ => rfl
theorem mt_Amount_neg {P : Program} {w : World} {K : PySem.W.Frag} {mg : Str → Option Value} {base : Heap} (W : Wk K mg base) {k : Nat} (h : 34 ≤ k) : MtD P w (sy W) mg base k 0 "__neg__" 1 [] (sp_Amount_neg (sy W)) := ⟨clsB_ok (fa_11 W), _, methB_ok (fa_23 W), (fn_Amount_neg W).mono h⟩
theorem ms_mNeg {P : Program} {w : World} {K : PySem.W.Frag} {mg : Str → Option Value} {base : Heap} (W : Wk K mg base) {k : Nat} (h : 34 ≤ k) : ∀ c, c ∈ (mNeg (sy W)).l → MtD P w (sy W) mg base k c "__neg__" ((mNeg (sy W)).n c) ((mNeg (sy W)).dd c) ((mNeg (sy W)).sp c) := fun c hc => by
  rcases List.mem_cons.mp hc with rfl | hc
  · exact mt_Amount_neg W (Nat.le_trans (by decide) h)
  exact absurd hc (by simp)
theorem mo_neg {P : Program} {w : World} {K : PySem.W.Frag} {mg : Str → Option Value} {base : Heap} (W : Wk K mg base) {k : Nat} (h : 34 ≤ k) : ∀ c, c ∈ (mNeg (sy W)).l → MtD P w (sy W) mg base k c "__neg__" ((mNeg (sy W)).n c) ((mNeg (sy W)).dd c) ((mNeg (sy W)).sp c) := ms_mNeg W h
theorem sc_Amount_rsub : FnScope ["self", "other"] ["self", "other"] (defScope s_Amount_rsub) := ⟨rfl, rfl, rfl, by decide +kernel, rfl, by decide +kernel, by decide +kernel⟩
theorem dv_Amount_rsub {P : Program} {w : World} {K : PySem.W.Frag} {mg : Str → Option Value} {base : Heap} (W : Wk K mg base) : ∀ (cdv : Value) (A : Around) (outer : List Env) (s : Shared) (H : Hp) (E : XK), Room 37 (A.deeper (envOfC d_Amount_rsub.qual d_Amount_rsub.scope s.heap.objs.size (d_Amount_rsub.at_ K) cdv)) →
    Takes (cxOf (L2.CX P w) P w K mg base ["self", "other"] d_Amount_rsub.qual d_Amount_rsub.scope (d_Amount_rsub.at_ K) cdv A outer s H E) (fun cls d _ H => E cls d H) → PBd (cxOf (L2.CX P w) P w K mg base ["self", "other"] d_Amount_rsub.qual d_Amount_rsub.scope (d_Amount_rsub.at_ K) cdv A outer s H E) (sy W) (fun cls d _ H => E cls d H) d_Amount_rsub.body (t_Amount_rsub (sy W)) :=
  fun cdv A outer s H E hr tk => (pb_one (psd_ret (pd_op (od_add rfl tk hr (ow_AddL W _ rfl rfl rfl rfl (by decide))) (pd_negD rfl tk hr (mo_neg W (by decide)) (pd_var 0)) (pd_var 1))))
theorem fn_Amount_rsub {P : Program} {w : World} {K : PySem.W.Frag} {mg : Str → Option Value} {base : Heap} (W : Wk K mg base) : FnD P w (sy W) mg base 38 (d_Amount_rsub.at_ K) 2 [] (sp_Amount_rsub (sy W)) := by
  obtain ⟨fd, F⟩ := W.says.def_ 12 (d := d_Amount_rsub) rfl
  exact fnD_mk (ps := ["self", "other"]) (S := sy W) F (fnD_of (S := sy W) F sc_Amount_rsub (len_Amount_rsub (sy W)) (dv_Amount_rsub W) (pf_Amount_rsub (sy W))) fun _ _ _ _ _ _ us hl => match us, hl with | [_, _], _ => rfl
theorem sc_Amount_mul : FnScope ["self", "other", "parts"] ["self", "other"] (defScope s_Amount_mul) := ⟨rfl, rfl, rfl, by decide +kernel, rfl, by decide +kernel, by decide +kernel⟩
theorem dv_Amount_mul {P : Program} {w : World} {K : PySem.W.Frag} {mg : Str → Option Value} {base : Heap} (W : Wk K mg base) : ∀ (cdv : Value) (A : Around) (outer : List Env) (s : Shared) (H : Hp) (E : XK), Room 33 (A.deeper (envOfC d_Amount_mul.qual d_Amount_mul.scope s.heap.objs.size (d_Amount_mul.at_ K) cdv)) →
    Takes (cxOf (L2.CX P w) P w K mg base ["self", "other", "parts"] d_Amount_mul.qual d_Amount_mul.scope (d_Amount_mul.at_ K) cdv A outer s H E) (fun cls d _ H => E cls d H) → PBd (cxOf (L2.CX P w) P w K mg base ["self", "other", "parts"] d_Amount_mul.qual d_Amount_mul.scope (d_Amount_mul.at_ K) cdv A outer s H E) (sy W) (fun cls d _ H => E cls d H) d_Amount_mul.body (t_Amount_mul (sy W)) :=
  fun cdv A outer s H E hr tk => (pb_cons (psd_set sc_Amount_mul.nd (pd_call rfl tk hr ((fn_parts_of W).mono (by decide)) (g_parts_of W) (pad_cons (pd_var 1) pad_nil))) (pb_cons (psd_if (pt_cmpD od_isN (pd_var 2) pd_non (L2.nomark _)) (pb_one psd_never) pb_nil) (pb_one (psd_ret (pd_frz (pd_make rfl tk hr (mk_Amount W (by decide)) (g_Amount W) (pad_cons (pd_op (od_mul rfl tk hr OwnOp.none) (pd_ix (ix_d rfl) (pd_attr rfl hr (ao_parts W rfl rfl rfl rfl (by decide)) rfl (pd_var 0)) pd_int) (pd_ix (ix_d rfl) (pd_var 2) pd_int)) (pad_cons (pd_op (od_mul rfl tk hr OwnOp.none) (pd_ix (ix_d rfl) (pd_attr rfl hr (ao_parts W rfl rfl rfl rfl (by decide)) rfl (pd_var 0)) pd_int) (pd_ix (ix_d rfl) (pd_var 2) pd_int)) pad_nil))))))))
theorem fn_Amount_mul {P : Program} {w : World} {K : PySem.W.Frag} {mg : Str → Option Value} {base : Heap} (W : Wk K mg base) : FnD P w (sy W) mg base 34 (d_Amount_mul.at_ K) 2 [] (sp_Amount_mul (sy W)) := by
  obtain ⟨fd, F⟩ := W.says.def_ 13 (d := d_Amount_mul) rfl
  exact fnD_mk (ps := ["self", "other"]) (S := sy W) F (fnD_of (S := sy W) F sc_Amount_mul (len_Amount_mul (sy W)) (dv_Amount_mul W) (pf_Amount_mul (sy W))) fun _ _ _ _ _ _ us hl => match us, hl with | [_, _], _ => rfl
theorem mt_Amount_mul {P : Program} {w : World} {K : PySem.W.Frag} {mg : Str → Option Value} {base : Heap} (W : Wk K mg base) {k : Nat} (h : 34 ≤ k) : MtD P w (sy W) mg base k 0 "__mul__" 2 [] (sp_Amount_mul (sy W)) := ⟨clsB_ok (fa_11 W), _, methB_ok (fa_24 W), (fn_Amount_mul W).mono h⟩
theorem ms_mMul {P : Program} {w : World} {K : PySem.W.Frag} {mg : Str → Option Value} {base : Heap} (W : Wk K mg base) {k : Nat} (h : 34 ≤ k) : ∀ c, c ∈ (mMul (sy W)).l → MtD P w (sy W) mg base k c "__mul__" ((mMul (sy W)).n c) ((mMul (sy W)).dd c) ((mMul (sy W)).sp c) := fun c hc => by
  rcases List.mem_cons.mp hc with rfl | hc
  · exact mt_Amount_mul W (Nat.le_trans (by decide) h)
  exact absurd hc (by simp)
theorem ow_MultL {P : Program} {w : World} {K : PySem.W.Frag} {mg : Str → Option Value} {base : Heap} (W : Wk K mg base) (X : Cx) (hP : X.prog = P) (hw : X.w = w) (hm : X.mg = mg) (hb : X.base = base) {k : Nat} (h : 34 ≤ k) : OwnOp X (sy W) k .Mult (mMul (sy W)) .none := by
  subst hP hw hm hb
  refine ⟨ms_mMul W (Nat.le_trans (by decide) h), fun c hc => ?_, fun c hc => absurd hc (by simp [Mts.none]), fun c hc => ?_⟩
  · rcases List.mem_cons.mp hc with rfl | hc
    · exact ownFB_ok (S := sy W) (fa_25 W)
    exact absurd hc (by simp)
  · exact absurd hc (by simp [Mts.none])
theorem sc_Amount_rmul : FnScope ["self", "other"] ["self", "other"] (defScope s_Amount_rmul) := ⟨rfl, rfl, rfl, by decide +kernel, rfl, by decide +kernel, by decide +kernel⟩
theorem dv_Amount_rmul {P : Program} {w : World} {K : PySem.W.Frag} {mg : Str → Option Value} {base : Heap} (W : Wk K mg base) : ∀ (cdv : Value) (A : Around) (outer : List Env) (s : Shared) (H : Hp) (E : XK), Room 37 (A.deeper (envOfC d_Amount_rmul.qual d_Amount_rmul.scope s.heap.objs.size (d_Amount_rmul.at_ K) cdv)) →
    Takes (cxOf (L2.CX P w) P w K mg base ["self", "other"] d_Amount_rmul.qual d_Amount_rmul.scope (d_Amount_rmul.at_ K) cdv A outer s H E) (fun cls d _ H => E cls d H) → PBd (cxOf (L2.CX P w) P w K mg base ["self", "other"] d_Amount_rmul.qual d_Amount_rmul.scope (d_Amount_rmul.at_ K) cdv A outer s H E) (sy W) (fun cls d _ H => E cls d H) d_Amount_rmul.body (t_Amount_rmul (sy W)) :=
  fun cdv A outer s H E hr tk => (pb_one (psd_ret (pd_op (od_mul rfl tk hr (ow_MultL W _ rfl rfl rfl rfl (by decide))) (pd_var 0) (pd_var 1))))
theorem fn_Amount_rmul {P : Program} {w : World} {K : PySem.W.Frag} {mg : Str → Option Value} {base : Heap} (W : Wk K mg base) : FnD P w (sy W) mg base 38 (d_Amount_rmul.at_ K) 2 [] (sp_Amount_rmul (sy W)) := by
  obtain ⟨fd, F⟩ := W.says.def_ 14 (d := d_Amount_rmul) rfl
  exact fnD_mk (ps := ["self", "other"]) (S := sy W) F (fnD_of (S := sy W) F sc_Amount_rmul (len_Amount_rmul (sy W)) (dv_Amount_rmul W) (pf_Amount_rmul (sy W))) fun _ _ _ _ _ _ us hl => match us, hl with | [_, _], _ => rfl
theorem sc_Amount_abs : FnScope ["self"] ["self"] (defScope s_Amount_abs) := ⟨rfl, rfl, rfl, by decide +kernel, rfl, by decide +kernel, by decide +kernel⟩
theorem dv_Amount_abs {P : Program} {w : World} {K : PySem.W.Frag} {mg : Str → Option Value} {base : Heap} (W : Wk K mg base) : ∀ (cdv : Value) (A : Around) (outer : List Env) (s : Shared) (H : Hp) (E : XK), Room 33 (A.deeper (envOfC d_Amount_abs.qual d_Amount_abs.scope s.heap.objs.size (d_Amount_abs.at_ K) cdv)) →
    Takes (cxOf (L2.CX P w) P w K mg base ["self"] d_Amount_abs.qual d_Amount_abs.scope (d_Amount_abs.at_ K) cdv A outer s H E) (fun cls d _ H => E cls d H) → PBd (cxOf (L2.CX P w) P w K mg base ["self"] d_Amount_abs.qual d_Amount_abs.scope (d_Amount_abs.at_ K) cdv A outer s H E) (sy W) (fun cls d _ H => E cls d H) d_Amount_abs.body (t_Amount_abs (sy W)) :=
  fun cdv A outer s H E hr tk => (pb_one (psd_ret (pd_frz (pd_make rfl tk hr (mk_Amount W (by decide)) (g_Amount W) (pad_cons (pd_callB cl_abs (pad_cons (pd_ix (ix_d rfl) (pd_attr rfl hr (ao_parts W rfl rfl rfl rfl (by decide)) rfl (pd_var 0)) pd_int) pad_nil) (b_abs W)) (pad_cons (pd_ix (ix_d rfl) (pd_attr rfl hr (ao_parts W rfl rfl rfl rfl (by decide)) rfl (pd_var 0)) pd_int) pad_nil))))))
theorem fn_Amount_abs {P : Program} {w : World} {K : PySem.W.Frag} {mg : Str → Option Value} {base : Heap} (W : Wk K mg base) : FnD P w (sy W) mg base 34 (d_Amount_abs.at_ K) 1 [] (sp_Amount_abs (sy W)) := by
  obtain ⟨fd, F⟩ := W.says.def_ 15 (d := d_Amount_abs) rfl
  exact fnD_mk (ps := ["self"]) (S := sy W) F (fnD_of (S := sy W) F sc_Amount_abs (len_Amount_abs (sy W)) (dv_Amount_abs W) (pf_Amount_abs (sy W))) fun _ _ _ _ _ _ us hl => match us, hl with | [_], _ => rfl
theorem sc_times_of : FnScope ["parts", "other"] ["parts", "other"] (defScope s_times_of) := ⟨rfl, rfl, rfl, by decide +kernel, rfl, by decide +kernel, by decide +kernel⟩
theorem dv_times_of {P : Program} {w : World} {K : PySem.W.Frag} {mg : Str → Option Value} {base : Heap} (W : Wk K mg base) : ∀ (cdv : Value) (A : Around) (outer : List Env) (s : Shared) (H : Hp) (E : XK), Room 3 (A.deeper (envOfC d_times_of.qual d_times_of.scope s.heap.objs.size (d_times_of.at_ K) cdv)) →
    Takes (cxOf (L2.CX P w) P w K mg base ["parts", "other"] d_times_of.qual d_times_of.scope (d_times_of.at_ K) cdv A outer s H E) (fun cls d _ H => E cls d H) → PBd (cxOf (L2.CX P w) P w K mg base ["parts", "other"] d_times_of.qual d_times_of.scope (d_times_of.at_ K) cdv A outer s H E) (sy W) (fun cls d _ H => E cls d H) d_times_of.body (t_times_of (sy W)) :=
  fun cdv A outer s H E hr tk => (pb_cons (psd_if (pt_cmpD (od_le rfl tk hr OwnCm.none) (pd_ix (ix_d rfl) (pd_var 1) pd_int) pd_int (L2.nomark _)) (pb_one (psd_raise rfl rfl tk hr (rs_BadAmount W (by decide)) (g_BadAmount W) (pad_cons pd_str pad_nil))) pb_nil) (pb_one (psd_ret (pd_op (od_fdiv rfl tk hr OwnOp.none) (pd_op (od_mul rfl tk hr OwnOp.none) (pd_ix (ix_d rfl) (pd_var 0) pd_int) (pd_ix (ix_d rfl) (pd_var 1) pd_int)) (pd_op (od_mul rfl tk hr OwnOp.none) (pd_ix (ix_d rfl) (pd_var 0) pd_int) (pd_ix (ix_d rfl) (pd_var 1) pd_int))))))
theorem fn_times_of {P : Program} {w : World} {K : PySem.W.Frag} {mg : Str → Option Value} {base : Heap} (W : Wk K mg base) : FnD P w (sy W) mg base 4 (d_times_of.at_ K) 2 [] (sp_times_of (sy W)) := by
  obtain ⟨fd, F⟩ := W.says.def_ 16 (d := d_times_of) rfl
  exact fnD_mk (ps := ["parts", "other"]) (S := sy W) F (fnD_of (S := sy W) F sc_times_of (len_times_of (sy W)) (dv_times_of W) (pf_times_of (sy W))) fun _ _ _ _ _ _ us hl => match us, hl with | [_, _], _ => rfl
theorem g_times_of (W : Wk K mg base) : mg "times_of" = some (.ref (ga K "times_of")) := He.glo_ok W.kin W.ns (fa_26 W)
theorem sc_Amount_floordiv : FnScope ["self", "other"] ["self", "other"] (defScope s_Amount_floordiv) := ⟨rfl, rfl, rfl, by decide +kernel, rfl, by decide +kernel, by decide +kernel⟩
theorem dv_Amount_floordiv {P : Program} {w : World} {K : PySem.W.Frag} {mg : Str → Option Value} {base : Heap} (W : Wk K mg base) : ∀ (cdv : Value) (A : Around) (outer : List Env) (s : Shared) (H : Hp) (E : XK), Room 11 (A.deeper (envOfC d_Amount_floordiv.qual d_Amount_floordiv.scope s.heap.objs.size (d_Amount_floordiv.at_ K) cdv)) →
    Takes (cxOf (L2.CX P w) P w K mg base ["self", "other"] d_Amount_floordiv.qual d_Amount_floordiv.scope (d_Amount_floordiv.at_ K) cdv A outer s H E) (fun cls d _ H => E cls d H) → PBd (cxOf (L2.CX P w) P w K mg base ["self", "other"] d_Amount_floordiv.qual d_Amount_floordiv.scope (d_Amount_floordiv.at_ K) cdv A outer s H E) (sy W) (fun cls d _ H => E cls d H) d_Amount_floordiv.body (t_Amount_floordiv (sy W)) :=
  fun cdv A outer s H E hr tk => (pb_one (psd_ret (pd_call rfl tk hr ((fn_times_of W).mono (by decide)) (g_times_of W) (pad_cons (pd_attr rfl hr (ao_parts W rfl rfl rfl rfl (by decide)) rfl (pd_var 0)) (pad_cons (pd_call rfl tk hr ((fn_parts_of W).mono (by decide)) (g_parts_of W) (pad_cons (pd_var 1) pad_nil)) pad_nil)))))
theorem fn_Amount_floordiv {P : Program} {w : World} {K : PySem.W.Frag} {mg : Str → Option Value} {base : Heap} (W : Wk K mg base) : FnD P w (sy W) mg base 12 (d_Amount_floordiv.at_ K) 2 [] (sp_Amount_floordiv (sy W)) := by
  obtain ⟨fd, F⟩ := W.says.def_ 17 (d := d_Amount_floordiv) rfl
  exact fnD_mk (ps := ["self", "other"]) (S := sy W) F (fnD_of (S := sy W) F sc_Amount_floordiv (len_Amount_floordiv (sy W)) (dv_Amount_floordiv W) (pf_Amount_floordiv (sy W))) fun _ _ _ _ _ _ us hl => match us, hl with | [_, _], _ => rfl
theorem sc_Amount_mod : FnScope ["self", "other", "parts", "times"] ["self", "other"] (defScope s_Amount_mod) := ⟨rfl, rfl, rfl, by decide +kernel, rfl, by decide +kernel, by decide +kernel⟩
theorem dv_Amount_mod {P : Program} {w : World} {K : PySem.W.Frag} {mg : Str → Option Value} {base : Heap} (W : Wk K mg base) : ∀ (cdv : Value) (A : Around) (outer : List Env) (s : Shared) (H : Hp) (E : XK), Room 33 (A.deeper (envOfC d_Amount_mod.qual d_Amount_mod.scope s.heap.objs.size (d_Amount_mod.at_ K) cdv)) →
    Takes (cxOf (L2.CX P w) P w K mg base ["self", "other", "parts", "times"] d_Amount_mod.qual d_Amount_mod.scope (d_Amount_mod.at_ K) cdv A outer s H E) (fun cls d _ H => E cls d H) → PBd (cxOf (L2.CX P w) P w K mg base ["self", "other", "parts", "times"] d_Amount_mod.qual d_Amount_mod.scope (d_Amount_mod.at_ K) cdv A outer s H E) (sy W) (fun cls d _ H => E cls d H) d_Amount_mod.body (t_Amount_mod (sy W)) :=
  fun cdv A outer s H E hr tk => (pb_cons (psd_set sc_Amount_mod.nd (pd_call rfl tk hr ((fn_parts_of W).mono (by decide)) (g_parts_of W) (pad_cons (pd_var 1) pad_nil))) (pb_cons (psd_set sc_Amount_mod.nd (pd_call rfl tk hr ((fn_times_of W).mono (by decide)) (g_times_of W) (pad_cons (pd_attr rfl hr (ao_parts W rfl rfl rfl rfl (by decide)) rfl (pd_var 0)) (pad_cons (pd_var 2) pad_nil)))) (pb_one (psd_ret (pd_frz (pd_make rfl tk hr (mk_Amount W (by decide)) (g_Amount W) (pad_cons (pd_op (od_sub rfl tk hr OwnOp.none) (pd_op (od_mul rfl tk hr OwnOp.none) (pd_ix (ix_d rfl) (pd_attr rfl hr (ao_parts W rfl rfl rfl rfl (by decide)) rfl (pd_var 0)) pd_int) (pd_ix (ix_d rfl) (pd_var 2) pd_int)) (pd_op (od_mul rfl tk hr OwnOp.none) (pd_op (od_mul rfl tk hr OwnOp.none) (pd_var 3) (pd_ix (ix_d rfl) (pd_var 2) pd_int)) (pd_ix (ix_d rfl) (pd_attr rfl hr (ao_parts W rfl rfl rfl rfl (by decide)) rfl (pd_var 0)) pd_int))) (pad_cons (pd_op (od_mul rfl tk hr OwnOp.none) (pd_ix (ix_d rfl) (pd_attr rfl hr (ao_parts W rfl rfl rfl rfl (by decide)) rfl (pd_var 0)) pd_int) (pd_ix (ix_d rfl) (pd_var 2) pd_int)) pad_nil))))))))
theorem fn_Amount_mod {P : Program} {w : World} {K : PySem.W.Frag} {mg : Str → Option Value} {base : Heap} (W : Wk K mg base) : FnD P w (sy W) mg base 34 (d_Amount_mod.at_ K) 2 [] (sp_Amount_mod (sy W)) := by
  obtain ⟨fd, F⟩ := W.says.def_ 18 (d := d_Amount_mod) rfl
  exact fnD_mk (ps := ["self", "other"]) (S := sy W) F (fnD_of (S := sy W) F sc_Amount_mod (len_Amount_mod (sy W)) (dv_Amount_mod W) (pf_Amount_mod (sy W))) fun _ _ _ _ _ _ us hl => match us, hl with | [_, _], _ => rfl
theorem sc_Amount_bool : FnScope ["self"] ["self"] (defScope s_Amount_bool) := ⟨rfl, rfl, rfl, by decide +kernel, rfl, by decide +kernel, by decide +kernel⟩
theorem dv_Amount_bool {P : Program} {w : World} {K : PySem.W.Frag} {mg : Str → Option Value} {base : Heap} (W : Wk K mg base) : ∀ (cdv : Value) (A : Around) (outer : List Env) (s : Shared) (H : Hp) (E : XK), Room 12 (A.deeper (envOfC d_Amount_bool.qual d_Amount_bool.scope s.heap.objs.size (d_Amount_bool.at_ K) cdv)) →
    Takes (cxOf (L2.CX P w) P w K mg base ["self"] d_Amount_bool.qual d_Amount_bool.scope (d_Amount_bool.at_ K) cdv A outer s H E) (fun cls d _ H => E cls d H) → PBd (cxOf (L2.CX P w) P w K mg base ["self"] d_Amount_bool.qual d_Amount_bool.scope (d_Amount_bool.at_ K) cdv A outer s H E) (sy W) (fun cls d _ H => E cls d H) d_Amount_bool.body (t_Amount_bool (sy W)) :=
  fun cdv A outer s H E hr tk => (pb_one (psd_ret (pd_callTy cl_bool (pad_cons (pd_cmp (od_ne (eqo_qN W _ rfl rfl rfl rfl rfl) hr (by decide)) (pd_ix (ix_d rfl) (pd_attr rfl hr (ao_parts W rfl rfl rfl rfl (by decide)) rfl (pd_var 0)) pd_int) pd_int (L2.nomark _)) pad_nil) (b_bool W))))
theorem fn_Amount_bool {P : Program} {w : World} {K : PySem.W.Frag} {mg : Str → Option Value} {base : Heap} (W : Wk K mg base) : FnD P w (sy W) mg base 13 (d_Amount_bool.at_ K) 1 [] (sp_Amount_bool (sy W)) := by
  obtain ⟨fd, F⟩ := W.says.def_ 19 (d := d_Amount_bool) rfl
  exact fnD_mk (ps := ["self"]) (S := sy W) F (fnD_of (S := sy W) F sc_Amount_bool (len_Amount_bool (sy W)) (dv_Amount_bool W) (pf_Amount_bool (sy W))) fun _ _ _ _ _ _ us hl => match us, hl with | [_], _ => rfl
theorem sc_Amount_eq : FnScope ["self", "other"] ["self", "other"] (defScope s_Amount_eq) := ⟨rfl, rfl, rfl, by decide +kernel, rfl, by decide +kernel, by decide +kernel⟩
theorem dv_Amount_eq {P : Program} {w : World} {K : PySem.W.Frag} {mg : Str → Option Value} {base : Heap} (W : Wk K mg base) : ∀ (cdv : Value) (A : Around) (outer : List Env) (s : Shared) (H : Hp) (E : XK), Room 20 (A.deeper (envOfC d_Amount_eq.qual d_Amount_eq.scope s.heap.objs.size (d_Amount_eq.at_ K) cdv)) →
    Takes (cxOf (L2.CX P w) P w K mg base ["self", "other"] d_Amount_eq.qual d_Amount_eq.scope (d_Amount_eq.at_ K) cdv A outer s H E) (fun cls d _ H => E cls d H) → PBd (cxOf (L2.CX P w) P w K mg base ["self", "other"] d_Amount_eq.qual d_Amount_eq.scope (d_Amount_eq.at_ K) cdv A outer s H E) (sy W) (fun cls d _ H => E cls d H) d_Amount_eq.body (t_Amount_eq (sy W)) :=
  fun cdv A outer s H E hr tk => (pb_one (psd_ret (pd_cmp (od_eq (eqo_qN W _ rfl rfl rfl rfl rfl) hr (by decide)) (pd_call rfl tk hr ((fn_parts_of W).mono (by decide)) (g_parts_of W) (pad_cons (pd_var 1) pad_nil)) (pd_attr rfl hr (ao_parts W rfl rfl rfl rfl (by decide)) rfl (pd_var 0)) (L2.nomark _))))
theorem fn_Amount_eq {P : Program} {w : World} {K : PySem.W.Frag} {mg : Str → Option Value} {base : Heap} (W : Wk K mg base) : FnD P w (sy W) mg base 21 (d_Amount_eq.at_ K) 2 [] (sp_Amount_eq (sy W)) := by
  obtain ⟨fd, F⟩ := W.says.def_ 20 (d := d_Amount_eq) rfl
  exact fnD_mk (ps := ["self", "other"]) (S := sy W) F (fnD_of (S := sy W) F sc_Amount_eq (len_Amount_eq (sy W)) (dv_Amount_eq W) (pf_Amount_eq (sy W))) fun _ _ _ _ _ _ us hl => match us, hl with | [_, _], _ => rfl
theorem sc_Amount_lt : FnScope ["self", "other", "parts"] ["self", "other"] (defScope s_Amount_lt) := ⟨rfl, rfl, rfl, by decide +kernel, rfl, by decide +kernel, by decide +kernel⟩
theorem dv_Amount_lt {P : Program} {w : World} {K : PySem.W.Frag} {mg : Str → Option Value} {base : Heap} (W : Wk K mg base) : ∀ (cdv : Value) (A : Around) (outer : List Env) (s : Shared) (H : Hp) (E : XK), Room 11 (A.deeper (envOfC d_Amount_lt.qual d_Amount_lt.scope s.heap.objs.size (d_Amount_lt.at_ K) cdv)) →
    Takes (cxOf (L2.CX P w) P w K mg base ["self", "other", "parts"] d_Amount_lt.qual d_Amount_lt.scope (d_Amount_lt.at_ K) cdv A outer s H E) (fun cls d _ H => E cls d H) → PBd (cxOf (L2.CX P w) P w K mg base ["self", "other", "parts"] d_Amount_lt.qual d_Amount_lt.scope (d_Amount_lt.at_ K) cdv A outer s H E) (sy W) (fun cls d _ H => E cls d H) d_Amount_lt.body (t_Amount_lt (sy W)) :=
  fun cdv A outer s H E hr tk => (pb_cons (psd_set sc_Amount_lt.nd (pd_call rfl tk hr ((fn_parts_of W).mono (by decide)) (g_parts_of W) (pad_cons (pd_var 1) pad_nil))) (pb_cons (psd_if (pt_cmpD od_isN (pd_var 2) pd_non (L2.nomark _)) (pb_one psd_never) pb_nil) (pb_one (psd_ret (pd_cmp (od_lt rfl tk hr OwnCm.none) (pd_op (od_mul rfl tk hr OwnOp.none) (pd_ix (ix_d rfl) (pd_attr rfl hr (ao_parts W rfl rfl rfl rfl (by decide)) rfl (pd_var 0)) pd_int) (pd_ix (ix_d rfl) (pd_var 2) pd_int)) (pd_op (od_mul rfl tk hr OwnOp.none) (pd_ix (ix_d rfl) (pd_var 2) pd_int) (pd_ix (ix_d rfl) (pd_attr rfl hr (ao_parts W rfl rfl rfl rfl (by decide)) rfl (pd_var 0)) pd_int)) (L2.nomark _))))))
theorem fn_Amount_lt {P : Program} {w : World} {K : PySem.W.Frag} {mg : Str → Option Value} {base : Heap} (W : Wk K mg base) : FnD P w (sy W) mg base 12 (d_Amount_lt.at_ K) 2 [] (sp_Amount_lt (sy W)) := by
  obtain ⟨fd, F⟩ := W.says.def_ 21 (d := d_Amount_lt) rfl
  exact fnD_mk (ps := ["self", "other"]) (S := sy W) F (fnD_of (S := sy W) F sc_Amount_lt (len_Amount_lt (sy W)) (dv_Amount_lt W) (pf_Amount_lt (sy W))) fun _ _ _ _ _ _ us hl => match us, hl with | [_, _], _ => rfl
theorem sc_Amount_gt : FnScope ["self", "other", "parts"] ["self", "other"] (defScope s_Amount_gt) := ⟨rfl, rfl, rfl, by decide +kernel, rfl, by decide +kernel, by decide +kernel⟩
theorem dv_Amount_gt {P : Program} {w : World} {K : PySem.W.Frag} {mg : Str → Option Value} {base : Heap} (W : Wk K mg base) : ∀ (cdv : Value) (A : Around) (outer : List Env) (s : Shared) (H : Hp) (E : XK), Room 11 (A.deeper (envOfC d_Amount_gt.qual d_Amount_gt.scope s.heap.objs.size (d_Amount_gt.at_ K) cdv)) →
    Takes (cxOf (L2.CX P w) P w K mg base ["self", "other", "parts"] d_Amount_gt.qual d_Amount_gt.scope (d_Amount_gt.at_ K) cdv A outer s H E) (fun cls d _ H => E cls d H) → PBd (cxOf (L2.CX P w) P w K mg base ["self", "other", "parts"] d_Amount_gt.qual d_Amount_gt.scope (d_Amount_gt.at_ K) cdv A outer s H E) (sy W) (fun cls d _ H => E cls d H) d_Amount_gt.body (t_Amount_gt (sy W)) :=
  fun cdv A outer s H E hr tk => (pb_cons (psd_set sc_Amount_gt.nd (pd_call rfl tk hr ((fn_parts_of W).mono (by decide)) (g_parts_of W) (pad_cons (pd_var 1) pad_nil))) (pb_cons (psd_if (pt_cmpD od_isN (pd_var 2) pd_non (L2.nomark _)) (pb_one psd_never) pb_nil) (pb_one (psd_ret (pd_cmp (od_gt rfl tk hr OwnCm.none) (pd_op (od_mul rfl tk hr OwnOp.none) (pd_ix (ix_d rfl) (pd_attr rfl hr (ao_parts W rfl rfl rfl rfl (by decide)) rfl (pd_var 0)) pd_int) (pd_ix (ix_d rfl) (pd_var 2) pd_int)) (pd_op (od_mul rfl tk hr OwnOp.none) (pd_ix (ix_d rfl) (pd_var 2) pd_int) (pd_ix (ix_d rfl) (pd_attr rfl hr (ao_parts W rfl rfl rfl rfl (by decide)) rfl (pd_var 0)) pd_int)) (L2.nomark _))))))
theorem fn_Amount_gt {P : Program} {w : World} {K : PySem.W.Frag} {mg : Str → Option Value} {base : Heap} (W : Wk K mg base) : FnD P w (sy W) mg base 12 (d_Amount_gt.at_ K) 2 [] (sp_Amount_gt (sy W)) := by
  obtain ⟨fd, F⟩ := W.says.def_ 22 (d := d_Amount_gt) rfl
  exact fnD_mk (ps := ["self", "other"]) (S := sy W) F (fnD_of (S := sy W) F sc_Amount_gt (len_Amount_gt (sy W)) (dv_Amount_gt W) (pf_Amount_gt (sy W))) fun _ _ _ _ _ _ us hl => match us, hl with | [_, _], _ => rfl
theorem sc_Amount_str : FnScope ["self"] ["self"] (defScope s_Amount_str) := ⟨rfl, rfl, rfl, by decide +kernel, rfl, by decide +kernel, by decide +kernel⟩
theorem dv_Amount_str {P : Program} {w : World} {K : PySem.W.Frag} {mg : Str → Option Value} {base : Heap} (W : Wk K mg base) : ∀ (cdv : Value) (A : Around) (outer : List Env) (s : Shared) (H : Hp) (E : XK), Room 12 (A.deeper (envOfC d_Amount_str.qual d_Amount_str.scope s.heap.objs.size (d_Amount_str.at_ K) cdv)) →
    Takes (cxOf (L2.CX P w) P w K mg base ["self"] d_Amount_str.qual d_Amount_str.scope (d_Amount_str.at_ K) cdv A outer s H E) (fun cls d _ H => E cls d H) → PBd (cxOf (L2.CX P w) P w K mg base ["self"] d_Amount_str.qual d_Amount_str.scope (d_Amount_str.at_ K) cdv A outer s H E) (sy W) (fun cls d _ H => E cls d H) d_Amount_str.body (t_Amount_str (sy W)) :=
  fun cdv A outer s H E hr tk => (pb_cons (psd_if (pt_cmpD (od_eq (eqo_qN W _ rfl rfl rfl rfl rfl) hr (by decide)) (pd_ix (ix_d rfl) (pd_attr rfl hr (ao_parts W rfl rfl rfl rfl (by decide)) rfl (pd_var 0)) pd_int) pd_int (L2.nomark _)) (pb_one (psd_ret (pd_joined1 (pd_fmt (pd_ix (ix_d rfl) (pd_attr rfl hr (ao_parts W rfl rfl rfl rfl (by decide)) rfl (pd_var 0)) pd_int))))) pb_nil) (pb_one (psd_ret (pd_joined (.cons (pd_fmt (pd_ix (ix_d rfl) (pd_attr rfl hr (ao_parts W rfl rfl rfl rfl (by decide)) rfl (pd_var 0)) pd_int)) (.cons pd_str (.cons (pd_fmt (pd_ix (ix_d rfl) (pd_attr rfl hr (ao_parts W rfl rfl rfl rfl (by decide)) rfl (pd_var 0)) pd_int)) .nil)))))))
theorem fn_Amount_str {P : Program} {w : World} {K : PySem.W.Frag} {mg : Str → Option Value} {base : Heap} (W : Wk K mg base) : FnD P w (sy W) mg base 13 (d_Amount_str.at_ K) 1 [] (sp_Amount_str (sy W)) := by
  obtain ⟨fd, F⟩ := W.says.def_ 23 (d := d_Amount_str) rfl
  exact fnD_mk (ps := ["self"]) (S := sy W) F (fnD_of (S := sy W) F sc_Amount_str (len_Amount_str (sy W)) (dv_Amount_str W) (pf_Amount_str (sy W))) fun _ _ _ _ _ _ us hl => match us, hl with | [_], _ => rfl
theorem b_list (W : Wk K mg base) : mg "list" = none := He.free_ok W.kin W.ns (fa_27 W)
theorem sc__law_pen : FnScope ["_law_script"] ["_law_script"] (defScope s__law_pen) := ⟨rfl, rfl, rfl, by decide +kernel, rfl, by decide +kernel, by decide +kernel⟩
theorem dv__law_pen {P : Program} {w : World} {K : PySem.W.Frag} {mg : Str → Option Value} {base : Heap} (W : Wk K mg base) : ∀ (cdv : Value) (A : Around) (outer : List Env) (s : Shared) (H : Hp) (E : XK), Room 3 (A.deeper (envOfC d__law_pen.qual d__law_pen.scope s.heap.objs.size (d__law_pen.at_ K) cdv)) →
    Takes (cxOf (L2.CX P w) P w K mg base ["_law_script"] d__law_pen.qual d__law_pen.scope (d__law_pen.at_ K) cdv A outer s H E) (fun cls d _ H => E cls d H) → PBd (cxOf (L2.CX P w) P w K mg base ["_law_script"] d__law_pen.qual d__law_pen.scope (d__law_pen.at_ K) cdv A outer s H E) (sy W) (fun cls d _ H => E cls d H) d__law_pen.body (t__law_pen (sy W)) :=
  fun cdv A outer s H E hr tk => (pb_one (psd_ret (pd_lstM (pad_cons (pd_callTy (cl_list rfl) (pad_cons (pd_slice rfl (pd_var 0) pod_none (pod_some pd_int)) pad_nil) (b_list W)) (pad_cons pd_int (pad_cons pd_int pad_nil))))))
theorem fn__law_pen {P : Program} {w : World} {K : PySem.W.Frag} {mg : Str → Option Value} {base : Heap} (W : Wk K mg base) : FnD P w (sy W) mg base 4 (d__law_pen.at_ K) 1 [] (sp__law_pen (sy W)) := by
  obtain ⟨fd, F⟩ := W.says.def_ 24 (d := d__law_pen) rfl
  exact fnD_mk (ps := ["_law_script"]) (S := sy W) F (fnD_of (S := sy W) F sc__law_pen (len__law_pen (sy W)) (dv__law_pen W) (pf__law_pen (sy W))) fun _ _ _ _ _ _ us hl => match us, hl with | [_], _ => rfl
theorem b_len (W : Wk K mg base) : mg "len" = none := He.free_ok W.kin W.ns (fa_28 W)
theorem sc__law_draw : FnScope ["_law_pen_here", "_law_many", "_law_digit", "_law_at", "_law_cell", "_law_great", "_law_mixed"] ["_law_pen_here", "_law_many"] (defScope s__law_draw) := ⟨rfl, rfl, rfl, by decide +kernel, rfl, by decide +kernel, by decide +kernel⟩
theorem dv__law_draw {P : Program} {w : World} {K : PySem.W.Frag} {mg : Str → Option Value} {base : Heap} (W : Wk K mg base) : ∀ (cdv : Value) (A : Around) (outer : List Env) (s : Shared) (H : Hp) (E : XK), Room 12 (A.deeper (envOfC d__law_draw.qual d__law_draw.scope s.heap.objs.size (d__law_draw.at_ K) cdv)) →
    Takes (cxOf (L2.CX P w) P w K mg base ["_law_pen_here", "_law_many", "_law_digit", "_law_at", "_law_cell", "_law_great", "_law_mixed"] d__law_draw.qual d__law_draw.scope (d__law_draw.at_ K) cdv A outer s H E) (fun cls d _ H => E cls d H) → PBd (cxOf (L2.CX P w) P w K mg base ["_law_pen_here", "_law_many", "_law_digit", "_law_at", "_law_cell", "_law_great", "_law_mixed"] d__law_draw.qual d__law_draw.scope (d__law_draw.at_ K) cdv A outer s H E) (sy W) (fun cls d _ H => E cls d H) d__law_draw.body (t__law_draw (sy W)) :=
  fun cdv A outer s H E hr tk => (pb_cons (psd_if (pt_cmpD (od_gt rfl tk hr OwnCm.none) (pd_ix (ix_d rfl) (pd_var 0) pd_int) pd_int (L2.nomark _)) (pb_cons (psd_set sc__law_draw.nd (pd_op (od_mod rfl tk hr OwnOp.none) (pd_callTy cl_int (pad_cons (pd_ix (ix_d rfl) (pd_var 0) pd_int) pad_nil) (b_int W)) (pd_var 1))) (pb_cons (psd_asg (pd_op (od_fdiv rfl tk hr OwnOp.none) (pd_callTy cl_int (pad_cons (pd_ix (ix_d rfl) (pd_var 0) pd_int) pad_nil) (b_int W)) (pd_var 1)) (pgd_setL (pd_var 0) pd_int)) (pb_one (psd_ret (pd_var 2))))) pb_nil) (pb_cons (psd_set sc__law_draw.nd (pd_ix (ix_d rfl) (pd_var 0) pd_int)) (pb_cons (psd_asg (pd_op (od_add rfl tk hr OwnOp.none) (pd_var 3) pd_int) (pgd_setL (pd_var 0) pd_int)) (pb_cons (psd_set sc__law_draw.nd (pd_op (od_add rfl tk hr OwnOp.none) (pd_op (od_mul rfl tk hr OwnOp.none) pd_int (pd_var 3)) pd_int)) (pb_cons (psd_if (pt_cmpD (od_ne (eqo_qN W _ rfl rfl rfl rfl rfl) hr (by decide)) (pd_ix (ix_d rfl) (pd_var 0) pd_int) (pd_lst pad_nil) (L2.nomark _)) (pb_one (psd_set sc__law_draw.nd (pd_ix (ix_d rfl) (pd_ix (ix_d rfl) (pd_var 0) pd_int) (pd_op (od_mod rfl tk hr OwnOp.none) (pd_callTy cl_int (pad_cons (pd_var 3) pad_nil) (b_int W)) (pd_callB (cl_len rfl) (pad_cons (pd_ix (ix_d rfl) (pd_var 0) pd_int) pad_nil) (b_len W)))))) pb_nil) (pb_cons (psd_if (PWd.pt (pw_and (pt_cmpD (od_lt rfl tk hr OwnCm.none) (pd_var 3) (pd_callB (cl_len rfl) (pad_cons (pd_ix (ix_d rfl) (pd_var 0) pd_int) pad_nil) (b_len W)) (L2.nomark _)) (pw_and1 (pt_cmpD (od_ge rfl tk hr OwnCm.none) (pd_callB cl_abs (pad_cons (pd_var 4) pad_nil) (b_abs W)) (pd_op od_pow pd_int pd_int) (L2.nomark _))))) (pb_cons (psd_set sc__law_draw.nd (pd_op (od_add rfl tk hr OwnOp.none) (pd_op (od_mul rfl tk hr OwnOp.none) pd_int (pd_op (od_sub rfl tk hr OwnOp.none) (pd_callB cl_abs (pad_cons (pd_var 4) pad_nil) (b_abs W)) (pd_op od_pow pd_int pd_int))) (pd_callTy cl_int (pad_cons (pd_cmp (od_lt rfl tk hr OwnCm.none) (pd_var 4) pd_int (L2.nomark _)) pad_nil) (b_int W)))) (pb_cons (psd_asg (pd_op (od_fdiv rfl tk hr OwnOp.none) (pd_callTy cl_int (pad_cons (pd_var 5) pad_nil) (b_int W)) (pd_var 1)) (pgd_setL (pd_var 0) pd_int)) (pb_one (psd_ret (pd_op (od_mod rfl tk hr OwnOp.none) (pd_callTy cl_int (pad_cons (pd_var 5) pad_nil) (b_int W)) (pd_var 1)))))) pb_nil) (pb_cons (psd_set sc__law_draw.nd (pd_op (od_mod rfl tk hr OwnOp.none) (pd_callTy cl_int (pad_cons (pd_op od_pow (pd_op (od_add rfl tk hr OwnOp.none) (pd_op (od_add rfl tk hr OwnOp.none) (pd_op (od_mod rfl tk hr OwnOp.none) (pd_callTy cl_int (pad_cons (pd_var 4) pad_nil) (b_int W)) pd_int) (pd_op (od_mul rfl tk hr OwnOp.none) pd_int (pd_var 3))) pd_int) pd_int) pad_nil) (b_int W)) pd_int)) (pb_cons (psd_set sc__law_draw.nd (pd_op (od_mod rfl tk hr OwnOp.none) (pd_callTy cl_int (pad_cons (pd_op od_pow (pd_op (od_add rfl tk hr OwnOp.none) (pd_op (od_add rfl tk hr OwnOp.none) (pd_op (od_mul rfl tk hr OwnOp.none) (pd_var 6) (pd_op (od_add rfl tk hr OwnOp.none) (pd_op (od_mul rfl tk hr OwnOp.none) pd_int (pd_var 3)) pd_int)) (pd_op (od_mul rfl tk hr OwnOp.none) (pd_op (od_mul rfl tk hr OwnOp.none) pd_int (pd_var 3)) (pd_var 3))) pd_int) pd_int) pad_nil) (b_int W)) pd_int)) (pb_one (psd_ret (pd_op (od_mod rfl tk hr OwnOp.none) (pd_callTy cl_int (pad_cons (pd_op (od_fdiv rfl tk hr OwnOp.none) (pd_var 6) pd_int) pad_nil) (b_int W)) (pd_var 1))))))))))))
theorem fn__law_draw {P : Program} {w : World} {K : PySem.W.Frag} {mg : Str → Option Value} {base : Heap} (W : Wk K mg base) : FnD P w (sy W) mg base 13 (d__law_draw.at_ K) 2 [] (sp__law_draw (sy W)) := by
  obtain ⟨fd, F⟩ := W.says.def_ 25 (d := d__law_draw) rfl
  exact fnD_mk (ps := ["_law_pen_here", "_law_many"]) (S := sy W) F (fnD_of (S := sy W) F sc__law_draw (len__law_draw (sy W)) (dv__law_draw W) (pf__law_draw (sy W))) fun _ _ _ _ _ _ us hl => match us, hl with | [_, _], _ => rfl
theorem g__law_draw (W : Wk K mg base) : mg "_law_draw" = some (.ref (ga K "_law_draw")) := He.glo_ok W.kin W.ns (fa_29 W)
theorem sc__law_pick : FnScope ["_law_pen_here", "_law_some"] ["_law_pen_here", "_law_some"] (defScope s__law_pick) := ⟨rfl, rfl, rfl, by decide +kernel, rfl, by decide +kernel, by decide +kernel⟩
theorem dv__law_pick {P : Program} {w : World} {K : PySem.W.Frag} {mg : Str → Option Value} {base : Heap} (W : Wk K mg base) : ∀ (cdv : Value) (A : Around) (outer : List Env) (s : Shared) (H : Hp) (E : XK), Room 16 (A.deeper (envOfC d__law_pick.qual d__law_pick.scope s.heap.objs.size (d__law_pick.at_ K) cdv)) →
    Takes (cxOf (L2.CX P w) P w K mg base ["_law_pen_here", "_law_some"] d__law_pick.qual d__law_pick.scope (d__law_pick.at_ K) cdv A outer s H E) (fun cls d _ H => E cls d H) → PBd (cxOf (L2.CX P w) P w K mg base ["_law_pen_here", "_law_some"] d__law_pick.qual d__law_pick.scope (d__law_pick.at_ K) cdv A outer s H E) (sy W) (fun cls d _ H => E cls d H) d__law_pick.body (t__law_pick (sy W)) :=
  fun cdv A outer s H E hr tk => (pb_one (psd_ret (pd_ix (ix_d rfl) (pd_var 1) (pd_call rfl tk hr ((fn__law_draw W).mono (by decide)) (g__law_draw W) (pad_cons (pd_var 0) (pad_cons (pd_callB (cl_len rfl) (pad_cons (pd_var 1) pad_nil) (b_len W)) pad_nil))))))
theorem fn__law_pick {P : Program} {w : World} {K : PySem.W.Frag} {mg : Str → Option Value} {base : Heap} (W : Wk K mg base) : FnD P w (sy W) mg base 17 (d__law_pick.at_ K) 2 [] (sp__law_pick (sy W)) := by
  obtain ⟨fd, F⟩ := W.says.def_ 26 (d := d__law_pick) rfl
  exact fnD_mk (ps := ["_law_pen_here", "_law_some"]) (S := sy W) F (fnD_of (S := sy W) F sc__law_pick (len__law_pick (sy W)) (dv__law_pick W) (pf__law_pick (sy W))) fun _ _ _ _ _ _ us hl => match us, hl with | [_, _], _ => rfl
theorem g__law_pick (W : Wk K mg base) : mg "_law_pick" = some (.ref (ga K "_law_pick")) := He.glo_ok W.kin W.ns (fa_30 W)
theorem mt_Amount_eq {P : Program} {w : World} {K : PySem.W.Frag} {mg : Str → Option Value} {base : Heap} (W : Wk K mg base) {k : Nat} (h : 21 ≤ k) : MtD P w (sy W) mg base k 0 "__eq__" 2 [] (sp_Amount_eq (sy W)) := ⟨clsB_ok (fa_11 W), _, methB_ok (fa_31 W), (fn_Amount_eq W).mono h⟩
theorem eqo_qA {P : Program} {w : World} {K : PySem.W.Frag} {mg : Str → Option Value} {base : Heap} (W : Wk K mg base) (X : Cx) (hK : X.K = K) (hP : X.prog = P) (hw : X.w = w) (hm : X.mg = mg) (hb : X.base = base) : EqO X (sy W) (qA (sy W).cl) 21 := by
  subst hP hw hm hb
  refine eqo_amt hK (show 0 ∈ cpl by decide) ?_ (fa_32 W) (of_decide_eq_true (fa_33 W)) (He.eqO_ok (fa_34 W)) fun T hT => of_decide_eq_true (List.all_eq_true.mp (fa_35 W) T hT)
  exact mt_Amount_eq W (Nat.le_refl _)
theorem mt_Amount_radd {P : Program} {w : World} {K : PySem.W.Frag} {mg : Str → Option Value} {base : Heap} (W : Wk K mg base) {k : Nat} (h : 38 ≤ k) : MtD P w (sy W) mg base k 0 "__radd__" 2 [] (sp_Amount_radd (sy W)) := ⟨clsB_ok (fa_11 W), _, methB_ok (fa_36 W), (fn_Amount_radd W).mono h⟩
theorem ms_mRadd {P : Program} {w : World} {K : PySem.W.Frag} {mg : Str → Option Value} {base : Heap} (W : Wk K mg base) {k : Nat} (h : 38 ≤ k) : ∀ c, c ∈ (mRadd (sy W)).l → MtD P w (sy W) mg base k c "__radd__" ((mRadd (sy W)).n c) ((mRadd (sy W)).dd c) ((mRadd (sy W)).sp c) := fun c hc => by
  rcases List.mem_cons.mp hc with rfl | hc
  · exact mt_Amount_radd W (Nat.le_trans (by decide) h)
  exact absurd hc (by simp)
theorem ow_Add {P : Program} {w : World} {K : PySem.W.Frag} {mg : Str → Option Value} {base : Heap} (W : Wk K mg base) (X : Cx) (hP : X.prog = P) (hw : X.w = w) (hm : X.mg = mg) (hb : X.base = base) {k : Nat} (h : 38 ≤ k) : OwnOp X (sy W) k .Add (mAdd (sy W)) (mRadd (sy W)) := by
  subst hP hw hm hb
  refine ⟨ms_mAdd W (Nat.le_trans (by decide) h), fun c hc => ?_, ms_mRadd W (Nat.le_trans (by decide) h), fun c hc => ?_⟩
  · rcases List.mem_cons.mp hc with rfl | hc
    · exact ownFB_ok (S := sy W) (fa_22 W)
    exact absurd hc (by simp)
  · rcases List.mem_cons.mp hc with rfl | hc
    · exact ownRB_ok (S := sy W) (fa_37 W)
    exact absurd hc (by simp)
theorem mt_Amount_rmul {P : Program} {w : World} {K : PySem.W.Frag} {mg : Str → Option Value} {base : Heap} (W : Wk K mg base) {k : Nat} (h : 38 ≤ k) : MtD P w (sy W) mg base k 0 "__rmul__" 2 [] (sp_Amount_rmul (sy W)) := ⟨clsB_ok (fa_11 W), _, methB_ok (fa_38 W), (fn_Amount_rmul W).mono h⟩
theorem ms_mRmul {P : Program} {w : World} {K : PySem.W.Frag} {mg : Str → Option Value} {base : Heap} (W : Wk K mg base) {k : Nat} (h : 38 ≤ k) : ∀ c, c ∈ (mRmul (sy W)).l → MtD P w (sy W) mg base k c "__rmul__" ((mRmul (sy W)).n c) ((mRmul (sy W)).dd c) ((mRmul (sy W)).sp c) := fun c hc => by
  rcases List.mem_cons.mp hc with rfl | hc
  · exact mt_Amount_rmul W (Nat.le_trans (by decide) h)
  exact absurd hc (by simp)
theorem ow_Mult {P : Program} {w : World} {K : PySem.W.Frag} {mg : Str → Option Value} {base : Heap} (W : Wk K mg base) (X : Cx) (hP : X.prog = P) (hw : X.w = w) (hm : X.mg = mg) (hb : X.base = base) {k : Nat} (h : 38 ≤ k) : OwnOp X (sy W) k .Mult (mMul (sy W)) (mRmul (sy W)) := by
  subst hP hw hm hb
  refine ⟨ms_mMul W (Nat.le_trans (by decide) h), fun c hc => ?_, ms_mRmul W (Nat.le_trans (by decide) h), fun c hc => ?_⟩
  · rcases List.mem_cons.mp hc with rfl | hc
    · exact ownFB_ok (S := sy W) (fa_25 W)
    exact absurd hc (by simp)
  · rcases List.mem_cons.mp hc with rfl | hc
    · exact ownRB_ok (S := sy W) (fa_39 W)
    exact absurd hc (by simp)
theorem mt_Amount_sub {P : Program} {w : World} {K : PySem.W.Frag} {mg : Str → Option Value} {base : Heap} (W : Wk K mg base) {k : Nat} (h : 34 ≤ k) : MtD P w (sy W) mg base k 0 "__sub__" 2 [] (sp_Amount_sub (sy W)) := ⟨clsB_ok (fa_11 W), _, methB_ok (fa_40 W), (fn_Amount_sub W).mono h⟩
theorem ms_mSub {P : Program} {w : World} {K : PySem.W.Frag} {mg : Str → Option Value} {base : Heap} (W : Wk K mg base) {k : Nat} (h : 34 ≤ k) : ∀ c, c ∈ (mSub (sy W)).l → MtD P w (sy W) mg base k c "__sub__" ((mSub (sy W)).n c) ((mSub (sy W)).dd c) ((mSub (sy W)).sp c) := fun c hc => by
  rcases List.mem_cons.mp hc with rfl | hc
  · exact mt_Amount_sub W (Nat.le_trans (by decide) h)
  exact absurd hc (by simp)
theorem mt_Amount_rsub {P : Program} {w : World} {K : PySem.W.Frag} {mg : Str → Option Value} {base : Heap} (W : Wk K mg base) {k : Nat} (h : 38 ≤ k) : MtD P w (sy W) mg base k 0 "__rsub__" 2 [] (sp_Amount_rsub (sy W)) := ⟨clsB_ok (fa_11 W), _, methB_ok (fa_41 W), (fn_Amount_rsub W).mono h⟩
theorem ms_mRsub {P : Program} {w : World} {K : PySem.W.Frag} {mg : Str → Option Value} {base : Heap} (W : Wk K mg base) {k : Nat} (h : 38 ≤ k) : ∀ c, c ∈ (mRsub (sy W)).l → MtD P w (sy W) mg base k c "__rsub__" ((mRsub (sy W)).n c) ((mRsub (sy W)).dd c) ((mRsub (sy W)).sp c) := fun c hc => by
  rcases List.mem_cons.mp hc with rfl | hc
  · exact mt_Amount_rsub W (Nat.le_trans (by decide) h)
  exact absurd hc (by simp)
theorem ow_Sub {P : Program} {w : World} {K : PySem.W.Frag} {mg : Str → Option Value} {base : Heap} (W : Wk K mg base) (X : Cx) (hP : X.prog = P) (hw : X.w = w) (hm : X.mg = mg) (hb : X.base = base) {k : Nat} (h : 38 ≤ k) : OwnOp X (sy W) k .Sub (mSub (sy W)) (mRsub (sy W)) := by
  subst hP hw hm hb
  refine ⟨ms_mSub W (Nat.le_trans (by decide) h), fun c hc => ?_, ms_mRsub W (Nat.le_trans (by decide) h), fun c hc => ?_⟩
  · rcases List.mem_cons.mp hc with rfl | hc
    · exact ownFB_ok (S := sy W) (fa_42 W)
    exact absurd hc (by simp)
  · rcases List.mem_cons.mp hc with rfl | hc
    · exact ownRB_ok (S := sy W) (fa_43 W)
    exact absurd hc (by simp)
theorem sc__law_number : FnScope ["_law_pen_here", "_law_size", "_law_found"] ["_law_pen_here"] (defScope s__law_number) := ⟨rfl, rfl, rfl, by decide +kernel, rfl, by decide +kernel, by decide +kernel⟩
theorem dv__law_number {P : Program} {w : World} {K : PySem.W.Frag} {mg : Str → Option Value} {base : Heap} (W : Wk K mg base) : ∀ (cdv : Value) (A : Around) (outer : List Env) (s : Shared) (H : Hp) (E : XK), Room 50 (A.deeper (envOfC d__law_number.qual d__law_number.scope s.heap.objs.size (d__law_number.at_ K) cdv)) →
    Takes (cxOf (L2.CX P w) P w K mg base ["_law_pen_here", "_law_size", "_law_found"] d__law_number.qual d__law_number.scope (d__law_number.at_ K) cdv A outer s H E) (fun cls d _ H => E cls d H) → PBd (cxOf (L2.CX P w) P w K mg base ["_law_pen_here", "_law_size", "_law_found"] d__law_number.qual d__law_number.scope (d__law_number.at_ K) cdv A outer s H E) (sy W) (fun cls d _ H => E cls d H) d__law_number.body (t__law_number (sy W)) :=
  fun cdv A outer s H E hr tk => (pb_cons (psd_set sc__law_number.nd (pd_call rfl tk hr ((fn__law_pick W).mono (by decide)) (g__law_pick W) (pad_cons (pd_var 0) (pad_cons (pd_lst (pad_cons pd_int (pad_cons pd_int (pad_cons pd_int (pad_cons (pd_op od_pow pd_int pd_int) (pad_cons (pd_op od_pow pd_int pd_int) pad_nil)))))) pad_nil)))) (pb_cons (psd_set sc__law_number.nd (pd_call rfl tk hr ((fn__law_draw W).mono (by decide)) (g__law_draw W) (pad_cons (pd_var 0) (pad_cons (pd_var 1) pad_nil)))) (pb_cons (psd_if (pt_cmpD (od_eq (eqo_qA W _ rfl rfl rfl rfl rfl) hr (by decide)) (pd_call rfl tk hr ((fn__law_draw W).mono (by decide)) (g__law_draw W) (pad_cons (pd_var 0) (pad_cons pd_int pad_nil))) pd_int (L2.nomark _)) (pb_one (psd_set sc__law_number.nd (pd_op (od_add rfl tk hr (ow_Add W _ rfl rfl rfl rfl (by decide))) (pd_op (od_mul rfl tk hr (ow_Mult W _ rfl rfl rfl rfl (by decide))) (pd_var 2) (pd_op od_pow pd_int pd_int)) (pd_call rfl tk hr ((fn__law_draw W).mono (by decide)) (g__law_draw W) (pad_cons (pd_var 0) (pad_cons (pd_op od_pow pd_int pd_int) pad_nil)))))) pb_nil) (pb_one (psd_ret (pd_ifExp (pt_cmpD (od_eq (eqo_qA W _ rfl rfl rfl rfl rfl) hr (by decide)) (pd_call rfl tk hr ((fn__law_draw W).mono (by decide)) (g__law_draw W) (pad_cons (pd_var 0) (pad_cons pd_int pad_nil))) pd_int (L2.nomark _)) (pd_var 2) (pd_op (od_sub rfl tk hr (ow_Sub W _ rfl rfl rfl rfl (by decide))) pd_int (pd_var 2))))))))
theorem fn__law_number {P : Program} {w : World} {K : PySem.W.Frag} {mg : Str → Option Value} {base : Heap} (W : Wk K mg base) : FnD P w (sy W) mg base 51 (d__law_number.at_ K) 1 [] (sp__law_number (sy W)) := by
  obtain ⟨fd, F⟩ := W.says.def_ 27 (d := d__law_number) rfl
  exact fnD_mk (ps := ["_law_pen_here"]) (S := sy W) F (fnD_of (S := sy W) F sc__law_number (len__law_number (sy W)) (dv__law_number W) (pf__law_number (sy W))) fun _ _ _ _ _ _ us hl => match us, hl with | [_], _ => rfl
theorem mt_Amount_abs {P : Program} {w : World} {K : PySem.W.Frag} {mg : Str → Option Value} {base : Heap} (W : Wk K mg base) {k : Nat} (h : 34 ≤ k) : MtD P w (sy W) mg base k 0 "__abs__" 1 [] (sp_Amount_abs (sy W)) := ⟨clsB_ok (fa_11 W), _, methB_ok (fa_44 W), (fn_Amount_abs W).mono h⟩
theorem ms_mAbs {P : Program} {w : World} {K : PySem.W.Frag} {mg : Str → Option Value} {base : Heap} (W : Wk K mg base) {k : Nat} (h : 34 ≤ k) : ∀ c, c ∈ (mAbs (sy W)).l → MtD P w (sy W) mg base k c "__abs__" ((mAbs (sy W)).n c) ((mAbs (sy W)).dd c) ((mAbs (sy W)).sp c) := fun c hc => by
  rcases List.mem_cons.mp hc with rfl | hc
  · exact mt_Amount_abs W (Nat.le_trans (by decide) h)
  exact absurd hc (by simp)
theorem mo_abs {P : Program} {w : World} {K : PySem.W.Frag} {mg : Str → Option Value} {base : Heap} (W : Wk K mg base) {k : Nat} (h : 34 ≤ k) : ∀ c, c ∈ (mAbs (sy W)).l → MtD P w (sy W) mg base k c "__abs__" ((mAbs (sy W)).n c) ((mAbs (sy W)).dd c) ((mAbs (sy W)).sp c) := ms_mAbs W h
theorem mt_Amount_mod {P : Program} {w : World} {K : PySem.W.Frag} {mg : Str → Option Value} {base : Heap} (W : Wk K mg base) {k : Nat} (h : 34 ≤ k) : MtD P w (sy W) mg base k 0 "__mod__" 2 [] (sp_Amount_mod (sy W)) := ⟨clsB_ok (fa_11 W), _, methB_ok (fa_45 W), (fn_Amount_mod W).mono h⟩
theorem ms_mMod {P : Program} {w : World} {K : PySem.W.Frag} {mg : Str → Option Value} {base : Heap} (W : Wk K mg base) {k : Nat} (h : 34 ≤ k) : ∀ c, c ∈ (mMod (sy W)).l → MtD P w (sy W) mg base k c "__mod__" ((mMod (sy W)).n c) ((mMod (sy W)).dd c) ((mMod (sy W)).sp c) := fun c hc => by
  rcases List.mem_cons.mp hc with rfl | hc
  · exact mt_Amount_mod W (Nat.le_trans (by decide) h)
  exact absurd hc (by simp)
theorem ow_Mod {P : Program} {w : World} {K : PySem.W.Frag} {mg : Str → Option Value} {base : Heap} (W : Wk K mg base) (X : Cx) (hP : X.prog = P) (hw : X.w = w) (hm : X.mg = mg) (hb : X.base = base) {k : Nat} (h : 34 ≤ k) : OwnOp X (sy W) k .Mod (mMod (sy W)) .none := by
  subst hP hw hm hb
  refine ⟨ms_mMod W (Nat.le_trans (by decide) h), fun c hc => ?_, fun c hc => absurd hc (by simp [Mts.none]), fun c hc => ?_⟩
  · rcases List.mem_cons.mp hc with rfl | hc
    · exact ownFB_ok (S := sy W) (fa_46 W)
    exact absurd hc (by simp)
  · exact absurd hc (by simp [Mts.none])
theorem sc__law_divisor : FnScope ["_law_one", "_law_other", "_law_high", "_law_low"] ["_law_one", "_law_other"] (defScope s__law_divisor) := ⟨rfl, rfl, rfl, by decide +kernel, rfl, by decide +kernel, by decide +kernel⟩
theorem dv__law_divisor {P : Program} {w : World} {K : PySem.W.Frag} {mg : Str → Option Value} {base : Heap} (W : Wk K mg base) : ∀ (cdv : Value) (A : Around) (outer : List Env) (s : Shared) (H : Hp) (E : XK), Room 46 (A.deeper (envOfC d__law_divisor.qual d__law_divisor.scope s.heap.objs.size (d__law_divisor.at_ K) cdv)) →
    Takes (cxOf (L2.CX P w) P w K mg base ["_law_one", "_law_other", "_law_high", "_law_low"] d__law_divisor.qual d__law_divisor.scope (d__law_divisor.at_ K) cdv A outer s H E) (fun cls d _ H => E cls d H) → PBd (cxOf (L2.CX P w) P w K mg base ["_law_one", "_law_other", "_law_high", "_law_low"] d__law_divisor.qual d__law_divisor.scope (d__law_divisor.at_ K) cdv A outer s H E) (sy W) (fun cls d _ H => E cls d H) d__law_divisor.body (t__law_divisor (sy W)) :=
  fun cdv A outer s H E hr tk => (pb_cons (psd_par rfl sc__law_divisor.nd (pad_cons (pd_abs rfl tk hr (mo_abs W (by decide)) (pd_var 0) (b_abs W)) (pad_cons (pd_abs rfl tk hr (mo_abs W (by decide)) (pd_var 1) (b_abs W)) pad_nil))) (pb_cons (psd_while (L2.passes_of rfl) (pt_cmpD (od_ne (eqo_qA W _ rfl rfl rfl rfl rfl) hr (by decide)) (pd_var 3) pd_int (L2.nomark _)) (pb_one (psd_par rfl sc__law_divisor.nd (pad_cons (pd_var 3) (pad_cons (pd_op (od_mod rfl tk hr (ow_Mod W _ rfl rfl rfl rfl (by decide))) (pd_callTy cl_int (pad_cons (pd_var 2) pad_nil) (b_int W)) (pd_var 3)) pad_nil))))) (pb_one (psd_ret (pd_var 2)))))
theorem fn__law_divisor {P : Program} {w : World} {K : PySem.W.Frag} {mg : Str → Option Value} {base : Heap} (W : Wk K mg base) : FnD P w (sy W) mg base 47 (d__law_divisor.at_ K) 2 [] (sp__law_divisor (sy W)) := by
  obtain ⟨fd, F⟩ := W.says.def_ 28 (d := d__law_divisor) rfl
  exact fnD_mk (ps := ["_law_one", "_law_other"]) (S := sy W) F (fnD_of (S := sy W) F sc__law_divisor (len__law_divisor (sy W)) (dv__law_divisor W) (pf__law_divisor (sy W))) fun _ _ _ _ _ _ us hl => match us, hl with | [_, _], _ => rfl
theorem g_MoneyError (W : Wk K mg base) : mg "MoneyError" = some (.ref (ga K "MoneyError")) := He.glo_ok W.kin W.ns (fa_47 W)
theorem tx_MoneyError (W : Wk K mg base) : ∀ c b, (lkX [(3, true)]) c = some b → PySem.W.exmOne (sy W).K (.ref ((sy W).ca c)) (.ref ((sy W).ca 1)) = some b := lkX_all (by
  intro e he
  rcases List.mem_cons.mp he with rfl | he
  · exact of_decide_eq_true (fa_48 W)
  exact absurd he (by simp))
theorem ix_BadAmount (W : Wk K mg base) : IsxF (sy W) ((sy W).ca 3) (lkX [(3, true)]) := ⟨lkX_all (p := fun n b => ExcC (sy W).K ((sy W).ca n) ∧ (PySem.W.clsIn (sy W).K ((sy W).ca n)).isSome = true ∧ PySem.W.kitOne (sy W).K (.ref ((sy W).ca n)) (.ref ((sy W).ca 3)) = some b) (by
  intro e he
  rcases List.mem_cons.mp he with rfl | he
  · exact ⟨(excCB_ok (fa_49 W)).1, (excCB_ok (fa_49 W)).2.1, of_decide_eq_true (fa_50 W)⟩
  exact absurd he (by simp))⟩
theorem xa_part (W : Wk K mg base) : ∀ c, c ∈ [3] → XfC (sy W).K ((sy W).ca c) ∧ PySem.W.findIn (sy W).K (.ref ((sy W).ca c)) "part" = some none := by
  intro c hc
  rcases List.mem_cons.mp hc with rfl | hc
  · exact ⟨(excCB_ok (fa_49 W)).2.2, He.eqO_ok (fa_16 W)⟩
  exact absurd hc (by simp)
theorem sc__law_heard : FnScope ["_law_ask", "_law_caught", "error"] ["_law_ask"] (defScope s__law_heard) := ⟨rfl, rfl, rfl, by decide +kernel, rfl, by decide +kernel, by decide +kernel⟩
theorem gv__law_heard {P : Program} {w : World} {K : PySem.W.Frag} {mg : Str → Option Value} {base : Heap} {X : Cx} (W : Wk K mg base) (hP : X.prog = P) (hw : X.w = w) (hK : X.K = K) (hm : X.mg = mg) (hb : X.base = base) (q : Str) (cdg : Value) : LamX.GivesTo X ["_law_ask", "_law_caught", "error"] "_law_heard" d__law_heard.scope (d__law_heard.at_ K) cdg d__law_heard.body "_law_ask" q (upLm (sy W) (sp__law_heard (sy W))) := by
  subst hP hw hK hm hb
  exact gives_of (fun f c F0 td s H act => have tk : Takes _ (fun _ _ _ _ => False) := takesF; (pb_cons (psd_set sc__law_heard.nd pd_non) (pb_cons (psd_tryK rfl rfl rfl rfl sc__law_heard.nd tk (g_MoneyError W) (tx_MoneyError W) (fun W2 pn2 xe2 tk po => (pb_one (psd_expr (act W2 pn2 xe2 _ _ tk))))) (pb_cons (psd_if (pt_cmpD od_isN (pd_var 1) pd_non (L2.nomark _)) (pb_one (psd_ret pd_non)) pb_nil) (pb_one (psd_ret (pd_ifExp (pt_plain rfl (pd_callB (cl_isX rfl (ix_BadAmount W)) (pad_cons (pd_var 1) (pad_cons (pd_gref (a := (sy W).ca 3) (g_BadAmount W)) pad_nil)) (b_isinstance W))) (pd_xat rfl (xa_part W) rfl (pd_var 1)) pd_str))))))) (fun f c F0 td W2 Q2 h => pf__law_heard (sy W) q f c F0 td W2 Q2 h)
theorem g__law_number (W : Wk K mg base) : mg "_law_number" = some (.ref (ga K "_law_number")) := He.glo_ok W.kin W.ns (fa_51 W)
theorem g__law_divisor (W : Wk K mg base) : mg "_law_divisor" = some (.ref (ga K "_law_divisor")) := He.glo_ok W.kin W.ns (fa_52 W)
theorem mt_Amount_gt {P : Program} {w : World} {K : PySem.W.Frag} {mg : Str → Option Value} {base : Heap} (W : Wk K mg base) {k : Nat} (h : 12 ≤ k) : MtD P w (sy W) mg base k 0 "__gt__" 2 [] (sp_Amount_gt (sy W)) := ⟨clsB_ok (fa_11 W), _, methB_ok (fa_53 W), (fn_Amount_gt W).mono h⟩
theorem ms_mGt {P : Program} {w : World} {K : PySem.W.Frag} {mg : Str → Option Value} {base : Heap} (W : Wk K mg base) {k : Nat} (h : 12 ≤ k) : ∀ c, c ∈ (mGt (sy W)).l → MtD P w (sy W) mg base k c "__gt__" ((mGt (sy W)).n c) ((mGt (sy W)).dd c) ((mGt (sy W)).sp c) := fun c hc => by
  rcases List.mem_cons.mp hc with rfl | hc
  · exact mt_Amount_gt W (Nat.le_trans (by decide) h)
  exact absurd hc (by simp)
theorem mt_Amount_lt {P : Program} {w : World} {K : PySem.W.Frag} {mg : Str → Option Value} {base : Heap} (W : Wk K mg base) {k : Nat} (h : 12 ≤ k) : MtD P w (sy W) mg base k 0 "__lt__" 2 [] (sp_Amount_lt (sy W)) := ⟨clsB_ok (fa_11 W), _, methB_ok (fa_54 W), (fn_Amount_lt W).mono h⟩
theorem ms_mLt {P : Program} {w : World} {K : PySem.W.Frag} {mg : Str → Option Value} {base : Heap} (W : Wk K mg base) {k : Nat} (h : 12 ≤ k) : ∀ c, c ∈ (mLt (sy W)).l → MtD P w (sy W) mg base k c "__lt__" ((mLt (sy W)).n c) ((mLt (sy W)).dd c) ((mLt (sy W)).sp c) := fun c hc => by
  rcases List.mem_cons.mp hc with rfl | hc
  · exact mt_Amount_lt W (Nat.le_trans (by decide) h)
  exact absurd hc (by simp)
theorem ow_Gt {P : Program} {w : World} {K : PySem.W.Frag} {mg : Str → Option Value} {base : Heap} (W : Wk K mg base) (X : Cx) (hP : X.prog = P) (hw : X.w = w) (hm : X.mg = mg) (hb : X.base = base) {k : Nat} (h : 12 ≤ k) : OwnCm X (sy W) k .Gt (mGt (sy W)) (mLt (sy W)) := by
  subst hP hw hm hb
  refine ⟨ms_mGt W (Nat.le_trans (by decide) h), fun c hc => ?_, ms_mLt W (Nat.le_trans (by decide) h), fun c hc => ?_⟩
  · rcases List.mem_cons.mp hc with rfl | hc
    · exact cm_rhs (fa_32 W) (show 0 ∈ cpl by decide)
    exact absurd hc (by simp)
  · rcases List.mem_cons.mp hc with rfl | hc
    · exact of_decide_eq_true (fa_55 W)
    exact absurd hc (by simp)
theorem mt_Amount_floordiv {P : Program} {w : World} {K : PySem.W.Frag} {mg : Str → Option Value} {base : Heap} (W : Wk K mg base) {k : Nat} (h : 12 ≤ k) : MtD P w (sy W) mg base k 0 "__floordiv__" 2 [] (sp_Amount_floordiv (sy W)) := ⟨clsB_ok (fa_11 W), _, methB_ok (fa_56 W), (fn_Amount_floordiv W).mono h⟩
theorem ms_mFdv {P : Program} {w : World} {K : PySem.W.Frag} {mg : Str → Option Value} {base : Heap} (W : Wk K mg base) {k : Nat} (h : 12 ≤ k) : ∀ c, c ∈ (mFdv (sy W)).l → MtD P w (sy W) mg base k c "__floordiv__" ((mFdv (sy W)).n c) ((mFdv (sy W)).dd c) ((mFdv (sy W)).sp c) := fun c hc => by
  rcases List.mem_cons.mp hc with rfl | hc
  · exact mt_Amount_floordiv W (Nat.le_trans (by decide) h)
  exact absurd hc (by simp)
theorem ow_FloorDiv {P : Program} {w : World} {K : PySem.W.Frag} {mg : Str → Option Value} {base : Heap} (W : Wk K mg base) (X : Cx) (hP : X.prog = P) (hw : X.w = w) (hm : X.mg = mg) (hb : X.base = base) {k : Nat} (h : 12 ≤ k) : OwnOp X (sy W) k .FloorDiv (mFdv (sy W)) .none := by
  subst hP hw hm hb
  refine ⟨ms_mFdv W (Nat.le_trans (by decide) h), fun c hc => ?_, fun c hc => absurd hc (by simp [Mts.none]), fun c hc => ?_⟩
  · rcases List.mem_cons.mp hc with rfl | hc
    · exact ownFB_ok (S := sy W) (fa_57 W)
    exact absurd hc (by simp)
  · exact absurd hc (by simp [Mts.none])
theorem ao_top {P : Program} {w : World} {K : PySem.W.Frag} {mg : Str → Option Value} {base : Heap} (W : Wk K mg base) {X : Cx} (hP : X.prog = P) (hw : X.w = w) (hm : X.mg = mg) (hb : X.base = base) {k : Nat} (h : 4 ≤ k) : (a_top (sy W)).ok X (sy W) k 75 := by
  subst hP hw hm hb
  refine ⟨fun c hc => ?_, fun c hc => ?_⟩
  · exact absurd hc (by simp [a_top])
  · rcases List.mem_cons.mp hc with rfl | hc
    · exact ⟨clsB_ok (fa_11 W), _, _, propB_ok (fa_58 W), (fn_Amount_top W).mono (Nat.le_trans (by decide) h)⟩
    exact absurd hc (by simp)
theorem ao_bottom {P : Program} {w : World} {K : PySem.W.Frag} {mg : Str → Option Value} {base : Heap} (W : Wk K mg base) {X : Cx} (hP : X.prog = P) (hw : X.w = w) (hm : X.mg = mg) (hb : X.base = base) {k : Nat} (h : 4 ≤ k) : (a_bottom (sy W)).ok X (sy W) k 71 := by
  subst hP hw hm hb
  refine ⟨fun c hc => ?_, fun c hc => ?_⟩
  · exact absurd hc (by simp [a_bottom])
  · rcases List.mem_cons.mp hc with rfl | hc
    · exact ⟨clsB_ok (fa_11 W), _, _, propB_ok (fa_59 W), (fn_Amount_bottom W).mono (Nat.le_trans (by decide) h)⟩
    exact absurd hc (by simp)
theorem b_repr (W : Wk K mg base) : mg "repr" = none := He.free_ok W.kin W.ns (fa_60 W)
theorem mt_Amount_bool {P : Program} {w : World} {K : PySem.W.Frag} {mg : Str → Option Value} {base : Heap} (W : Wk K mg base) {k : Nat} (h : 13 ≤ k) : MtD P w (sy W) mg base k 0 "__bool__" 1 [] (sp_Amount_bool (sy W)) := ⟨clsB_ok (fa_11 W), _, methB_ok (fa_61 W), (fn_Amount_bool W).mono h⟩
theorem ms_mBool {P : Program} {w : World} {K : PySem.W.Frag} {mg : Str → Option Value} {base : Heap} (W : Wk K mg base) {k : Nat} (h : 13 ≤ k) : ∀ c, c ∈ (mBool (sy W)).l → MtD P w (sy W) mg base k c "__bool__" ((mBool (sy W)).n c) ((mBool (sy W)).dd c) ((mBool (sy W)).sp c) := fun c hc => by
  rcases List.mem_cons.mp hc with rfl | hc
  · exact mt_Amount_bool W (Nat.le_trans (by decide) h)
  exact absurd hc (by simp)
theorem mo_bool {P : Program} {w : World} {K : PySem.W.Frag} {mg : Str → Option Value} {base : Heap} (W : Wk K mg base) {k : Nat} (h : 13 ≤ k) : ∀ c, c ∈ (mBool (sy W)).l → MtD P w (sy W) mg base k c "__bool__" ((mBool (sy W)).n c) ((mBool (sy W)).dd c) ((mBool (sy W)).sp c) := ms_mBool W h
theorem mt_Amount_str {P : Program} {w : World} {K : PySem.W.Frag} {mg : Str → Option Value} {base : Heap} (W : Wk K mg base) {k : Nat} (h : 13 ≤ k) : MtD P w (sy W) mg base k 0 "__str__" 1 [] (sp_Amount_str (sy W)) := ⟨clsB_ok (fa_11 W), _, methB_ok (fa_62 W), (fn_Amount_str W).mono h⟩
theorem ms_mStr {P : Program} {w : World} {K : PySem.W.Frag} {mg : Str → Option Value} {base : Heap} (W : Wk K mg base) {k : Nat} (h : 13 ≤ k) : ∀ c, c ∈ (mStr (sy W)).l → MtD P w (sy W) mg base k c "__str__" ((mStr (sy W)).n c) ((mStr (sy W)).dd c) ((mStr (sy W)).sp c) := fun c hc => by
  rcases List.mem_cons.mp hc with rfl | hc
  · exact mt_Amount_str W (Nat.le_trans (by decide) h)
  exact absurd hc (by simp)
theorem mo_str {P : Program} {w : World} {K : PySem.W.Frag} {mg : Str → Option Value} {base : Heap} (W : Wk K mg base) {k : Nat} (h : 13 ≤ k) : ∀ c, c ∈ (mStr (sy W)).l → MtD P w (sy W) mg base k c "__str__" ((mStr (sy W)).n c) ((mStr (sy W)).dd c) ((mStr (sy W)).sp c) := ms_mStr W h
theorem b_str (W : Wk K mg base) : mg "str" = none := He.free_ok W.kin W.ns (fa_63 W)
theorem kd_Amount_init__bottom_top {P : Program} {w : World} {K : PySem.W.Frag} {mg : Str → Option Value} {base : Heap} (W : Wk K mg base) : KwD P w (sy W) mg base 30 (d_Amount_init.at_ K) 1 ["bottom", "top"] [0, 2, 1] (sp_Amount_init (sy W)) := by
  obtain ⟨fd, F⟩ := W.says.def_ 4 (d := d_Amount_init) rfl
  exact kwD_mk1 (ps := ["self", "top", "bottom"]) (S := sy W) F (fnD_of (S := sy W) F sc_Amount_init (len_Amount_init (sy W)) (dv_Amount_init W) (pf_Amount_init (sy W))) (by simp [DefA.dvs, d_Amount_init]) fun _ _ _ _ _ _ _ us its ws h1 h3 h2 => match us, its, ws, h1, h3, h2 with | [_], [_], [_, _], _, _, _ => ⟨_, rfl, rfl⟩
theorem mkk_Amount_init__bottom_top {P : Program} {w : World} {K : PySem.W.Frag} {mg : Str → Option Value} {base : Heap} (W : Wk K mg base) {k : Nat} (h : 30 ≤ k) : MkK P w (sy W) mg base k 0 ["bottom", "top"] [0, 2, 1] (sp_Amount_init (sy W)) := ⟨_, mkB_ok (fa_19 W), (kd_Amount_init__bottom_top W).mono h⟩
theorem sm_Amount_of {P : Program} {w : World} {K : PySem.W.Frag} {mg : Str → Option Value} {base : Heap} (W : Wk K mg base) : SmD P w (sy W) mg base 34 ((sy W).ca 0) "of" 1 [] (sp_Amount_of (sy W)) := ⟨creadB_ok (fa_64 W), _, _, smet_of (fa_65 W), fn_Amount_of W⟩
theorem kd_Amount_of__value {P : Program} {w : World} {K : PySem.W.Frag} {mg : Str → Option Value} {base : Heap} (W : Wk K mg base) : KwD P w (sy W) mg base 34 (d_Amount_of.at_ K) 0 ["value"] [0] (sp_Amount_of (sy W)) := by
  obtain ⟨fd, F⟩ := W.says.def_ 7 (d := d_Amount_of) rfl
  exact kwD_mk (ps := ["value"]) (S := sy W) F (fnD_of (S := sy W) F sc_Amount_of (len_Amount_of (sy W)) (dv_Amount_of W) (pf_Amount_of (sy W))) fun _ _ _ _ _ _ us ws h1 h2 => match us, ws, h1, h2 with | [], [_], _, _ => rfl
theorem smk_Amount_of__value {P : Program} {w : World} {K : PySem.W.Frag} {mg : Str → Option Value} {base : Heap} (W : Wk K mg base) : SmK P w (sy W) mg base 34 ((sy W).ca 0) "of" ["value"] [0] (sp_Amount_of (sy W)) := ⟨creadB_ok (fa_64 W), _, _, smet_of (fa_65 W), kd_Amount_of__value W⟩
theorem sc__law_right : FnScope ["_law_pen_here", "_law_high", "_law_low", "_law_scale", "_law_made", "_law_shared", "_law_sign", "_law_due", "_law_line", "_law_whole"] ["_law_pen_here"] (defScope s__law_right) := ⟨rfl, rfl, rfl, by decide +kernel, rfl, by decide +kernel, by decide +kernel⟩
theorem dv__law_right {P : Program} {w : World} {K : PySem.W.Frag} {mg : Str → Option Value} {base : Heap} (W : Wk K mg base) : ∀ (cdv : Value) (A : Around) (outer : List Env) (s : Shared) (H : Hp) (E : XK), Qt A → Room 63 (A.deeper (envOfC d__law_right.qual d__law_right.scope s.heap.objs.size (d__law_right.at_ K) cdv)) →
    Takes (cxOf (L2.CX P w) P w K mg base ["_law_pen_here", "_law_high", "_law_low", "_law_scale", "_law_made", "_law_shared", "_law_sign", "_law_due", "_law_line", "_law_whole"] d__law_right.qual d__law_right.scope (d__law_right.at_ K) cdv A outer s H E) (fun cls d _ H => E cls d H) → PBd (cxOf (L2.CX P w) P w K mg base ["_law_pen_here", "_law_high", "_law_low", "_law_scale", "_law_made", "_law_shared", "_law_sign", "_law_due", "_law_line", "_law_whole"] d__law_right.qual d__law_right.scope (d__law_right.at_ K) cdv A outer s H E) (sy W) (fun cls d _ H => E cls d H) d__law_right.body (t__law_right (sy W)) :=
  fun cdv A outer s H E gd0 hr tk => have gd : Qt (A.deeper (envOfC d__law_right.qual d__law_right.scope s.heap.objs.size (d__law_right.at_ K) cdv)) := gd0.deeper _; (pb_cons (psd_par rfl sc__law_right.nd (pad_cons (pd_call rfl tk hr ((fn__law_number W).mono (by decide)) (g__law_number W) (pad_cons (pd_var 0) pad_nil)) (pad_cons (pd_call rfl tk hr ((fn__law_number W).mono (by decide)) (g__law_number W) (pad_cons (pd_var 0) pad_nil)) pad_nil))) (pb_cons (psd_par rfl sc__law_right.nd (pad_cons (pd_ifExp (pt_cmpD (od_ne (eqo_qA W _ rfl rfl rfl rfl rfl) hr (by decide)) (pd_var 2) pd_int (L2.nomark _)) (pd_var 2) pd_int) (pad_cons (pd_op (od_add rfl tk hr (ow_Add W _ rfl rfl rfl rfl (by decide))) pd_int (pd_call rfl tk hr ((fn__law_draw W).mono (by decide)) (g__law_draw W) (pad_cons (pd_var 0) (pad_cons pd_int pad_nil)))) pad_nil))) (pb_cons (psd_par rfl sc__law_right.nd (pad_cons (pd_frz (pd_make rfl tk hr (mk_Amount W (by decide)) (g_Amount W) (pad_cons (pd_op (od_mul rfl tk hr (ow_Mult W _ rfl rfl rfl rfl (by decide))) (pd_var 1) (pd_var 3)) (pad_cons (pd_op (od_mul rfl tk hr (ow_Mult W _ rfl rfl rfl rfl (by decide))) (pd_var 2) (pd_var 3)) pad_nil)))) (pad_cons (pd_call rfl tk hr ((fn__law_divisor W).mono (by decide)) (g__law_divisor W) (pad_cons (pd_var 1) (pad_cons (pd_var 2) pad_nil))) pad_nil))) (pb_cons (psd_set sc__law_right.nd (pd_ifExp (pt_cmpD (od_gt rfl tk hr (ow_Gt W _ rfl rfl rfl rfl (by decide))) (pd_var 2) pd_int (L2.nomark _)) pd_int (pd_negD rfl tk hr (mo_neg W (by decide)) pd_int))) (pb_cons (psd_set sc__law_right.nd (pd_tup (pad_cons (pd_op (od_fdiv rfl tk hr (ow_FloorDiv W _ rfl rfl rfl rfl (by decide))) (pd_op (od_mul rfl tk hr (ow_Mult W _ rfl rfl rfl rfl (by decide))) (pd_var 6) (pd_var 1)) (pd_var 5)) (pad_cons (pd_op (od_fdiv rfl tk hr (ow_FloorDiv W _ rfl rfl rfl rfl (by decide))) (pd_op (od_mul rfl tk hr (ow_Mult W _ rfl rfl rfl rfl (by decide))) (pd_var 6) (pd_var 2)) (pd_var 5)) pad_nil)))) (pb_cons (psd_if (PWd.pt (pw_or (pt_cmpD (od_ne (eqo_qA W _ rfl rfl rfl rfl rfl) hr (by decide)) (pd_callB (cl_repr rfl gd hr) (pad_cons (pd_tup (pad_cons (pd_attr rfl hr (ao_top W rfl rfl rfl rfl (by decide)) rfl (pd_var 4)) (pad_cons (pd_attr rfl hr (ao_bottom W rfl rfl rfl rfl (by decide)) rfl (pd_var 4)) pad_nil))) pad_nil) (b_repr W)) (pd_callB (cl_repr rfl gd hr) (pad_cons (pd_var 7) pad_nil) (b_repr W)) (L2.nomark _)) (pw_or1 (pt_cmpD (od_ne (eqo_qA W _ rfl rfl rfl rfl rfl) hr (by decide)) (pd_bool1 rfl tk hr (mo_bool W (by decide)) (pd_var 4) (b_bool W)) (pd_cmp (od_ne (eqo_qA W _ rfl rfl rfl rfl rfl) hr (by decide)) (pd_var 1) pd_int (L2.nomark _)) (L2.nomark _))))) (pb_one (psd_ret pd_bl)) pb_nil) (pb_cons (psd_set sc__law_right.nd (pd_ifExp (pt_cmpD (od_eq (eqo_qA W _ rfl rfl rfl rfl rfl) hr (by decide)) (pd_ix (ix_d rfl) (pd_var 7) pd_int) pd_int (L2.nomark _)) (pd_str1 rfl tk hr (mo_str W (by decide)) (pd_ix (ix_d rfl) (pd_var 7) pd_int) (b_str W)) (pd_op (od_add rfl tk hr (ow_Add W _ rfl rfl rfl rfl (by decide))) (pd_op (od_add rfl tk hr (ow_Add W _ rfl rfl rfl rfl (by decide))) (pd_str1 rfl tk hr (mo_str W (by decide)) (pd_ix (ix_d rfl) (pd_var 7) pd_int) (b_str W)) pd_str) (pd_str1 rfl tk hr (mo_str W (by decide)) (pd_ix (ix_d rfl) (pd_var 7) pd_int) (b_str W))))) (pb_cons (psd_if (PWd.pt (pw_or (pt_cmpD (od_ne (eqo_qA W _ rfl rfl rfl rfl rfl) hr (by decide)) (pd_str1 rfl tk hr (mo_str W (by decide)) (pd_var 4) (b_str W)) (pd_var 8) (L2.nomark _)) (pw_or (pt_cmpD (od_ne (eqo_qA W _ rfl rfl rfl rfl rfl) hr (by decide)) (pd_var 4) (pd_frz (pd_makeK rfl tk hr (mkk_Amount_init__bottom_top W (by decide)) (g_Amount W) (pkd_cons (pd_op (od_sub rfl tk hr (ow_Sub W _ rfl rfl rfl rfl (by decide))) pd_int (pd_var 2)) (pkd_cons (pd_op (od_sub rfl tk hr (ow_Sub W _ rfl rfl rfl rfl (by decide))) pd_int (pd_var 1)) pkd_nil)))) (L2.nomark _)) (pw_or1 (pt_cmpD (od_ne (eqo_qA W _ rfl rfl rfl rfl rfl) hr (by decide)) (pd_smeth rfl tk hr ((sm_Amount_of W).mono (by decide)) (pd_gref (a := (sy W).ca 0) (g_Amount W)) (pad_cons (pd_var 4) pad_nil)) (pd_var 4) (L2.nomark _)))))) (pb_one (psd_ret pd_bl)) pb_nil) (pb_cons (psd_if (pt_cmpD (od_ne (eqo_qA W _ rfl rfl rfl rfl rfl) hr (by decide)) (pd_callB (cl_repr rfl gd hr) (pad_cons (pd_lst (pad_cons (pd_cmp (od_eq (eqo_qA W _ rfl rfl rfl rfl rfl) hr (by decide)) (pd_var 4) (pd_ix (ix_d rfl) (pd_var 7) pd_int) (L2.nomark _)) (pad_cons (pd_cmp (od_eq (eqo_qA W _ rfl rfl rfl rfl rfl) hr (by decide)) (pd_ix (ix_d rfl) (pd_var 7) pd_int) (pd_var 4) (L2.nomark _)) (pad_cons (pd_cmp (od_ne (eqo_qA W _ rfl rfl rfl rfl rfl) hr (by decide)) (pd_var 4) (pd_ix (ix_d rfl) (pd_var 7) pd_int) (L2.nomark _)) pad_nil)))) pad_nil) (b_repr W)) (pd_callB (cl_repr rfl gd hr) (pad_cons (pd_lst (pad_cons (pd_cmp (od_eq (eqo_qA W _ rfl rfl rfl rfl rfl) hr (by decide)) (pd_ix (ix_d rfl) (pd_var 7) pd_int) pd_int (L2.nomark _)) (pad_cons (pd_cmp (od_eq (eqo_qA W _ rfl rfl rfl rfl rfl) hr (by decide)) (pd_ix (ix_d rfl) (pd_var 7) pd_int) pd_int (L2.nomark _)) (pad_cons (pd_cmp (od_ne (eqo_qA W _ rfl rfl rfl rfl rfl) hr (by decide)) (pd_ix (ix_d rfl) (pd_var 7) pd_int) pd_int (L2.nomark _)) pad_nil)))) pad_nil) (b_repr W)) (L2.nomark _)) (pb_one (psd_ret pd_bl)) pb_nil) (pb_cons (psd_if (PWd.pt (pw_or (pt_cmpD (od_eq (eqo_qA W _ rfl rfl rfl rfl rfl) hr (by decide)) (pd_var 4) (pd_frz (pd_make rfl tk hr (mk_Amount W (by decide)) (g_Amount W) (pad_cons (pd_op (od_add rfl tk hr (ow_Add W _ rfl rfl rfl rfl (by decide))) (pd_var 1) pd_int) (pad_cons (pd_var 2) pad_nil)))) (L2.nomark _)) (pw_or1 (pt_cmpD (od_in (eqo_qA W _ rfl rfl rfl rfl rfl) hr (by decide)) (pd_var 4) (pd_lst (pad_cons pd_non (pad_cons (pd_var 8) (pad_cons (pd_var 7) (pad_cons (pd_lst (pad_cons (pd_var 4) pad_nil)) (pad_cons pd_bl (pad_cons pd_bl (pad_cons pd_str pad_nil)))))))) rfl)))) (pb_one (psd_ret pd_bl)) pb_nil) (pb_cons (psd_set sc__law_right.nd (pd_smethK rfl tk hr ((smk_Amount_of__value W).mono (by decide)) (pd_gref (a := (sy W).ca 0) (g_Amount W)) (pkd_cons (pd_var 1) pkd_nil))) (pb_one (psd_ret (pd_and (pd_callB (cl_isiC rfl (is_Amount W)) (pad_cons (pd_var 9) (pad_cons (pd_gref (a := (sy W).ca 0) (g_Amount W)) pad_nil)) (b_isinstance W)) (pd_and (pd_cmp (od_eq (eqo_qA W _ rfl rfl rfl rfl rfl) hr (by decide)) (pd_tup (pad_cons (pd_attr rfl hr (ao_top W rfl rfl rfl rfl (by decide)) rfl (pd_var 9)) (pad_cons (pd_attr rfl hr (ao_bottom W rfl rfl rfl rfl (by decide)) rfl (pd_var 9)) pad_nil))) (pd_tup (pad_cons (pd_var 1) (pad_cons pd_int pad_nil))) (L2.nomark _)) (pd_one (pd_cmp (od_eq (eqo_qA W _ rfl rfl rfl rfl rfl) hr (by decide)) (pd_frz (pd_make rfl tk hr (mk_Amount W (by decide)) (g_Amount W) (pad_cons (pd_var 1) pad_nil))) (pd_var 9) (L2.nomark _))))))))))))))))))
theorem fn__law_right {P : Program} {w : World} {K : PySem.W.Frag} {mg : Str → Option Value} {base : Heap} (W : Wk K mg base) : FnDG P w (sy W) mg base 64 (d__law_right.at_ K) 1 [] (sp__law_right (sy W)) := by
  obtain ⟨fd, F⟩ := W.says.def_ 30 (d := d__law_right) rfl
  exact fnDG_mk (ps := ["_law_pen_here"]) (S := sy W) F (fnG_of (S := sy W) F sc__law_right (len__law_right (sy W)) (dv__law_right W) (pf__law_right (sy W))) fun _ _ _ _ _ _ us hl => match us, hl with | [_], _ => rfl
theorem g__law_heard (W : Wk K mg base) : mg "_law_heard" = some (.ref (ga K "_law_heard")) := He.glo_ok W.kin W.ns (fa_66 W)
theorem lf__law_heard (W : Wk K mg base) : ∃ fd, FunD K d__law_heard.name d__law_heard.qual d__law_heard.params d__law_heard.body d__law_heard.scope (d__law_heard.dvs K) (d__law_heard.kws K) (d__law_heard.at_ K) fd := W.says.def_ 29 (d := d__law_heard) rfl
theorem lt__law_refused_right (W : Wk K mg base) : LamX.TabB base mg (codeA K (d__law_refused_right.at_ K)) (tabA K (d__law_refused_right.at_ K)) := W.tb _ (.head _)
theorem lu (W : Wk K mg base) : ((sy W).T.map (·.1)).Nodup := of_decide_eq_true (fa_67 W)
theorem lc__law_refused_right (W : Wk K mg base) : codeV K (d__law_refused_right.at_ K) = .ref (codeA K (d__law_refused_right.at_ K)) := (lamB_ok (fa_68 W)).1
theorem lm__law_refused_right (W : Wk K mg base) : (tabA K (d__law_refused_right.at_ K), lamQ d__law_refused_right.qual d__law_refused_right.scope) ∈ (sy W).T := (.head _)
theorem sc__law_refused_right : FnScope ["_law_pen_here", "_law_odd", "_law_more", "_law_fine", "_law_heard_here", "_law_other"] ["_law_pen_here"] (defScope s__law_refused_right) := ⟨rfl, rfl, rfl, by decide +kernel, rfl, by decide +kernel, by decide +kernel⟩
theorem dv__law_refused_right {P : Program} {w : World} {K : PySem.W.Frag} {mg : Str → Option Value} {base : Heap} (W : Wk K mg base) : ∀ (cdv : Value) (A : Around) (outer : List Env) (s : Shared) (H : Hp) (E : XK), codeV K (d__law_refused_right.at_ K) = cdv → Room 66 (A.deeper (envOfC d__law_refused_right.qual d__law_refused_right.scope s.heap.objs.size (d__law_refused_right.at_ K) cdv)) →
    Takes (cxOf (L2.CX P w) P w K mg base ["_law_pen_here", "_law_odd", "_law_more", "_law_fine", "_law_heard_here", "_law_other"] d__law_refused_right.qual d__law_refused_right.scope (d__law_refused_right.at_ K) cdv A outer s H E) (fun cls d _ H => E cls d H) → PBd (cxOf (L2.CX P w) P w K mg base ["_law_pen_here", "_law_odd", "_law_more", "_law_fine", "_law_heard_here", "_law_other"] d__law_refused_right.qual d__law_refused_right.scope (d__law_refused_right.at_ K) cdv A outer s H E) (sy W) (fun cls d _ H => E cls d H) d__law_refused_right.body (t__law_refused_right (sy W)) :=
  fun cdv A outer s H E hcd hr tk => (pb_cons (psd_set sc__law_refused_right.nd (pd_call rfl tk hr ((fn__law_pick W).mono (by decide)) (g__law_pick W) (pad_cons (pd_var 0) (pad_cons (pd_lst (pad_cons pd_non (pad_cons pd_bl (pad_cons pd_bl (pad_cons pd_str (pad_cons (pd_tup (pad_cons pd_int pad_nil)) (pad_cons (pd_lst pad_nil) (pad_cons pd_dct0 (pad_cons (pd_frz (pd_make rfl tk hr (mk_Amount W (by decide)) (g_Amount W) (pad_cons pd_int (pad_cons pd_int pad_nil)))) pad_nil))))))))) pad_nil)))) (pb_cons (psd_set sc__law_refused_right.nd (pd_call rfl tk hr ((fn__law_pick W).mono (by decide)) (g__law_pick W) (pad_cons (pd_var 0) (pad_cons (pd_lst (pad_cons pd_non (pad_cons pd_int (pad_cons pd_bl (pad_cons pd_str (pad_cons (pd_tup (pad_cons pd_int pad_nil)) (pad_cons (pd_lst (pad_cons pd_int pad_nil)) (pad_cons pd_dct0 (pad_cons (pd_frz (pd_make rfl tk hr (mk_Amount W (by decide)) (g_Amount W) (pad_cons pd_int pad_nil))) pad_nil))))))))) pad_nil)))) (pb_cons (psd_set sc__law_refused_right.nd (pd_call rfl tk hr ((fn__law_number W).mono (by decide)) (g__law_number W) (pad_cons (pd_var 0) pad_nil))) (pb_cons (psd_set sc__law_refused_right.nd (pd_lstM (pad_cons (pd_lam rfl hr (g__law_heard W) (lf__law_heard W).choose_spec sc__law_heard rfl (by first | exact Or.inl rfl | exact Or.inr (Or.inl rfl)) (fun _ _ _ _ _ _ us hl => match us, hl with | [_], _ => rfl) (fun cdg => gv__law_heard W rfl rfl rfl rfl rfl _ cdg) (lt__law_refused_right W) (hcd.symm.trans (lc__law_refused_right W)) (lm__law_refused_right W) (fun p hp e => tab_uniq (lu W) (lm__law_refused_right W) p hp e) (fun A2 outer2 s2 H2 E2 f2 c2 hr tk => (pd_frz (pd_make rfl tk hr (mk_Amount W (by decide)) (g_Amount W) (pad_cons (pd_var 1) (pad_cons (pd_var 2) pad_nil))))) (L := LamX.lamS_by (show LamX.lamSB d__law_refused_right.scope _ = true from by decide +kernel))) pad_nil))) (pb_cons (psd_expr (pd_append (pd_var 4) (pad_cons (pd_lam rfl hr (g__law_heard W) (lf__law_heard W).choose_spec sc__law_heard rfl (by first | exact Or.inl rfl | exact Or.inr (Or.inl rfl)) (fun _ _ _ _ _ _ us hl => match us, hl with | [_], _ => rfl) (fun cdg => gv__law_heard W rfl rfl rfl rfl rfl _ cdg) (lt__law_refused_right W) (hcd.symm.trans (lc__law_refused_right W)) (lm__law_refused_right W) (fun p hp e => tab_uniq (lu W) (lm__law_refused_right W) p hp e) (fun A2 outer2 s2 H2 E2 f2 c2 hr tk => (pd_frz (pd_make rfl tk hr (mk_Amount W (by decide)) (g_Amount W) (pad_cons (pd_var 1) pad_nil)))) (L := LamX.lamS_by (show LamX.lamSB d__law_refused_right.scope _ = true from by decide +kernel))) pad_nil))) (pb_cons (psd_expr (pd_append (pd_var 4) (pad_cons (pd_lam rfl hr (g__law_heard W) (lf__law_heard W).choose_spec sc__law_heard rfl (by first | exact Or.inl rfl | exact Or.inr (Or.inl rfl)) (fun _ _ _ _ _ _ us hl => match us, hl with | [_], _ => rfl) (fun cdg => gv__law_heard W rfl rfl rfl rfl rfl _ cdg) (lt__law_refused_right W) (hcd.symm.trans (lc__law_refused_right W)) (lm__law_refused_right W) (fun p hp e => tab_uniq (lu W) (lm__law_refused_right W) p hp e) (fun A2 outer2 s2 H2 E2 f2 c2 hr tk => (pd_frz (pd_make rfl tk hr (mk_Amount W (by decide)) (g_Amount W) (pad_cons (pd_var 3) (pad_cons (pd_var 2) pad_nil))))) (L := LamX.lamS_by (show LamX.lamSB d__law_refused_right.scope _ = true from by decide +kernel))) pad_nil))) (pb_cons (psd_expr (pd_append (pd_var 4) (pad_cons (pd_lam rfl hr (g__law_heard W) (lf__law_heard W).choose_spec sc__law_heard rfl (by first | exact Or.inl rfl | exact Or.inr (Or.inl rfl)) (fun _ _ _ _ _ _ us hl => match us, hl with | [_], _ => rfl) (fun cdg => gv__law_heard W rfl rfl rfl rfl rfl _ cdg) (lt__law_refused_right W) (hcd.symm.trans (lc__law_refused_right W)) (lm__law_refused_right W) (fun p hp e => tab_uniq (lu W) (lm__law_refused_right W) p hp e) (fun A2 outer2 s2 H2 E2 f2 c2 hr tk => (pd_frz (pd_makeK rfl tk hr (mkk_Amount_init__bottom_top W (by decide)) (g_Amount W) (pkd_cons (pd_var 2) (pkd_cons (pd_var 3) pkd_nil))))) (L := LamX.lamS_by (show LamX.lamSB d__law_refused_right.scope _ = true from by decide +kernel))) pad_nil))) (pb_cons (psd_set sc__law_refused_right.nd (pd_call rfl tk hr ((fn__law_pick W).mono (by decide)) (g__law_pick W) (pad_cons (pd_var 0) (pad_cons (pd_lst (pad_cons pd_non (pad_cons pd_bl (pad_cons pd_str (pad_cons (pd_tup (pad_cons pd_int pad_nil)) (pad_cons (pd_lst pad_nil) (pad_cons pd_dct0 pad_nil))))))) pad_nil)))) (pb_cons (psd_expr (pd_append (pd_var 4) (pad_cons (pd_lam rfl hr (g__law_heard W) (lf__law_heard W).choose_spec sc__law_heard rfl (by first | exact Or.inl rfl | exact Or.inr (Or.inl rfl)) (fun _ _ _ _ _ _ us hl => match us, hl with | [_], _ => rfl) (fun cdg => gv__law_heard W rfl rfl rfl rfl rfl _ cdg) (lt__law_refused_right W) (hcd.symm.trans (lc__law_refused_right W)) (lm__law_refused_right W) (fun p hp e => tab_uniq (lu W) (lm__law_refused_right W) p hp e) (fun A2 outer2 s2 H2 E2 f2 c2 hr tk => (pd_smeth rfl tk hr ((sm_Amount_of W).mono (by decide)) (pd_gref (a := (sy W).ca 0) (g_Amount W)) (pad_cons (pd_var 5) pad_nil))) (L := LamX.lamS_by (show LamX.lamSB d__law_refused_right.scope _ = true from by decide +kernel))) pad_nil))) (pb_cons (psd_expr (pd_append (pd_var 4) (pad_cons (pd_lam rfl hr (g__law_heard W) (lf__law_heard W).choose_spec sc__law_heard rfl (by first | exact Or.inl rfl | exact Or.inr (Or.inl rfl)) (fun _ _ _ _ _ _ us hl => match us, hl with | [_], _ => rfl) (fun cdg => gv__law_heard W rfl rfl rfl rfl rfl _ cdg) (lt__law_refused_right W) (hcd.symm.trans (lc__law_refused_right W)) (lm__law_refused_right W) (fun p hp e => tab_uniq (lu W) (lm__law_refused_right W) p hp e) (fun A2 outer2 s2 H2 E2 f2 c2 hr tk => (pd_frz (pd_make rfl tk hr (mk_Amount W (by decide)) (g_Amount W) (pad_cons (pd_var 3) pad_nil)))) (L := LamX.lamS_by (show LamX.lamSB d__law_refused_right.scope _ = true from by decide +kernel))) pad_nil))) (pb_one (psd_ret (pd_cmp (od_eq (eqo_qA W _ rfl rfl rfl rfl rfl) hr (by decide)) (pd_frz (pd_var 4)) (pd_lst (pad_cons pd_str (pad_cons pd_str (pad_cons pd_str (pad_cons pd_str (pad_cons pd_str (pad_cons pd_non pad_nil))))))) (L2.nomark _))))))))))))))
theorem fn__law_refused_right {P : Program} {w : World} {K : PySem.W.Frag} {mg : Str → Option Value} {base : Heap} (W : Wk K mg base) : FnD P w (sy W) mg base 67 (d__law_refused_right.at_ K) 1 [] (sp__law_refused_right (sy W)) := by
  obtain ⟨fd, F⟩ := W.says.def_ 31 (d := d__law_refused_right) rfl
  exact fnD_mk (ps := ["_law_pen_here"]) (S := sy W) F (fnL_of (S := sy W) F sc__law_refused_right (len__law_refused_right (sy W)) (dv__law_refused_right W) (pf__law_refused_right (sy W))) fun _ _ _ _ _ _ us hl => match us, hl with | [_], _ => rfl
theorem g__law_pen (W : Wk K mg base) : mg "_law_pen" = some (.ref (ga K "_law_pen")) := He.glo_ok W.kin W.ns (fa_69 W)
theorem b_range (W : Wk K mg base) : mg "range" = none := He.free_ok W.kin W.ns (fa_70 W)
theorem g__law_right (W : Wk K mg base) : mg "_law_right" = some (.ref (ga K "_law_right")) := He.glo_ok W.kin W.ns (fa_71 W)
theorem g__law_refused_right (W : Wk K mg base) : mg "_law_refused_right" = some (.ref (ga K "_law_refused_right")) := He.glo_ok W.kin W.ns (fa_72 W)
theorem sc_law : FnScope ["_law_script", "_law_pen_here", "_law_turn"] ["_law_script"] (defScope s_law) := ⟨rfl, rfl, rfl, by decide +kernel, rfl, by decide +kernel, by decide +kernel⟩
theorem dv_law {P : Program} {w : World} {K : PySem.W.Frag} {mg : Str → Option Value} {base : Heap} (W : Wk K mg base) : ∀ (cdv : Value) (A : Around) (outer : List Env) (s : Shared) (H : Hp) (E : XK), Qt A → Room 79 (A.deeper (envOfC d_law.qual d_law.scope s.heap.objs.size (d_law.at_ K) cdv)) →
    Takes (cxOf (L2.CX P w) P w K mg base ["_law_script", "_law_pen_here", "_law_turn"] d_law.qual d_law.scope (d_law.at_ K) cdv A outer s H E) (fun cls d _ H => E cls d H) → PBd (cxOf (L2.CX P w) P w K mg base ["_law_script", "_law_pen_here", "_law_turn"] d_law.qual d_law.scope (d_law.at_ K) cdv A outer s H E) (sy W) (fun cls d _ H => E cls d H) d_law.body (t_law (sy W)) :=
  fun cdv A outer s H E gd0 hr tk => have gd : Qt (A.deeper (envOfC d_law.qual d_law.scope s.heap.objs.size (d_law.at_ K) cdv)) := gd0.deeper _; (pb_cons (psd_set sc_law.nd (pd_call rfl tk hr ((fn__law_pen W).mono (by decide)) (g__law_pen W) (pad_cons (pd_var 0) pad_nil))) (pb_cons (psd_for (L2.passes_of rfl) rfl (pid_range1 (pad_cons pd_int pad_nil) (b_range W)) (pgd_name sc_law.nd) (pb_one (psd_if (PWd.pt (pw_or (pt_notD (pt_plain rfl (pd_callG rfl tk gd hr ((fn__law_right W).mono (by decide)) (g__law_right W) (pad_cons (pd_var 1) pad_nil)))) (pw_or1 (pt_notD (pt_plain rfl (pd_call rfl tk hr ((fn__law_refused_right W).mono (by decide)) (g__law_refused_right W) (pad_cons (pd_var 1) pad_nil))))))) (pb_one (psd_ret pd_bl)) pb_nil))) (pb_one (psd_ret (pd_cmp (od_eq (eqo_qA W _ rfl rfl rfl rfl rfl) hr (by decide)) (pd_lst (pad_cons (pd_attr rfl hr (ao_bottom W rfl rfl rfl rfl (by decide)) rfl (pd_frz (pd_make rfl tk hr (mk_Amount W (by decide)) (g_Amount W) (pad_cons pd_int (pad_cons (pd_negD rfl tk hr (mo_neg W (by decide)) pd_int) pad_nil))))) (pad_cons (pd_str1 rfl tk hr (mo_str W (by decide)) (pd_frz (pd_make rfl tk hr (mk_Amount W (by decide)) (g_Amount W) (pad_cons pd_int (pad_cons (pd_negD rfl tk hr (mo_neg W (by decide)) pd_int) pad_nil)))) (b_str W)) (pad_cons (pd_cmp (od_eq (eqo_qA W _ rfl rfl rfl rfl rfl) hr (by decide)) (pd_frz (pd_make rfl tk hr (mk_Amount W (by decide)) (g_Amount W) (pad_cons pd_int (pad_cons pd_int pad_nil)))) pd_int (L2.nomark _)) (pad_cons (pd_bool1 rfl tk hr (mo_bool W (by decide)) (pd_frz (pd_make rfl tk hr (mk_Amount W (by decide)) (g_Amount W) (pad_cons pd_int pad_nil))) (b_bool W)) pad_nil))))) (pd_lst (pad_cons pd_int (pad_cons pd_str (pad_cons pd_bl (pad_cons pd_bl pad_nil))))) (L2.nomark _))))))
theorem fn_law {P : Program} {w : World} {K : PySem.W.Frag} {mg : Str → Option Value} {base : Heap} (W : Wk K mg base) : FnDG P w (sy W) mg base 80 (d_law.at_ K) 1 [] (sp_law (sy W)) := by
  obtain ⟨fd, F⟩ := W.says.def_ 32 (d := d_law) rfl
  exact fnDG_mk (ps := ["_law_script"]) (S := sy W) F (fnG_of (S := sy W) F sc_law (len_law (sy W)) (dv_law W) (pf_law (sy W))) fun _ _ _ _ _ _ us hl => match us, hl with | [_], _ => rfl
theorem g_law (W : Wk K mg base) : mg "law" = some (.ref (ga K "law")) := He.glo_ok W.kin W.ns (fa_73 W)
end Mv.K02
end
section
set_option Elab.async false
set_option linter.all false
set_option maxRecDepth 100000
set_option maxHeartbeats 0
namespace Mv.K02
open PySem PySem.Spec L2 PyProof.Rows
abbrev R : PySem.W.OpenRow := PySem.W.OpenLaw.row PySem.Challenge.rw_movedsums_k02_amounts_in_lowest_terms
abbrev hk : PySem.W.Hook := hookMT 5 mf fn
def ob (s : PySem.W.SharedT) : He.AlD := obsMT 5 mf fn (HandSHeadRun.getT s)
theorem ob_eq (s : PySem.W.SharedT) : ob s = hk.obs s.abs := obsMT_eq (HandSHeadRun.getT_eq s)
def loose : List PySem.Str := (["_wall", "FIGURES", "is_integer", "count_in", "common_divisor", "MoneyError", "BadInput", "BadAmount", "BadText", "lowest", "parts_of", "Amount", "times_of", "parts_told", "_law_pen", "_law_draw", "_law_pick", "_law_number", "_law_divisor", "_law_heard", "_law_right"] : List PySem.Str)
theorem run (w : World) : HandSHeadRun.RunEq R (PySem.W.view R.prog [25, 26]) hk ob 6000 loose w := by
  intro os
  kernel_rfl
end Mv.K02
end
set_option Elab.async false
set_option linter.all false
set_option maxRecDepth 100000
set_option maxHeartbeats 0

namespace Mv.K02
open PySem PySem.Spec L2 PyProof.Rows
open He (ga ma)
abbrev nms (K : PySem.W.Frag) : List (Str × Addr) := [("_law_refused_right", ga K "_law_refused_right")]
abbrev q0 : Program := PySem.W.view (PySem.W.OpenLaw.row PySem.Challenge.rw_movedsums_k02_amounts_in_lowest_terms).prog [25, 26]
abbrev sy0 {K : PySem.W.Frag} (c : SaysM mf fn K) : Sy := syK cn cpl K (c.fact 0 rfl) (lamT K)
theorem nmsOk {K : PySem.W.Frag} {h : Heap} {mg : Str → Option Value} (X : K.In h) (G : h.Ns mainGlobals mg) (c : SaysM mf fn K) : ∀ p ∈ nms K, ((recsOf q0).any fun e => e.name == p.1) = true ∧ mg p.1 = some (.ref p.2) ∧ (∃ o fd, K.lookup p.2 = some o ∧ o.data = .func fd) ∧ lamB K p.2 = true := by
  intro p hp
  rcases List.mem_cons.mp hp with rfl | hp
  · obtain ⟨fd, F⟩ := c.def_ 31 (d := d__law_refused_right) rfl
    obtain ⟨oc, od, dV, kV, doc, pm, an, cdv, ct, osl, rfl, lk, _⟩ := F.ex
    exact ⟨by kernel_rfl, He.glo_ok X G (c.fact 72 rfl), ⟨_, _, lk, rfl⟩, c.fact 68 rfl⟩
  exact absurd hp (by simp)
theorem facts {P : Program} {w : World} {K : PySem.W.Frag} {h : Heap} {mg : Str → Option Value} {f : Addr} (X : K.In h) (G : h.Ns mainGlobals mg) (hfa : mg ("law" : Str) = some (.ref f)) (c : SaysM mf fn K) :
    ∃ fd : FuncData, (∀ (s : Shared) (v : Value), BindsTo s fd ⟨[v], []⟩ [("_law_script", v)]) ∧ ∃ sp : Sp, (∀ (H : Hp) (a : Addr) (ns : List Int), ns.length ≤ 63 → (∀ p ∈ nms K, H (tabA K p.2) = some (.tbl #[])) → SqL K H a (ns.map V.int) → sp [.ref a] H (fun v _ => v = .bl true) fun _ _ _ => False) ∧ ∀ base : Heap, K.In base → base.Ns mainGlobals mg → (∀ p ∈ nms K, LamX.TabB base mg (codeA K p.2) (tabA K p.2)) → FnG P w K mg base 80 f fd ["_law_script"] sp := by
  obtain ⟨fd, F⟩ := c.def_ 32 (d := d_law) rfl
  have e := hfa.symm.trans (He.glo_ok X G (c.fact 73 rfl))
  cases e
  refine ⟨fd, fun s v => FunD.bindsA (ps := ["_law_script"]) F (fun _ _ _ _ _ _ us hl => match us, hl with | [_], _ => rfl) s [v] rfl, upSp (sy0 c) (sp_law (sy0 c)), fun H a ns hl hT hS => ?_, fun base k1 k2 k3 => ?_⟩
  · refine law_start (S := sy0 c) (show 0 ∈ cpl by decide) hl hS (tabs_nil fun p hp => ?_)
    rcases List.mem_cons.mp hp with rfl | hp
    · exact hT _ (.head _)
    exact absurd hp (by simp)
  · have W : Wk K mg base := ⟨c, k1, k2, fun f hf => by
      rcases List.mem_cons.mp hf with rfl | hf
      · exact k3 ("_law_refused_right", ga K "_law_refused_right") (.head _)
      exact absurd hf (by simp)⟩
    exact fnG_of (S := sy W) F sc_law (len_law (sy W)) (dv_law W) (pf_law (sy W))
end Mv.K02
open PySem PySem.W PySem.Calls PyProof.Rows
theorem PySem.Challenge.cw_movedsums_k02_amounts_in_lowest_terms_holds : PySem.Challenge.rw_movedsums_k02_amounts_in_lowest_terms.Holds := by
  w_on; o_law
  refine HandSHeadRun.head_any (r := OpenLaw.row PySem.Challenge.rw_movedsums_k02_amounts_in_lowest_terms) (q := view (OpenLaw.row PySem.Challenge.rw_movedsums_k02_amounts_in_lowest_terms).prog [25, 26]) (H := Mv.K02.hk) (ob := Mv.K02.ob) (M := 6000) (loose := Mv.K02.loose) (d := HandSHeadRun.topDef (OpenLaw.row PySem.Challenge.rw_movedsums_k02_amounts_in_lowest_terms).prog 26) (kwd := []) Mv.K02.ob_eq
    (by kernel_rfl) (fun s => by kernel_rfl) Mv.K02.run (by kernel_rfl) (by kernel_rfl) (by kernel_rfl) (by rfl) (by first | assumption | decide +kernel) (by decide +kernel) ⟨rfl, rfl, rfl, rfl, rfl, by decide +kernel⟩ ?hw ?hc
  case hw => w_witness2
  case hc =>
    refine Mv.walk_goT (l := PySem.Challenge.rw_movedsums_k02_amounts_in_lowest_terms) (n := 63) (k := 80) (x := "_law_script") rfl (by decide) (by kernel_rfl) ⟨rfl, by decide, by decide⟩ ?F
    intro w mg fa h Y G hmg0
    obtain ⟨K, KX, c⟩ := Y
    have hmg : mg ("law" : PySem.Str) = some (.ref fa) := by
      have e : (HandSHeadRun.topDef (OpenLaw.row PySem.Challenge.rw_movedsums_k02_amounts_in_lowest_terms).prog 26).name = ("law" : PySem.Str) := by kernel_rfl
      rw [← e]
      exact hmg0
    obtain ⟨fd, hb, sp, hsp, hF⟩ := Mv.K02.facts (P := (PySem.Challenge.rw_movedsums_k02_amounts_in_lowest_terms).prog) (w := w) KX G hmg c
    exact ⟨K, fd, sp, Mv.K02.nms K, KX, hb, Mv.K02.nmsOk KX G c, fun H a ns hl hT hS => hsp H a ns hl hT hS, hF⟩
