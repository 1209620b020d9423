import PyProof.Rows.All
import Wide.All
import OpenK.AllK
import Wide.FinOn
import HandS.ForMost
import HandS.Evl
import HandS.Lambda
import HandS.ExcInit
import HandS.Property
import HandS.Defaults
import HandS.Exc
import HandS.ExcOwn
import HandS.WordsExc
import HandS.Wide
import HandS.OwnEq
import KE.KOpsOwn
import HandS.List
import HandS.Text
import HandS.Codes
import HandS.Dict
import HandS.RaiseMore
import HandS.WordsDict
import HandS.IsInst
import HandS.AnyAll
import HandS.Comp
import HandS.FStr
import HandS.Small
import PyProof.NeKinds
import HandS.ClsMeth
import HandS.HeadNt
import HandS.Style
import HandS.HeadEnd
import HandS.Head0
import HandS.Head1
import HandS.Head2
import KE.KCallOwn
import KE.KFmtOwn
import PyProof.Rows.RuleN_abs
import HandS.EndBits
import PyProof.ReprRoads
import OpenK.KMore
import HandS.ExcField
import HandS.ExcIs
import KE.KExcIs
import KE.KExcInit
import HandS.ExcValue
import HandS.EndTab
import HandS.EndOwn
import PyProof.StrOps2
import KE.KRevSl
import KE.KSuper
import HandS.Nested
import HandS.Star
import HandS.DictComp
import HandS.TryOnly
import HandS.Zip
import HandS.TupLen
import PySem.Challenge.RW_movedsums_k01_errors_and_their_fields
section
set_option Elab.async false
set_option linter.all false
set_option maxRecDepth 100000
set_option maxHeartbeats 4000000
namespace Mv
open PySem PySem.Spec L2
open Evl (Ex ex_l ex_t ex_rd)
structure Tab where
  nm : Nat → Str
  inj : ∀ i j, nm i = nm j → i = j
inductive D where
  | non | bl (b : Bool) | int (i : Int) | str (s : Str) | ty (n : String)
  | ptr (a : Addr)
  | tup (ds : List D) | lst (ds : List D)
  | dK (kvs : List (Key × D)) | dT (kvs : List (List Key × D))
  | ins (c : Nat) (fs : List (Nat × D))
  | exn (c : Nat) (fs : List (Nat × D))
  /-- a list that came in from outside: it is only cut -/
  | frl (ds : List D)
  /-- a lambda -/
  | lam (f c : Addr) (q : Str) (F0 : Hp)
structure Sy where
  K : PySem.W.Frag
  t : Tab
  ca : Nat → Addr
  cai : ∀ i j, ca i = ca j → i = j
  /-- the classes that the text has -/
  cl : List Nat
  /-- the tables of code objects, each with the name that its lambdas bear -/
  T : List (Addr × Str) := []
def exK (a C dx : Addr) : HO := .ext fun h => ∃ (oe : Obj) (vs : Array Value), h.get? a = some oe ∧ oe.cls = .ref C ∧ oe.dict = some dx ∧ oe.data = .fields vs
def exN (a C : Addr) : HO := .ext fun h => ∃ (oe : Obj) (vs : Array Value), h.get? a = some oe ∧ oe.cls = .ref C ∧ oe.dict = none ∧ oe.data = .fields vs
def TpU (K : PySem.W.Frag) (F : Hp) (a : Addr) (vs : List V) : Prop := SqT K F a vs ∧ (F a = some (.tup vs) ∨ (vs.length ≠ 1 ∧ vs.length ≠ 2))
theorem TpU.new {K : PySem.W.Frag} {F : Hp} {a : Addr} {vs : List V} (h : F a = some (.tup vs)) : TpU K F a vs := ⟨SqT.of h, .inl h⟩
theorem TpU.ex {K : PySem.W.Frag} {F F' : Hp} {a : Addr} {vs : List V} (h : TpU K F a vs) (e : Ex F F') : TpU K F' a vs := ⟨ex_t e h.1, h.2.imp (e _ _) id⟩
section
variable (S : Sy) (F : Hp)
mutual
inductive Rp : V → D → Prop
  | non : Rp .non .non
  | bl (b : Bool) : Rp (.bl b) (.bl b)
  | int (i : Int) : Rp (.int i) (.int i)
  | str (s : Str) : Rp (.str s) (.str s)
  | ty (n : String) : Rp (.ty n) (.ty n)
  | ptr (a : Addr) : Rp (.ref a) (.ptr a)
  | tup {a : Addr} {vs : List V} {ds : List D} : TpU S.K F a vs → Rps vs ds → Rp (.ref a) (.tup ds)
  | lst {a : Addr} {vs : List V} {ds : List D} : F a = some (.lst vs) → Rps vs ds → Rp (.ref a) (.lst ds)
  | dK {a : Addr} {od : Obj} {vs : List (Key × V)} {ds : List (Key × D)} : F a = some (.frz od (.dK vs)) → Rpk vs ds → Rp (.ref a) (.dK ds)
  | dT {a : Addr} {od : Obj} {vs : List (List Key × V)} {ds : List (List Key × D)} : F a = some (.frz od (.dT vs)) → Rpt vs ds → Rp (.ref a) (.dT ds)
  | frl {a : Addr} {vs : List V} {ds : List D} : SqL S.K F a vs → Rps vs ds → Rp (.ref a) (.frl ds)
  | ins {a dx : Addr} {c : Nat} {vs : List (Str × V)} {fs : List (Nat × D)} : F a = some (.ins (S.ca c) dx vs) → Rpf vs fs → Rp (.ref a) (.ins c fs)
  | exn {a dx : Addr} {c : Nat} {vs : List (Str × V)} {fs : List (Nat × D)} : F a = some (exK a (S.ca c) dx) → F dx = some (.xd vs) → Rpf vs fs → Rp (.ref a) (.exn c fs)
  | exn0 {a : Addr} {c : Nat} : F a = some (exN a (S.ca c)) → Rp (.ref a) (.exn c [])
  | lam {f c : Addr} {q : Str} {F0 : Hp} : F c = some (LamX.CodeO c q) → Ex F0 F → Rp (.ref f) (.lam f c q F0)
inductive Rps : List V → List D → Prop
  | nil : Rps [] []
  | cons {v : V} {d : D} {vs : List V} {ds : List D} : Rp v d → Rps vs ds → Rps (v :: vs) (d :: ds)
inductive Rpk : List (Key × V) → List (Key × D) → Prop
  | nil : Rpk [] []
  | cons {k : Key} {v : V} {d : D} {vs : List (Key × V)} {ds : List (Key × D)} : Rp v d → Rpk vs ds → Rpk ((k, v) :: vs) ((k, d) :: ds)
inductive Rpt : List (List Key × V) → List (List Key × D) → Prop
  | nil : Rpt [] []
  | cons {k : List Key} {v : V} {d : D} {vs : List (List Key × V)} {ds : List (List Key × D)} : Rp v d → Rpt vs ds → Rpt ((k, v) :: vs) ((k, d) :: ds)
inductive Rpf : List (Str × V) → List (Nat × D) → Prop
  | nil : Rpf [] []
  | cons {k : Nat} {v : V} {d : D} {vs : List (Str × V)} {ds : List (Nat × D)} : Rp v d → Rpf vs ds → Rpf ((S.t.nm k, v) :: vs) ((k, d) :: ds)
end
end
section
variable {S : Sy} {F F' : Hp}
mutual
theorem Rp.mono (e : Ex F F') : ∀ {v : V} {d : D}, Rp S F v d → Rp S F' v d
  | _, _, .non => .non
  | _, _, .bl b => .bl b
  | _, _, .int i => .int i
  | _, _, .str s => .str s
  | _, _, .ty n => .ty n
  | _, _, .ptr a => .ptr a
  | _, _, .tup h r => .tup (h.ex e) (Rps.mono e r)
  | _, _, .lst h r => .lst (e _ _ h) (Rps.mono e r)
  | _, _, .frl h r => .frl (ex_l e h) (Rps.mono e r)
  | _, _, .dK h r => .dK (e _ _ h) (Rpk.mono e r)
  | _, _, .dT h r => .dT (e _ _ h) (Rpt.mono e r)
  | _, _, .ins h r => .ins (e _ _ h) (Rpf.mono e r)
  | _, _, .exn h h2 r => .exn (e _ _ h) (e _ _ h2) (Rpf.mono e r)
  | _, _, .exn0 h => .exn0 (e _ _ h)
  | _, _, .lam h h2 => .lam (e _ _ h) (h2.trans e)
theorem Rps.mono (e : Ex F F') : ∀ {v : List V} {d : List D}, Rps S F v d → Rps S F' v d
  | _, _, .nil => .nil
  | _, _, .cons h r => .cons (Rp.mono e h) (Rps.mono e r)
theorem Rpk.mono (e : Ex F F') : ∀ {v : List (Key × V)} {d : List (Key × D)}, Rpk S F v d → Rpk S F' v d
  | _, _, .nil => .nil
  | _, _, .cons h r => .cons (Rp.mono e h) (Rpk.mono e r)
theorem Rpt.mono (e : Ex F F') : ∀ {v : List (List Key × V)} {d : List (List Key × D)}, Rpt S F v d → Rpt S F' v d
  | _, _, .nil => .nil
  | _, _, .cons h r => .cons (Rp.mono e h) (Rpt.mono e r)
theorem Rpf.mono (e : Ex F F') : ∀ {v : List (Str × V)} {d : List (Nat × D)}, Rpf S F v d → Rpf S F' v d
  | _, _, .nil => .nil
  | _, _, .cons h r => .cons (Rp.mono e h) (Rpf.mono e r)
end
theorem Rps.length : ∀ {vs : List V} {ds : List D}, Rps S F vs ds → vs.length = ds.length
  | _, _, .nil => rfl
  | _, _, .cons _ r => congrArg (· + 1) (Rps.length r)
theorem Rps.append : ∀ {vs ws : List V} {ds es : List D}, Rps S F vs ds → Rps S F ws es → Rps S F (vs ++ ws) (ds ++ es)
  | _, _, _, _, .nil, s => s
  | _, _, _, _, .cons r t, s => .cons r (Rps.append t s)
theorem Rpf.length : ∀ {vs : List (Str × V)} {ds : List (Nat × D)}, Rpf S F vs ds → vs.length = ds.length
  | _, _, .nil => rfl
  | _, _, .cons _ r => congrArg (· + 1) (Rpf.length r)
def putN (i : Nat) (d : D) : List (Nat × D) → List (Nat × D)
  | [] => [(i, d)]
  | (k, x) :: r => if k = i then (k, d) :: r else (k, x) :: putN i d r
theorem Rpf.put {i : Nat} {v : V} {d : D} (r0 : Rp S F v d) : ∀ {vs : List (Str × V)} {fs : List (Nat × D)}, Rpf S F vs fs → Rpf S F (putF (S.t.nm i) v vs) (putN i d fs)
  | _, _, .nil => .cons r0 .nil
  | _, _, .cons (k := k) (v := w) (vs := vs) (ds := ds) r t => by
    show Rpf S F (if S.t.nm k = S.t.nm i then (S.t.nm k, v) :: vs else (S.t.nm k, w) :: putF (S.t.nm i) v vs) (if k = i then (k, d) :: ds else (k, _) :: putN i d ds)
    by_cases h : k = i
    · rw [if_pos h, if_pos (congrArg _ h)]
      exact .cons r0 t
    · rw [if_neg h, if_neg fun q => h (S.t.inj _ _ q)]
      exact .cons r (Rpf.put r0 t)
end
inductive M where
  | lst (ds : List D) | dK (kvs : List (Key × D)) | dT (kvs : List (List Key × D)) | ins (c : Nat) (fs : List (Nat × D)) | lkK (od : Obj) (vs : List (Key × V)) (kvs : List (Key × D)) | lkT (od : Obj) (vs : List (List Key × V)) (kvs : List (List Key × D))
def M.d : M → D
  | .lst ds => .lst ds
  | .dK k => .dK k
  | .dT k => .dT k
  | .ins c fs => .ins c fs
  | .lkK _ _ k => .dK k
  | .lkT _ _ k => .dT k
def M.fz : M → Bool
  | .dK .. => false
  | .dT .. => false
  | .lkK .. => false
  | .lkT .. => false
  | _ => true
abbrev Wd := Addr → Option M
def put (W : Wd) (a : Addr) (m : M) : Wd := fun b => if b = a then some m else W b
def cut (W : Wd) (a : Addr) : Wd := fun b => if b = a then none else W b
theorem put_same {W : Wd} {a : Addr} {m : M} : put W a m a = some m := if_pos rfl
theorem put_ne {W : Wd} {a b : Addr} {m : M} (h : b ≠ a) : put W a m b = W b := if_neg h
def MO (S : Sy) (F : Hp) (o : Option HO) : M → Prop
  | .lst ds => ∃ vs, o = some (.lst vs) ∧ Rps S F vs ds
  | .dK ds => ∃ vs, o = some (.dK vs) ∧ Rpk S F vs ds
  | .dT ds => ∃ vs, o = some (.dT vs) ∧ Rpt S F vs ds
  | .ins c fs => ∃ dx vs, o = some (.ins (S.ca c) dx vs) ∧ Rpf S F vs fs
  | .lkK od vs ds => o = some (.frz od (.dK vs)) ∧ Rpk S F vs ds
  | .lkT od vs ds => o = some (.frz od (.dT vs)) ∧ Rpt S F vs ds
theorem MO.mono {S : Sy} {F F' : Hp} (e : Ex F F') {o : Option HO} {m : M} (h : MO S F o m) : MO S F' o m := by
  cases m with
  | lst ds => obtain ⟨vs, a, b⟩ := h; exact ⟨vs, a, b.mono e⟩
  | dK ds => obtain ⟨vs, a, b⟩ := h; exact ⟨vs, a, b.mono e⟩
  | dT ds => obtain ⟨vs, a, b⟩ := h; exact ⟨vs, a, b.mono e⟩
  | ins c fs => obtain ⟨dx, vs, a, b⟩ := h; exact ⟨dx, vs, a, b.mono e⟩
  | lkK od vs ds => exact ⟨h.1, h.2.mono e⟩
  | lkT od vs ds => exact ⟨h.1, h.2.mono e⟩
structure Rel (S : Sy) (F : Hp) (W : Wd) (H : Hp) : Prop where
  sub : Ex F H
  obj : ∀ a m, W a = some m → F a = none ∧ MO S F (H a) m
  tab : LamX.Tabs S.T H
  nt : ∀ b ps, F b ≠ some (.tbl ps)
theorem tabs_upd {T : List (Addr × Str)} {H : Hp} {p : Addr} {o0 o : HO} (t : LamX.Tabs T H) (h : H p = some o0) (n1 : ∀ ps, o0 ≠ .tbl ps) (n2 : ∀ φ, o0 ≠ .ext φ) : LamX.Tabs T (upd H p o) := fun q hq => by
  obtain ⟨ps, h1, h2, h3⟩ := t q hq
  refine ⟨ps, ?_, h2, fun pos cv hc => ?_⟩
  · rw [upd_ne (fun z => n1 ps (by rw [z, h] at h1; exact Option.some.inj h1))]
    exact h1
  · obtain ⟨c, e1, e2⟩ := h3 pos cv hc
    refine ⟨c, e1, ?_⟩
    rw [upd_ne (fun z => n2 _ (by rw [z, h] at e2; exact Option.some.inj e2))]
    exact e2
theorem MO.at_ {S : Sy} {F : Hp} {o : Option HO} {m : M} (h : MO S F o m) : ∃ o0, o = some o0 ∧ (∀ ps, o0 ≠ .tbl ps) ∧ ∀ φ, o0 ≠ .ext φ := by
  cases m with
  | lst ds => obtain ⟨vs, a, b⟩ := h; exact ⟨_, a, fun _ z => (by cases z), fun _ z => (by cases z)⟩
  | dK ds => obtain ⟨vs, a, b⟩ := h; exact ⟨_, a, fun _ z => (by cases z), fun _ z => (by cases z)⟩
  | dT ds => obtain ⟨vs, a, b⟩ := h; exact ⟨_, a, fun _ z => (by cases z), fun _ z => (by cases z)⟩
  | ins c fs => obtain ⟨dx, vs, a, b⟩ := h; exact ⟨_, a, fun _ z => (by cases z), fun _ z => (by cases z)⟩
  | lkK od vs ds => obtain ⟨a, b⟩ := h; exact ⟨_, a, fun _ z => (by cases z), fun _ z => (by cases z)⟩
  | lkT od vs ds => obtain ⟨a, b⟩ := h; exact ⟨_, a, fun _ z => (by cases z), fun _ z => (by cases z)⟩
theorem nt_upd {F : Hp} {p : Addr} {o : HO} (n : ∀ b ps, F b ≠ some (.tbl ps)) (h : ∀ ps, o ≠ .tbl ps) : ∀ b ps, upd F p o b ≠ some (.tbl ps) := fun b ps e => by
  by_cases q : b = p
  · subst q
    rw [upd_same] at e
    exact h ps (Option.some.inj e)
  · rw [upd_ne q] at e
    exact n b ps e
section
variable {S : Sy} {F F' : Hp} {W : Wd} {H : Hp}
theorem Rel.set (r : Rel S F W H) {p : Addr} {o : HO} {m0 m : M} (h : W p = some m0) (mo : MO S F (some o) m) : Rel S F (put W p m) (upd H p o) := by
  have hf := (r.obj p m0 h).1
  obtain ⟨o0, ho, n1, n2⟩ := (r.obj p m0 h).2.at_
  refine ⟨fun b u e => ?_, fun a n e => ?_, tabs_upd r.tab ho n1 n2, r.nt⟩
  · rw [upd_ne (ne_of_none e hf)]
    exact r.sub b u e
  · by_cases q : a = p
    · subst q
      rw [put_same] at e
      cases e
      rw [upd_same]
      exact ⟨hf, mo⟩
    · rw [put_ne q] at e
      rw [upd_ne q]
      exact r.obj a n e
theorem Rel.frz (r : Rel S F W H) {p : Addr} {m : M} (h : W p = some m) (hm : m.fz = true := by rfl) : ∃ F', Ex F F' ∧ Rel S F' (cut W p) H ∧ Rp S F' (.ref p) m.d := by
  obtain ⟨hf, mo⟩ := r.obj p m h
  obtain ⟨o0, ho0, n1, n2⟩ := mo.at_
  have key : ∀ o, H p = some o → Rel S (upd F p o) (cut W p) H := fun o ho => by
    have eo : o = o0 := Option.some.inj (ho.symm.trans ho0)
    refine ⟨fun b u e => ?_, fun a n e => ?_, r.tab, nt_upd r.nt (by rw [eo]; exact n1)⟩
    · by_cases q : b = p
      · subst q; rw [upd_same] at e; rw [← e]; exact ho
      · rw [upd_ne q] at e; exact r.sub b u e
    · have q : a ≠ p := fun z => by
        rw [z] at e
        have e' : (if p = p then none else W p) = some n := e
        rw [if_pos rfl] at e'
        cases e'
      have e' : W a = some n := by
        have e2 : (if a = p then none else W a) = some n := e
        rw [if_neg q] at e2
        exact e2
      obtain ⟨f, mo⟩ := r.obj a n e'
      rw [upd_ne q]
      exact ⟨f, mo.mono (Ex.new hf)⟩
  cases m with
  | lst ds =>
    obtain ⟨vs, a, b⟩ := mo
    exact ⟨_, Ex.new hf, key _ a, .lst upd_same (b.mono (Ex.new hf))⟩
  | dK ds => cases hm
  | dT ds => cases hm
  | ins c fs =>
    obtain ⟨dx, vs, a, b⟩ := mo
    exact ⟨_, Ex.new hf, key _ a, .ins upd_same (b.mono (Ex.new hf))⟩
  | lkK od vs ds => cases hm
  | lkT od vs ds => cases hm
end
section
variable {S : Sy} {F F' : Hp} {W : Wd} {H : Hp}
end
abbrev SD := List (Option D)
structure SRel (S : Sy) (F : Hp) (σ : St) (sd : SD) : Prop where
  len : σ.length = sd.length
  at_ : ∀ (i : Nat) (d : D), sd[i]? = some (some d) → ∃ v, σ[i]? = some (some v) ∧ Rp S F v d
section
variable {S : Sy} {F F' : Hp} {σ : St} {sd : SD}
theorem SRel.set {i : Nat} {v : V} {d : D} (r : SRel S F σ sd) (h : Rp S F v d) : SRel S F (σ.set i (some v)) (sd.set i (some d)) := by
  refine ⟨by simp [r.len], fun j e q => ?_⟩
  by_cases z : j = i
  · subst z
    by_cases l : j < sd.length
    · rw [List.getElem?_set_self l] at q
      cases q
      exact ⟨v, by rw [List.getElem?_set_self (by rw [r.len]; exact l)], h⟩
    · rw [List.getElem?_eq_none (by simp; omega)] at q
      cases q
  · rw [List.getElem?_set_ne (Ne.symm z)] at q ⊢
    exact r.at_ j e q
end
abbrev XS := Value → Option Addr → St → Hp → Prop
abbrev QD := D → Wd → Prop
abbrev QX := D → SD → Wd → Prop
abbrev DE := SD → Wd → QD → QX → Prop
abbrev DT := SD → Wd → (Bool → Wd → Prop) → QX → Prop
abbrev DA := SD → Wd → (List D → Wd → Prop) → QX → Prop
structure DEnds where
  nx : SD → Wd → Prop
  rt : QD
  bk : SD → Wd → Prop := fun _ _ => False
  ct : SD → Wd → Prop := fun _ _ => False
abbrev DS := DEnds → SD → Wd → QX → Prop
def XCv (S : Sy) (F : Hp) (E2 : QX) (E : XS) : Prop := ∀ F' (dx : Addr) vs c fs σ' sd' W' H', Ex F F' → Rel S F' W' H' → SRel S F' σ' sd' → F' dx = some (.xd vs) → Rpf S F' vs fs → E2 (.exn c fs) sd' W' → E (.ref (S.ca c)) (some dx) σ' H'
def QCv (S : Sy) (F : Hp) (Q2 : QD) (Q : VK) : Prop := ∀ F' v d W' H', Ex F F' → Rel S F' W' H' → Rp S F' v d → Q2 d W' → Q v H'
def SCv (S : Sy) (F : Hp) (Q2 : SD → Wd → Prop) (Q : St → Hp → Prop) : Prop := ∀ F' σ' sd' W' H', Ex F F' → Rel S F' W' H' → SRel S F' σ' sd' → Q2 sd' W' → Q σ' H'
structure ECv (S : Sy) (F : Hp) (D2 : DEnds) (D1 : Ends) : Prop where
  nx : SCv S F D2.nx D1.nx
  rt : QCv S F D2.rt D1.rt
  bk : SCv S F D2.bk D1.bk
  ct : SCv S F D2.ct D1.ct
section
variable {S : Sy} {F F' : Hp} (e : Ex F F')
include e
end
section
variable (S : Sy) (E : XS)
end
end Mv
end
section
set_option Elab.async false
set_option linter.all false
set_option maxRecDepth 100000
set_option maxHeartbeats 4000000
namespace Mv
open PySem PySem.Spec L2
open Evl (Ex ex_l ex_t ex_rd)
section
variable (X : Cx) (S : Sy) (E : XS)
def DP (pins : List (Addr × Obj)) (σ : L2.St) (F : Hp) (Q2 : QD) (u : Value) (s' : Shared) : Prop :=
  ∃ v H' F' d W', Inv X pins σ H' s' ∧ RelV v u ∧ Ex F F' ∧ Rel S F' W' H' ∧ Rp S F' v d ∧ Q2 d W'
def NPd (pins : List (Addr × Obj)) (F : Hp) (Q2 : SD → Wd → Prop) (s' : Shared) : Prop :=
  ∃ σ' H' F' sd' W', Inv X pins σ' H' s' ∧ Ex F F' ∧ Rel S F' W' H' ∧ SRel S F' σ' sd' ∧ Q2 sd' W'
def RPd (pins : List (Addr × Obj)) (F : Hp) (Q2 : QD) (u : Value) (s' : Shared) : Prop :=
  ∃ v σ' H' F' d W', Inv X pins σ' H' s' ∧ RelV v u ∧ Ex F F' ∧ Rel S F' W' H' ∧ Rp S F' v d ∧ Q2 d W'
def SPd (pins : List (Addr × Obj)) (F : Hp) (D2 : DEnds) (f : Flow) (s' : Shared) : Prop :=
  match f with
  | .next => NPd X S pins F D2.nx s'
  | .brk => NPd X S pins F D2.bk s'
  | .cont => NPd X S pins F D2.ct s'
  | .ret u => RPd X S pins F D2.rt u s'
structure PSd (st : Stmt) (t : DS) : Prop where
  run : ∀ (pins : List (Addr × Obj)) (s : Shared) (σ : L2.St) (H F : Hp) (sd : SD) (W : Wd) (D2 : DEnds) (E2 : QX), Inv X pins σ H s → Rel S F W H → SRel S F σ sd → XCv S F E2 E → t D2 sd W E2 →
    wpAny (model X.prog X.w) X.A (exec st X.env) (SPd X S pins F D2) X.xe s
def upS (t : DS) : TS := fun D1 σ H => ∃ F sd W D2 E2, Rel S F W H ∧ SRel S F σ sd ∧ ECv S F D2 D1 ∧ XCv S F E2 E ∧ t D2 sd W E2
end
section
variable {X : Cx} {S : Sy} {E : XS}
theorem DP.ep {pins : List (Addr × Obj)} {σ : L2.St} {F : Hp} {Q2 : QD} {Q : VK} {u : Value} {s' : Shared} (h : DP X S pins σ F Q2 u s') (c : QCv S F Q2 Q) : EP X pins σ Q u s' := by
  obtain ⟨v, H', F', d, W', a1, a2, a3, a4, a5, a6⟩ := h
  exact ⟨v, H', a1, a2, c F' v d W' H' a3 a4 a5 a6⟩
theorem SPd.sp {pins : List (Addr × Obj)} {F : Hp} {D2 : DEnds} {D1 : Ends} {f : Flow} {s' : Shared} (h : SPd X S pins F D2 f s') (c : ECv S F D2 D1) : SP X pins D1 f s' := by
  cases f with
  | next => obtain ⟨σ', H', F2, sd, W, a1, a2, a3, a4, a5⟩ := h; exact ⟨σ', H', a1, c.nx F2 σ' sd W H' a2 a3 a4 a5⟩
  | brk => obtain ⟨σ', H', F2, sd, W, a1, a2, a3, a4, a5⟩ := h; exact ⟨σ', H', a1, c.bk F2 σ' sd W H' a2 a3 a4 a5⟩
  | cont => obtain ⟨σ', H', F2, sd, W, a1, a2, a3, a4, a5⟩ := h; exact ⟨σ', H', a1, c.ct F2 σ' sd W H' a2 a3 a4 a5⟩
  | ret u => obtain ⟨v, σ', H', F2, d, W, a1, a2, a3, a4, a5, a6⟩ := h; exact ⟨v, σ', H', a1, a2, c.rt F2 v d W H' a3 a4 a5 a6⟩
theorem PSd.ps {st : Stmt} {t : DS} (h : PSd X S E st t) : PS X st (upS S E t) := ⟨fun pins s σ H D1 I q => by
  obtain ⟨F, sd, W, D2, E2, r, sr, ec, xc, ht⟩ := q
  exact thn (h.run pins s σ H F sd W D2 E2 I r sr xc ht) fun f s' z => z.sp ec⟩
def tkE (S : Sy) (F : Hp) (D2 : DEnds) : Ends where
  nx := fun σ H => ∃ F' sd W, Ex F F' ∧ Rel S F' W H ∧ SRel S F' σ sd ∧ D2.nx sd W
  rt := fun v H => ∃ F' d W, Ex F F' ∧ Rel S F' W H ∧ Rp S F' v d ∧ D2.rt d W
  bk := fun σ H => ∃ F' sd W, Ex F F' ∧ Rel S F' W H ∧ SRel S F' σ sd ∧ D2.bk sd W
  ct := fun σ H => ∃ F' sd W, Ex F F' ∧ Rel S F' W H ∧ SRel S F' σ sd ∧ D2.ct sd W
theorem SP.tk {pins : List (Addr × Obj)} {F : Hp} {D2 : DEnds} {f : Flow} {s' : Shared} (h : SP X pins (tkE S F D2) f s') : SPd X S pins F D2 f s' := by
  cases f with
  | next => obtain ⟨σ', H', a1, F', sd, W, a2, a3, a4, a5⟩ := h; exact ⟨σ', H', F', sd, W, a1, a2, a3, a4, a5⟩
  | brk => obtain ⟨σ', H', a1, F', sd, W, a2, a3, a4, a5⟩ := h; exact ⟨σ', H', F', sd, W, a1, a2, a3, a4, a5⟩
  | cont => obtain ⟨σ', H', a1, F', sd, W, a2, a3, a4, a5⟩ := h; exact ⟨σ', H', F', sd, W, a1, a2, a3, a4, a5⟩
  | ret u => obtain ⟨v, σ', H', a1, a2, F', d, W, a3, a4, a5, a6⟩ := h; exact ⟨v, σ', H', F', d, W, a1, a2, a3, a4, a5, a6⟩
def tkQ (S : Sy) (F : Hp) (Q2 : QD) : VK := fun v H => ∃ F' d W, Ex F F' ∧ Rel S F' W H ∧ Rp S F' v d ∧ Q2 d W
theorem EP.tk {pins : List (Addr × Obj)} {σ : L2.St} {F : Hp} {Q2 : QD} {u : Value} {s' : Shared} (h : EP X pins σ (tkQ S F Q2) u s') : DP X S pins σ F Q2 u s' := by
  obtain ⟨v, H', a1, a2, F', d, W, a3, a4, a5, a6⟩ := h
  exact ⟨v, H', F', d, W, a1, a2, a3, a4, a5, a6⟩
abbrev D2 := D → D → SD → Wd → QD → QX → Prop
def OpD (X : Cx) (S : Sy) (E : XS) (f : Value → Value → Sem Value) (r : D2) : Prop :=
  ∀ (pins : List (Addr × Obj)) (s : Shared) (σ : L2.St) (H F : Hp) (sd : SD) (W : Wd) (x y : V) (c d : D) (v u : Value) (Q2 : QD) (E2 : QX), Inv X pins σ H s → Rel S F W H → SRel S F σ sd → XCv S F E2 E → RelV x v → RelV y u → Rp S F x c → Rp S F y d → r c d sd W Q2 E2 →
    wpAny (model X.prog X.w) X.A (f v u) (DP X S pins σ F Q2) X.xe s
theorem OpR.od {f : Value → Value → Sem Value} {r : R2} {rd : D2} (h : OpR X f r)
    (c : ∀ σ H F sd W x y c d Q2 E2, Rel S F W H → SRel S F σ sd → XCv S F E2 E → Rp S F x c → Rp S F y d → rd c d sd W Q2 E2 → r x y H (tkQ S F Q2)) : OpD X S E f rd :=
  fun pins s σ H F sd W x y cc d v u Q2 E2 I r sr xc rx ry px py q => thn (h pins s σ H x y v u _ I rx ry (c σ H F sd W x y cc d Q2 E2 r sr xc px py q)) fun u s' z => EP.tk z
end
end Mv
end
section
set_option Elab.async false
set_option linter.all false
set_option maxRecDepth 100000
set_option maxHeartbeats 4000000
namespace Mv
open PySem PySem.Spec L2
open Evl (Ex ex_l ex_t ex_rd)
section
variable {X : Cx} {S : Sy} {E : XS}
abbrev DG := D → SD → Wd → (SD → Wd → Prop) → Prop
end
end Mv
end
section
set_option Elab.async false
set_option linter.all false
set_option maxRecDepth 100000
set_option maxHeartbeats 4000000
namespace Mv
open PySem PySem.Spec L2
open Evl (Ex ex_l ex_t ex_rd)
open PyProof.Rows (envOfC)
abbrev DSp := List D → Wd → QD → QD → Prop
def XC0 (S : Sy) (F : Hp) (E2 : QD) (E : XK) : Prop := ∀ F' (dx : Addr) vs c fs W' H', Ex F F' → Rel S F' W' H' → F' dx = some (.xd vs) → Rpf S F' vs fs → E2 (.exn c fs) W' → E (.ref (S.ca c)) (some dx) H'
def upSp (S : Sy) (sp2 : DSp) : Sp := fun vs H Q E => ∃ F W ds Q2 E2, Rel S F W H ∧ Rps S F vs ds ∧ QCv S F Q2 Q ∧ XC0 S F E2 E ∧ sp2 ds W Q2 E2
structure FnD (P : Program) (w : World) (S : Sy) (mg : Str → Option Value) (base : Heap) (k : Nat) (f : Addr) (n : Nat) (dds : List D) (sp2 : DSp) : Prop where
  ex : ∃ (fd : FuncData) (ps : List Str) (dvs : List V), FnOk P w S.K mg base (L2.CX P w) k f fd ps (upSp S sp2) ∧ ps.length = n ∧ (∀ F, Rps S F dvs dds) ∧ ∀ j, j ≤ dds.length → ∃ dv, Vals (dvs.drop j) dv ∧ Binds S.K fd ps dv
  kp : PySem.W.keepIn S.K (.ref f) = true
section
variable {X : Cx} {S : Sy} {E : XS} {k : Nat} {f : Addr} {n : Nat} {dds : List D} {sp2 : DSp}
def kIns (W : Wd) (d : D) (k : Nat → List (Nat × D) → Prop) : Prop := match d with
  | .ins c fs => k c fs
  | .ptr a => (match W a with
    | some (.ins c fs) => k c fs
    | _ => False)
  | _ => False
theorem kIns.at {H F : Hp} {W : Wd} {v : V} {d : D} {q : Nat → List (Nat × D) → Prop} (rl : Rel S F W H) (rp : Rp S F v d) (h : kIns W d q) : ∃ a dx vs c fs, v = .ref a ∧ H a = some (.ins (S.ca c) dx vs) ∧ Rpf S F vs fs ∧ q c fs := by
  cases rp with
  | ptr a =>
    have h2 : (match W a with | some (.ins c fs) => q c fs | _ => False) := h
    cases e : W a with
    | none => rw [e] at h2; exact h2.elim
    | some m =>
      rw [e] at h2
      cases m with
      | ins c fs =>
        obtain ⟨_, dx, vs, e1, r1⟩ := rl.obj a _ e
        exact ⟨a, dx, vs, c, fs, rfl, e1, r1, h2⟩
      | _ => exact h2.elim
  | ins hq r1 => exact ⟨_, _, _, _, _, rfl, rl.sub _ _ hq, r1, h⟩
  | _ => exact h.elim
structure MtD (P : Program) (w : World) (S : Sy) (mg : Str → Option Value) (base : Heap) (k : Nat) (c : Nat) (m : Str) (n : Nat) (dds : List D) (sp2 : DSp) : Prop where
  cl : Cls S.K (S.ca c)
  ex : ∃ f, Meth S.K (S.ca c) m f ∧ FnD P w S mg base k f n dds sp2
structure Mts where
  l : List Nat
  n : Nat → Nat
  dd : Nat → List D
  sp : Nat → DSp
def Mts.ok (M : Mts) (X : Cx) (S : Sy) (k : Nat) (m : Str) : Prop := ∀ c, c ∈ M.l → MtD X.prog X.w S X.mg X.base k c m (M.n c) (M.dd c) (M.sp c)
structure PrD (P : Program) (w : World) (S : Sy) (mg : Str → Option Value) (base : Heap) (k : Nat) (c : Nat) (f : Str) (sp2 : DSp) : Prop where
  cl : Cls S.K (S.ca c)
  ex : ∃ p g, PropOf S.K (S.ca c) f p g ∧ FnD P w S mg base k g 1 [] sp2
structure Ats where
  fl : List Nat
  pr : List Nat
  sp : Nat → DSp
structure Ats.ok (M : Ats) (X : Cx) (S : Sy) (k : Nat) (i : Nat) : Prop where
  fld : ∀ c, c ∈ M.fl → Cls S.K (S.ca c) ∧ NoAttr S.K (S.ca c) (S.t.nm i)
  prp : ∀ c, c ∈ M.pr → PrD X.prog X.w S X.mg X.base k c (S.t.nm i) (M.sp c)
end
end Mv
end
section
set_option Elab.async false
set_option linter.all false
set_option maxRecDepth 100000
set_option maxHeartbeats 4000000
namespace Mv
open PySem PySem.Spec L2
open Evl (Ex ex_l ex_t ex_rd)
def tyD (S : Sy) (W : Wd) : D → Option Value
  | .non => some (.type "NoneType")
  | .bl _ => some (.type "bool")
  | .int _ => some (.type "int")
  | .str _ => some (.type "str")
  | .tup _ => some (.type "tuple")
  | .lst _ => some (.type "list")
  | .dK _ => some (.type "dict")
  | .dT _ => some (.type "dict")
  | .ins c _ => some (.ref (S.ca c))
  | .ptr a => (match W a with
    | some (.lst _) => some (.type "list")
    | some (.dK _) => some (.type "dict")
    | some (.dT _) => some (.type "dict")
    | some (.ins c _) => some (.ref (S.ca c))
    | some (.lkK ..) => none
    | some (.lkT ..) => none
    | none => none)
  | _ => none
section
variable {X : Cx} {S : Sy} {E : XS} {k : Nat}
structure OwnF (S : Sy) (c : Nat) (nm : String) : Prop where
  sf : PySem.W.selfFirst S.K (S.ca c) = true
  rc : ∃ rc, PySem.W.findIn S.K (.ref (S.ca c)) (dunderR nm) = some rc ∧ (rc = none ∨ ∃ g : Addr, rc = some (.ref g))
  it : ∃ fo ro, PySem.W.findIn S.K (.type "int") (PySem.dunder nm) = some fo ∧ PySem.W.findIn S.K (.type "int") (dunderR nm) = some ro
  sb : PySem.W.subIn S.K (.type "int") (.ref (S.ca c)) = some false
def rhsIS (c : Nat) (d : D) (W : Wd) : Prop := match d with
  | .int _ => True
  | .ins c' _ => c' = c
  | .ptr a => (match W a with
    | some (.ins c' _) => c' = c
    | _ => False)
  | _ => False
structure OwnRF (S : Sy) (c : Nat) (nm : String) : Prop where
  sf : PySem.W.selfFirst S.K (S.ca c) = true
  sb : PySem.W.subIn S.K (.ref (S.ca c)) (.type "int") = some false
  it : ∃ fo ro, PySem.W.findIn S.K (.type "int") (PySem.dunder nm) = some fo ∧ PySem.W.findIn S.K (.type "int") (dunderR nm) = some ro ∧ ((fo.isSome && !isSeqSlot fo) || (ro.isSome && !isSeqSlot ro)) = true
  g0 : ∃ g0 : Addr, PySem.W.findIn S.K (.ref (S.ca c)) (PySem.dunder nm) = some (some (.ref g0))
end
end Mv
end
section
set_option Elab.async false
set_option linter.all false
set_option maxRecDepth 100000
set_option maxHeartbeats 4000000
namespace Mv
open PySem PySem.Spec L2
open Evl (Ex ex_l ex_t ex_rd)
open PyProof.Rows
section
variable {X : Cx} {S : Sy} {E : XS} {k : Nat}
def kSeq (W : Wd) (d : D) (q : List D → Prop) : Prop := match d with
  | .tup ds => q ds
  | .lst ds => q ds
  | .ptr a => (match W a with
    | some (.lst ds) => q ds
    | _ => False)
  | _ => False
theorem kSeq.at {H F : Hp} {W : Wd} {v : V} {d : D} {q : List D → Prop} (hK : X.K = S.K) (rl : Rel S F W H) (rp : Rp S F v d) (h : kSeq W d q) : ∃ a vs ds, v = .ref a ∧ (SqL X.K H a vs ∨ SqT X.K H a vs) ∧ Rps S F vs ds ∧ q ds := by
  cases rp with
  | ptr a =>
    have h2 : (match W a with | some (.lst ds) => q ds | _ => False) := h
    cases e : W a with
    | none => rw [e] at h2; exact h2.elim
    | some m =>
      rw [e] at h2
      cases m with
      | lst ds =>
        obtain ⟨_, vs, e1, r1⟩ := rl.obj a _ e
        exact ⟨a, vs, ds, rfl, .inl (SqL.of e1), r1, h2⟩
      | _ => exact h2.elim
  | tup hq r1 => exact ⟨_, _, _, rfl, .inr (by rw [hK]; exact ex_t rl.sub hq.1), r1, h⟩
  | lst hq r1 => exact ⟨_, _, _, rfl, .inl (SqL.of (rl.sub _ _ hq)), r1, h⟩
  | _ => exact h.elim
def kSome {α : Type} (o : Option α) (q : α → Prop) : Prop := match o with
  | some x => q x
  | none => False
def IxD (X : Cx) (S : Sy) (E : XS) (r : D2) : Prop :=
  ∀ (value slice : Expr) (pins : List (Addr × Obj)) (s : Shared) (σ : L2.St) (H F : Hp) (sd : SD) (W : Wd) (x y : V) (c d : D) (v u : Value) (Q2 : QD) (E2 : QX), Inv X pins σ H s → Rel S F W H → SRel S F σ sd → XCv S F E2 E → RelV x v → RelV y u → Rp S F x c → Rp S F y d → r c d sd W Q2 E2 →
    subscripted slice false v u = operate [v, u] (getItem v u) → wpAny (model X.prog X.w) X.A (subscriptTail value slice v u) (DP X S pins σ F Q2) X.xe s
theorem IxR.od {r : R2} {rd : D2} (h : IxR X r) (c : ∀ σ H F sd W x y c d Q2 E2, Rel S F W H → SRel S F σ sd → XCv S F E2 E → Rp S F x c → Rp S F y d → rd c d sd W Q2 E2 → r x y H (tkQ S F Q2)) : IxD X S E rd :=
  fun va sl pins s σ H F sd W x y cc d v u Q2 E2 I rl sr xc rx ry px py q hs => thn (h va sl pins s σ H x y v u _ I rx ry (c σ H F sd W x y cc d Q2 E2 rl sr xc px py q) hs) fun u s' z => EP.tk z
end
end Mv
end
section
set_option Elab.async false
set_option linter.all false
set_option maxRecDepth 100000
set_option maxHeartbeats 4000000
namespace Mv
open PySem PySem.Spec L2
open Evl (Ex ex_l ex_t ex_rd)
open PyProof.Rows
section
variable {X : Cx} {S : Sy} {E : XS} {k : Nat}
abbrev DC := List D → Wd → QD → Prop
def upR (S : Sy) (r : DC) : List V → Hp → VK → Prop := fun vs H Q => ∃ F W ds Q2, Rel S F W H ∧ Rps S F vs ds ∧ QCv S F Q2 Q ∧ r ds W Q2
def CalD (X : Cx) (S : Sy) (f : Value) (r : DC) : Prop := CallR X f (upR S r)
theorem CalD.of {f : Value} {r : List V → Hp → VK → Prop} {rd : DC} (h : CallR X f r) (c : ∀ H F W vs ds Q2 Q, Rel S F W H → Rps S F vs ds → QCv S F Q2 Q → rd ds W Q2 → r vs H Q) : CalD X S f rd :=
  fun pins s σ H vs us Q I rv ⟨F, W, ds, Q2, rl, rp, qc, q⟩ => h pins s σ H vs us Q I rv (c H F W vs ds Q2 Q rl rp qc q)
theorem Rps.one {F : Hp} {vs : List V} {x : D} (r : Rps S F vs [x]) : ∃ v, vs = [v] ∧ Rp S F v x := by
  cases r with
  | cons p t => cases t; exact ⟨_, rfl, p⟩
theorem Rpk.length {F : Hp} : ∀ {vs : List (Key × V)} {ds : List (Key × D)}, Rpk S F vs ds → vs.length = ds.length
  | _, _, .nil => rfl
  | _, _, .cons _ r => congrArg (· + 1) (Rpk.length r)
end
end Mv
end
section
set_option Elab.async false
set_option linter.all false
set_option maxRecDepth 100000
set_option maxHeartbeats 4000000
namespace Mv
open PySem PySem.Spec L2
open Evl (Ex ex_l ex_t ex_rd)
open PyProof.Rows
section
variable {X : Cx} {S : Sy} {E : XS} {k : Nat} {tg : Expr}
structure LiD where
  items : List D
  held : Option (Addr × M) := none
def LiD.ok (l : LiD) (W : Wd) : Prop := match l.held with
  | none => True
  | some (a, m) => W a = some m
abbrev DI := SD → Wd → (LiD → Wd → Prop) → QX → Prop
def loopD (ok : Wd → Prop) (g : DG) (tb : DS) (D : DEnds) (E2 : QX) : List Mv.D → SD → Wd → Prop
  | [], sd, W => ok W ∧ D.nx sd W
  | d :: ds, sd, W => ok W ∧ g d sd W (fun sd1 W1 => tb { D with nx := loopD ok g tb D E2 ds, ct := loopD ok g tb D E2 ds, bk := D.nx } sd1 W1 E2)
theorem loopD.ok {ok : Wd → Prop} {g : DG} {tb : DS} {D : DEnds} {E2 : QX} {ds : List Mv.D} {sd : SD} {W : Wd} (h : loopD ok g tb D E2 ds sd W) : ok W := by
  cases ds with
  | nil => exact h.1
  | cons d ds => exact h.1
end
end Mv
end
section
set_option Elab.async false
set_option linter.all false
set_option maxRecDepth 100000
set_option maxHeartbeats 4000000
namespace Mv
open PySem PySem.Spec L2
open Evl (Ex ex_l ex_t ex_rd)
open PyProof.Rows
section
variable {X : Cx} {S : Sy} {E : XS} {k : Nat} {tg : Expr}
def wipeD (sd : SD) : List Nat → SD
  | [] => sd
  | v :: vs => (wipeD sd vs).set v none
theorem SRel.none {F : Hp} {σ : L2.St} {sd : SD} (i : Nat) (r : SRel S F σ sd) : SRel S F (σ.set i none) (sd.set i none) := by
  refine ⟨by simp [r.len], fun j e q => ?_⟩
  by_cases z : j = i
  · subst z
    by_cases l : j < sd.length
    · rw [List.getElem?_set_self l] at q; cases q
    · rw [List.getElem?_eq_none (by simp; omega)] at q; cases q
  · rw [List.getElem?_set_ne (Ne.symm z)] at q ⊢
    exact r.at_ j e q
abbrev E2F : QX := fun _ _ _ => False
def compD (p : Addr) (ok : Wd → Prop) (g : DG) (tt : DT) (te : DE) (sd0 : SD) (K : List Mv.D → Wd → Prop) : List Mv.D → List Mv.D → Wd → Prop
  | [], acc, W => ok W ∧ W p = some (.lst acc) ∧ K acc W
  | d :: ds, acc, W => ok W ∧ g d sd0 W (fun sd1 W1 => tt sd1 W1 (fun b W2 => if b = true then te sd1 W2 (fun x W3 => W3 p = some (.lst acc) ∧ acc.length < 1000000 ∧ compD p ok g tt te sd0 K ds (acc ++ [x]) (put W3 p (.lst (acc ++ [x])))) E2F else compD p ok g tt te sd0 K ds acc W2) E2F)
theorem compD.ok {p : Addr} {ok : Wd → Prop} {g : DG} {tt : DT} {te : DE} {sd0 : SD} {K : List Mv.D → Wd → Prop} {ds acc : List Mv.D} {W : Wd} (h : compD p ok g tt te sd0 K ds acc W) : ok W := by
  cases ds with
  | nil => exact h.1
  | cons d ds => exact h.1
section
variable {elt iter : Expr} {ifs : List Expr} {scope : Scope} {own : List (Str × Nat)} {pos : Pos} {ti : DI} {g : DG} {tt : DT} {te : DE}
end
end
end Mv
end
section
set_option Elab.async false
set_option linter.all false
set_option maxRecDepth 100000
set_option maxHeartbeats 4000000
namespace Mv
open PySem PySem.Spec L2
open Evl (Ex ex_l ex_t ex_rd)
mutual
def D.pf : D → Bool
  | .ptr _ => false
  | .ty _ => false
  | .exn _ _ => false
  | .frl _ => false
  | .lam _ _ _ _ => false
  | .tup ds => pfs ds
  | .lst ds => pfs ds
  | .dK kvs => pfk kvs
  | .dT kvs => pft kvs
  | .ins _ fs => pff fs
  | _ => true
def pfs : List D → Bool
  | [] => true
  | d :: ds => d.pf && pfs ds
def pfk : List (Key × D) → Bool
  | [] => true
  | (_, d) :: ds => d.pf && pfk ds
def pft : List (List Key × D) → Bool
  | [] => true
  | (_, d) :: ds => d.pf && pft ds
def pff : List (Nat × D) → Bool
  | [] => true
  | (_, d) :: ds => d.pf && pff ds
end
section
variable {X : Cx} {S : Sy} {pins : List (Addr × Obj)} {σ : L2.St} {H F : Hp} {s : Shared} {W : Wd}
theorem not_both (I : Inv X pins σ H s) {a : Addr} {xs ys : List V} (h : SqT X.K H a xs) (h' : SqL X.K H a ys) : False := by
  obtain ⟨_, _, ⟨o, e, c, _⟩, _⟩ := I.tuple h
  obtain ⟨_, _, ⟨o', n', e', c', _⟩, _⟩ := I.list h'
  rw [e] at e'
  cases e'
  rw [c] at c'
  exact absurd (Value.type.inj c') (by decide)
theorem tup_not (I : Inv X pins σ H s) {a : Addr} {xs : List V} (h : SqT X.K H a xs) : (∀ od kvs, H a ≠ some (.frz od (.dK kvs))) ∧ (∀ od kvs, H a ≠ some (.frz od (.dT kvs))) ∧ ∀ C dx fs, H a ≠ some (.ins C dx fs) := by
  obtain ⟨_, _, ⟨o, e, c, _⟩, _⟩ := I.tuple h
  refine ⟨fun od kvs q => ?_, fun od kvs q => ?_, fun C dx fs q => ?_⟩
  · obtain ⟨_, _, _, vs, _, o', es, ep, e', hx, _⟩ := (show ObjOk X.prog X.w H s.heap a (.frz od (.dK kvs)) from I.hok a _ q)
    rw [e] at e'
    cases e'
    have := hx.1
    rw [c] at this
    exact absurd (Value.type.inj this) (by decide)
  · obtain ⟨_, _, _, xs, _, o', es, ep, e', hx, _⟩ := (show ObjOk X.prog X.w H s.heap a (.frz od (.dT kvs)) from I.hok a _ q)
    rw [e] at e'
    cases e'
    have := hx.1
    rw [c] at this
    exact absurd (Value.type.inj this) (by decide)
  · obtain ⟨_, _, _, e', _⟩ := (show ObjOk X.prog X.w H s.heap a (.ins C dx fs) from I.hok a _ q)
    rw [e] at e'
    cases e'
    cases c
theorem lst_not (I : Inv X pins σ H s) {a : Addr} {xs : List V} (h : SqL X.K H a xs) : (∀ od kvs, H a ≠ some (.frz od (.dK kvs))) ∧ (∀ od kvs, H a ≠ some (.frz od (.dT kvs))) ∧ ∀ C dx fs, H a ≠ some (.ins C dx fs) := by
  obtain ⟨_, _, ⟨o, n, e, c, _⟩, _⟩ := I.list h
  refine ⟨fun od kvs q => ?_, fun od kvs q => ?_, fun C dx fs q => ?_⟩
  · obtain ⟨_, _, _, vs, _, o', es, ep, e', hx, _⟩ := (show ObjOk X.prog X.w H s.heap a (.frz od (.dK kvs)) from I.hok a _ q)
    rw [e] at e'
    cases e'
    have := hx.1
    rw [c] at this
    exact absurd (Value.type.inj this) (by decide)
  · obtain ⟨_, _, _, xs, _, o', es, ep, e', hx, _⟩ := (show ObjOk X.prog X.w H s.heap a (.frz od (.dT kvs)) from I.hok a _ q)
    rw [e] at e'
    cases e'
    have := hx.1
    rw [c] at this
    exact absurd (Value.type.inj this) (by decide)
  · obtain ⟨_, _, _, e', _⟩ := (show ObjOk X.prog X.w H s.heap a (.ins C dx fs) from I.hok a _ q)
    rw [e] at e'
    cases e'
    cases c
end
section
variable {X : Cx} {S : Sy} {pins : List (Addr × Obj)} {σ : L2.St} {H F : Hp} {s : Shared} {W : Wd}
mutual
theorem Rp.fn (hK : X.K = S.K) (I : Inv X pins σ H s) (e : Ex F H) : ∀ {v : V} {c d : D}, Rp S F v c → Rp S F v d → c.pf = true → d.pf = true → c = d
  | _, _, _, .non, h, _, q => by cases h; rfl
  | _, _, _, .bl b, h, _, q => by cases h; rfl
  | _, _, _, .int b, h, _, q => by cases h; rfl
  | _, _, _, .str b, h, _, q => by cases h; rfl
  | _, _, _, .ty b, h, p, q => by simp [D.pf] at p
  | _, _, _, .ptr b, h, p, q => by simp [D.pf] at p
  | _, _, _, .frl _ _, h, p, q => by simp [D.pf] at p
  | _, _, _, .exn _ _ _, h, p, q => by simp [D.pf] at p
  | _, _, _, .exn0 _, h, p, q => by simp [D.pf] at p
  | _, _, _, .lam _ _, h, p, q => by simp [D.pf] at p
  | _, _, _, .tup (a := a) (vs := vs) h1 r1, h, p, q => by
    have k1 : SqT X.K H a vs := by rw [hK]; exact ex_t e h1.1
    cases h with
    | ptr => simp [D.pf] at q
    | frl => simp [D.pf] at q
    | exn => simp [D.pf] at q
    | exn0 => simp [D.pf] at q
    | lam => simp [D.pf] at q
    | @tup _ vs2 _ h2 r2 =>
      have k2 : SqT X.K H a vs2 := by rw [hK]; exact ex_t e h2.1
      have z := I.tuple_inj k1 k2
      subst z
      rw [Rps.fn hK I e r1 r2 (by simpa [D.pf] using p) (by simpa [D.pf] using q)]
    | lst h2 r2 => exact (not_both I k1 (SqL.of (e _ _ h2))).elim
    | dK h2 _ => exact ((tup_not I k1).1 _ _ (e _ _ h2)).elim
    | dT h2 _ => exact ((tup_not I k1).2.1 _ _ (e _ _ h2)).elim
    | ins h2 _ => exact ((tup_not I k1).2.2 _ _ _ (e _ _ h2)).elim
  | _, _, _, .lst (a := a) (vs := vs) h1 r1, h, p, q => by
    have k1 : SqL X.K H a vs := SqL.of (e _ _ h1)
    cases h with
    | ptr => simp [D.pf] at q
    | frl => simp [D.pf] at q
    | exn => simp [D.pf] at q
    | exn0 => simp [D.pf] at q
    | lam => simp [D.pf] at q
    | @lst _ vs2 _ h2 r2 =>
      have k2 : SqL X.K H a vs2 := SqL.of (e _ _ h2)
      have z := I.list_inj k1 k2
      subst z
      rw [Rps.fn hK I e r1 r2 (by simpa [D.pf] using p) (by simpa [D.pf] using q)]
    | tup h2 r2 => exact (not_both I (by rw [hK]; exact ex_t e h2.1) k1).elim
    | dK h2 _ => exact ((lst_not I k1).1 _ _ (e _ _ h2)).elim
    | dT h2 _ => exact ((lst_not I k1).2.1 _ _ (e _ _ h2)).elim
    | ins h2 _ => exact ((lst_not I k1).2.2 _ _ _ (e _ _ h2)).elim
  | _, _, _, .dK h1 r1, h, p, q => by
    cases h with
    | ptr => simp [D.pf] at q
    | frl => simp [D.pf] at q
    | exn => simp [D.pf] at q
    | exn0 => simp [D.pf] at q
    | lam => simp [D.pf] at q
    | lst h2 r2 => exact ((lst_not I (SqL.of (e _ _ h2))).1 _ _ (e _ _ h1)).elim
    | tup h2 r2 => exact ((tup_not I (by rw [hK]; exact ex_t e h2.1)).1 _ _ (e _ _ h1)).elim
    | dK h2 r2 =>
      rw [h1] at h2
      cases h2
      rw [Rpk.fn hK I e r1 r2 (by simpa [D.pf] using p) (by simpa [D.pf] using q)]
    | dT h2 _ => rw [h1] at h2; cases h2
    | ins h2 _ => rw [h1] at h2; cases h2
  | _, _, _, .dT h1 r1, h, p, q => by
    cases h with
    | ptr => simp [D.pf] at q
    | frl => simp [D.pf] at q
    | exn => simp [D.pf] at q
    | exn0 => simp [D.pf] at q
    | lam => simp [D.pf] at q
    | lst h2 r2 => exact ((lst_not I (SqL.of (e _ _ h2))).2.1 _ _ (e _ _ h1)).elim
    | tup h2 r2 => exact ((tup_not I (by rw [hK]; exact ex_t e h2.1)).2.1 _ _ (e _ _ h1)).elim
    | dT h2 r2 =>
      rw [h1] at h2
      cases h2
      rw [Rpt.fn hK I e r1 r2 (by simpa [D.pf] using p) (by simpa [D.pf] using q)]
    | dK h2 _ => rw [h1] at h2; cases h2
    | ins h2 _ => rw [h1] at h2; cases h2
  | _, _, _, .ins h1 r1, h, p, q => by
    cases h with
    | ptr => simp [D.pf] at q
    | frl => simp [D.pf] at q
    | exn => simp [D.pf] at q
    | exn0 => simp [D.pf] at q
    | lam => simp [D.pf] at q
    | lst h2 r2 => exact ((lst_not I (SqL.of (e _ _ h2))).2.2 _ _ _ (e _ _ h1)).elim
    | tup h2 r2 => exact ((tup_not I (by rw [hK]; exact ex_t e h2.1)).2.2 _ _ _ (e _ _ h1)).elim
    | dK h2 _ => rw [h1] at h2; cases h2
    | dT h2 _ => rw [h1] at h2; cases h2
    | ins h2 r2 =>
      rw [h1] at h2
      injection h2 with h2
      injection h2 with h3 h4 h5
      subst h5
      rw [S.cai _ _ h3, Rpf.fn hK I e r1 r2 (by simpa [D.pf] using p) (by simpa [D.pf] using q)]
theorem Rps.fn (hK : X.K = S.K) (I : Inv X pins σ H s) (e : Ex F H) : ∀ {v : List V} {c d : List D}, Rps S F v c → Rps S F v d → pfs c = true → pfs d = true → c = d
  | _, _, _, .nil, .nil, _, _ => rfl
  | _, _, _, .cons h1 r1, .cons h2 r2, p, q => by
    simp only [pfs, Bool.and_eq_true] at p q
    rw [Rp.fn hK I e h1 h2 p.1 q.1, Rps.fn hK I e r1 r2 p.2 q.2]
theorem Rpk.fn (hK : X.K = S.K) (I : Inv X pins σ H s) (e : Ex F H) : ∀ {v : List (Key × V)} {c d : List (Key × D)}, Rpk S F v c → Rpk S F v d → pfk c = true → pfk d = true → c = d
  | _, _, _, .nil, .nil, _, _ => rfl
  | _, _, _, .cons h1 r1, .cons h2 r2, p, q => by
    simp only [pfk, Bool.and_eq_true] at p q
    rw [Rp.fn hK I e h1 h2 p.1 q.1, Rpk.fn hK I e r1 r2 p.2 q.2]
theorem Rpt.fn (hK : X.K = S.K) (I : Inv X pins σ H s) (e : Ex F H) : ∀ {v : List (List Key × V)} {c d : List (List Key × D)}, Rpt S F v c → Rpt S F v d → pft c = true → pft d = true → c = d
  | _, _, _, .nil, .nil, _, _ => rfl
  | _, _, _, .cons h1 r1, .cons h2 r2, p, q => by
    simp only [pft, Bool.and_eq_true] at p q
    rw [Rp.fn hK I e h1 h2 p.1 q.1, Rpt.fn hK I e r1 r2 p.2 q.2]
theorem Rpf.fn (hK : X.K = S.K) (I : Inv X pins σ H s) (e : Ex F H) : ∀ {v : List (Str × V)} {c d : List (Nat × D)}, Rpf S F v c → Rpf S F v d → pff c = true → pff d = true → c = d
  | _, _, _, .nil, h, _, _ => by cases h; rfl
  | _, _, _, .cons (k := k) h1 r1, h, p, q => by
    generalize hv : S.t.nm k = z at h
    cases h with
    | cons h2 r2 =>
      simp only [pff, Bool.and_eq_true] at p q
      rw [Rp.fn hK I e h1 h2 p.1 q.1, Rpf.fn hK I e r1 r2 p.2 q.2, S.t.inj _ _ hv]
end
end
end Mv
end
section
set_option Elab.async false
set_option linter.all false
set_option maxRecDepth 100000
set_option maxHeartbeats 4000000
namespace Mv
open PySem PySem.Spec PySem.W
section
variable {prog : Program} {w : World} {A : Around} {E : Value → Shared → Prop} {s : Shared} {K : Frag} {x C f L : Addr} {ox : Obj} {od : Option Obj} {v : Value} {T : String}
open AutoSeq1 (wpAny_loadPart')
def DecB (B : Builtin) (v : Value) (x : Addr) (s : Shared) : Prop := ∀ (prog : Program) (w : World) (A : Around) (E : Value → Shared → Prop) (Q : Fin → Shared → Prop), Q (.done (.ret .notImplemented)) s → wpAny (model prog w) A (B ⟨[v, .ref x], []⟩) Q E s
theorem one_dec {name : Str} {id : String} {B : Builtin} (hT : s.TypeIs v T) (slot : Slot T name id) (entry : entryFor table id = some B) (args : argsOk id ⟨[v, .ref x], []⟩) (hd : DecB B v x s) :
    wpAny (model prog w) A (tryCompare v name (.ref x)) (fun r s' => r = none ∧ s' = s) E s :=
  wpAny_tryCompare_declines hT slot (GQ.call_here slot hT entry args (hd _ _ _ _ _ ⟨rfl, rfl, rfl⟩))
theorem dec_none_eq : DecB Builtin.«NoneType.__eq__» .none x s := fun prog w A E Q h => by
  obtain ⟨hh, g, d, tk, os⟩ := s
  wp_walk
  exact h
theorem dec_none_ne : DecB Builtin.«NoneType.__ne__» .none x s := fun prog w A E Q h => by
  obtain ⟨hh, g, d, tk, os⟩ := s
  wp_walk
  exact h
theorem dec_bool_eq {b : Bool} (I : InstAt s.heap x ox C od) (hp : ox.data = .plain) : DecB Builtin.«int.__eq__» (.bool b) x s := fun prog w A E Q h => by
  obtain ⟨hh, g, d, tk, os⟩ := s
  have hx : hh.get? x = some ox := I.at_
  wp_walk using wpAny_loadPart' hx
  rw [hp]
  wp_walk
  exact h
theorem dec_bool_ne {b : Bool} (I : InstAt s.heap x ox C od) (hp : ox.data = .plain) : DecB Builtin.«int.__ne__» (.bool b) x s := fun prog w A E Q h => by
  obtain ⟨hh, g, d, tk, os⟩ := s
  have hx : hh.get? x = some ox := I.at_
  wp_walk using wpAny_loadPart' hx
  rw [hp]
  wp_walk
  exact h
theorem dec_str_eq {b : Str} {t : Tok} (I : InstAt s.heap x ox C od) (hp : ox.data = .plain) : DecB Builtin.«str.__eq__» (.str b t) x s := fun prog w A E Q h => by
  obtain ⟨hh, g, d, tk, os⟩ := s
  have hx : hh.get? x = some ox := I.at_
  wp_walk using wpAny_loadPart' hx
  rw [hp]
  wp_walk
  exact h
theorem dec_str_ne {b : Str} {t : Tok} (I : InstAt s.heap x ox C od) (hp : ox.data = .plain) : DecB Builtin.«str.__ne__» (.str b t) x s := fun prog w A E Q h => by
  obtain ⟨hh, g, d, tk, os⟩ := s
  have hx : hh.get? x = some ox := I.at_
  wp_walk using wpAny_loadPart' hx
  rw [hp]
  wp_walk
  exact h
theorem dec_tuple_eq {a : Addr} (X : K.In s.heap) (I : InstAt s.heap x ox C od) (hsub : subIn K (.ref C) (.type "tuple") = some false) : DecB Builtin.«tuple.__eq__» (.ref a) x s := fun prog w A E Q h => by
  have L : Looks (model prog w) s.heap (isInstance (.ref x) (.type "tuple")) false := I.type.andThen (looks_subIn X hsub)
  obtain ⟨hh, g, d, tk, os⟩ := s
  wp_walk using L.here
  exact h
theorem dec_tuple_ne {a : Addr} (X : K.In s.heap) (I : InstAt s.heap x ox C od) (hsub : subIn K (.ref C) (.type "tuple") = some false) : DecB Builtin.«tuple.__ne__» (.ref a) x s := fun prog w A E Q h => by
  have L : Looks (model prog w) s.heap (isInstance (.ref x) (.type "tuple")) false := I.type.andThen (looks_subIn X hsub)
  obtain ⟨hh, g, d, tk, os⟩ := s
  wp_walk using L.here
  exact h
theorem dec_list_eq {a : Addr} (X : K.In s.heap) (I : InstAt s.heap x ox C od) (hsub : subIn K (.ref C) (.type "list") = some false) : DecB Builtin.«list.__eq__» (.ref a) x s := fun prog w A E Q h => by
  have L : Looks (model prog w) s.heap (isInstance (.ref x) (.type "list")) false := I.type.andThen (looks_subIn X hsub)
  obtain ⟨hh, g, d, tk, os⟩ := s
  wp_walk using L.here
  exact h
theorem dec_list_ne {a : Addr} (X : K.In s.heap) (I : InstAt s.heap x ox C od) (hsub : subIn K (.ref C) (.type "list") = some false) : DecB Builtin.«list.__ne__» (.ref a) x s := fun prog w A E Q h => by
  have L : Looks (model prog w) s.heap (isInstance (.ref x) (.type "list")) false := I.type.andThen (looks_subIn X hsub)
  obtain ⟨hh, g, d, tk, os⟩ := s
  wp_walk using L.here
  exact h
inductive LeftK : Shared → Value → String → Prop
  | non {s : Shared} : LeftK s .none "NoneType"
  | bl {s : Shared} (b : Bool) : LeftK s (.bool b) "bool"
  | str {s : Shared} (z : Str) (t : Tok) : LeftK s (.str z t) "str"
  | tup {s : Shared} {a : Addr} : s.TypeIs (.ref a) "tuple" → LeftK s (.ref a) "tuple"
  | lst {s : Shared} {a : Addr} : s.TypeIs (.ref a) "list" → LeftK s (.ref a) "list"
theorem LeftK.one (h : LeftK s v T) (neg : Bool) (X : K.In s.heap) (I : InstAt s.heap x ox C od) (hp : ox.data = .plain) (hsub : subIn K (.ref C) (.type T) = some false) :
    wpAny (model prog w) A (tryCompare v (cmpInfo (if neg = true then .NotEq else .Eq)).2.1 (.ref x)) (fun r s' => r = none ∧ s' = s) E s := by
  cases h with
  | non => cases neg with
    | false => exact one_dec rfl PySem.F.slot_NoneType_eq PySem.F.entry_NoneType_eq (PySem.F.args_NoneType_eq_2 _ _) dec_none_eq
    | true => exact one_dec rfl PySem.F.slot_NoneType_ne PySem.F.entry_NoneType_ne (PySem.F.args_NoneType_ne_2 _ _) dec_none_ne
  | bl b => cases neg with
    | false => exact one_dec rfl PySem.F.slot_bool_eq PySem.F.entry_int_eq (PySem.F.args_int_eq_2 _ _) (dec_bool_eq I hp)
    | true => exact one_dec rfl PySem.F.slot_bool_ne PySem.F.entry_int_ne (PySem.F.args_int_ne_2 _ _) (dec_bool_ne I hp)
  | str z t => cases neg with
    | false => exact one_dec rfl PySem.F.slot_str_eq PySem.F.entry_str_eq (PySem.F.args_str_eq_2 _ _) (dec_str_eq I hp)
    | true => exact one_dec rfl PySem.F.slot_str_ne PySem.F.entry_str_ne (PySem.F.args_str_ne_2 _ _) (dec_str_ne I hp)
  | tup h => cases neg with
    | false => exact one_dec h PySem.F.slot_tuple_eq PySem.F.entry_tuple_eq (PySem.F.args_tuple_eq_2 _ _) (dec_tuple_eq X I hsub)
    | true => exact one_dec h PySem.F.slot_tuple_ne PySem.F.entry_tuple_ne (PySem.F.args_tuple_ne_2 _ _) (dec_tuple_ne X I hsub)
  | lst h => cases neg with
    | false => exact one_dec h PySem.F.slot_list_eq PySem.F.entry_list_eq (PySem.F.args_list_eq_2 _ _) (dec_list_eq X I hsub)
    | true => exact one_dec h PySem.F.slot_list_ne PySem.F.entry_list_ne (PySem.F.args_list_ne_2 _ _) (dec_list_ne X I hsub)
end
end Mv
end
section
set_option Elab.async false
set_option linter.all false
set_option maxRecDepth 100000
set_option maxHeartbeats 4000000
namespace Mv
open PySem PySem.Spec L2
open Evl (Ex ex_l ex_t ex_rd)
open PyProof.Rows
section
variable {X : Cx} {S : Sy} {E : XS} {k n : Nat} {f : Addr} {dds : List D} {sp2 : DSp}
variable {o e : Expr} {es : List Expr} {m : Str} {apos pos : Pos} {ta : DE} {t : DA} {pl : Sem Bool} {C : Addr}
end
section
variable {X : Cx} {S : Sy} {E : XS} {k : Nat}
def kLst (W : Wd) (d : D) (q : Addr → List D → Prop) : Prop := match d with
  | .ptr a => (match W a with
    | some (.lst ds) => q a ds
    | _ => False)
  | _ => False
theorem kLst.at {H F : Hp} {W : Wd} {v : V} {d : D} {q : Addr → List D → Prop} (rl : Rel S F W H) (rp : Rp S F v d) (h : kLst W d q) : ∃ a vs ds, v = .ref a ∧ H a = some (.lst vs) ∧ Rps S F vs ds ∧ W a = some (.lst ds) ∧ q a ds := by
  cases rp with
  | ptr a =>
    have h2 : (match W a with | some (.lst ds) => q a ds | _ => False) := h
    cases e : W a with
    | none => rw [e] at h2; exact h2.elim
    | some m =>
      rw [e] at h2
      cases m with
      | lst ds =>
        obtain ⟨_, vs, e1, r1⟩ := rl.obj a _ e
        exact ⟨a, vs, ds, rfl, e1, r1, e, h2⟩
      | _ => exact h2.elim
  | _ => exact h.elim
end
end Mv
end
section
set_option Elab.async false
set_option linter.all false
set_option maxRecDepth 100000
set_option maxHeartbeats 4000000
namespace Mv
open PySem PySem.Spec L2
open Evl (Ex ex_l ex_t ex_rd)
open PyProof.Rows
section
variable {X : Cx} {S : Sy} {E : XS} {k : Nat}
abbrev DM := D → List D → Wd → QD → Prop
def upM (S : Sy) (r : DM) : V → List V → Hp → VK → Prop := fun v vs H Q => ∃ F W d ds Q2, Rel S F W H ∧ Rp S F v d ∧ Rps S F vs ds ∧ QCv S F Q2 Q ∧ r d ds W Q2
def MetD (X : Cx) (S : Sy) (id : String) (r : DM) : Prop := MtR X id (upM S r)
theorem MetD.of {id : String} {r : V → List V → Hp → VK → Prop} {rd : DM} (h : MtR X id r) (c : ∀ H F W v vs d ds Q2 Q, Rel S F W H → Rp S F v d → Rps S F vs ds → QCv S F Q2 Q → rd d ds W Q2 → r v vs H Q) : MetD X S id rd :=
  fun pins s σ H v vs u us Q I rv rvs ⟨F, W, d, ds, Q2, rl, rp, rps, qc, q⟩ => h pins s σ H v vs u us Q I rv rvs (c H F W v vs d ds Q2 Q rl rp rps qc q)
def tyM (T : String) (W : Wd) (d : D) : Prop := match d with
  | .str _ => T = "str"
  | .lst _ => T = "list"
  | .ptr a => (match W a with
    | some (.lst _) => T = "list"
    | some (.dK _) => T = "dict"
    | some (.dT _) => T = "dict"
    | _ => False)
  | _ => False
theorem tyM.v {K : PySem.W.Frag} {T : String} {H F : Hp} {W : Wd} {v : V} {d : D} (rl : Rel S F W H) (rp : Rp S F v d) (h : tyM T W d) : tyV K T v H := by
  cases rp with
  | str x => exact h
  | lst hq r => exact .inl ⟨h, _, SqL.of (rl.sub _ _ hq)⟩
  | ptr a =>
    have h2 : (match W a with | some (.lst _) => T = "list" | some (.dK _) => T = "dict" | some (.dT _) => T = "dict" | _ => False) := h
    cases e : W a with
    | none => rw [e] at h2; exact h2.elim
    | some m =>
      rw [e] at h2
      obtain ⟨_, mo⟩ := rl.obj a m e
      cases m with
      | lst ds => obtain ⟨vs, e1, r1⟩ := mo; exact .inl ⟨h2, _, SqL.of e1⟩
      | dK ds => obtain ⟨vs, e1, r1⟩ := mo; exact .inr (.inr (.inl ⟨h2, .inl ⟨_, e1⟩⟩))
      | dT ds => obtain ⟨vs, e1, r1⟩ := mo; exact .inr (.inr (.inl ⟨h2, .inr ⟨_, e1⟩⟩))
      | _ => exact h2.elim
  | _ => exact h.elim
variable {o e : Expr} {es : List Expr} {to : DE} {t : DA} {name : Str} {apos cpos : Pos} {T id : String} {r : DM}
end
end Mv
end
section
set_option Elab.async false
set_option linter.all false
set_option maxRecDepth 100000
set_option maxHeartbeats 4000000
namespace Mv
open PySem PySem.Spec L2
open Evl (Ex ex_l ex_t ex_rd)
open PyProof.Rows
def Mts.none : Mts := ⟨[], fun _ => 0, fun _ => [], fun _ _ _ _ _ => False⟩
structure OwnOp (X : Cx) (S : Sy) (k : Nat) (op : Operator) (M MR : Mts) : Prop where
  ok : M.ok X S k (PySem.dunder op.info.2)
  fa : ∀ c, c ∈ M.l → OwnF S c op.info.2
  okR : MR.ok X S k (dunderR op.info.2)
  faR : ∀ c, c ∈ MR.l → OwnRF S c op.info.2
structure OwnCm (X : Cx) (S : Sy) (k : Nat) (op : CmpOp) (M MR : Mts) : Prop where
  ok : M.ok X S k (cmpInfo op).2.1
  fa : ∀ c, c ∈ M.l → ∀ d W, rhsIS c d W → ∃ t, tyD S W d = some t ∧ PySem.W.notFirst S.K (S.ca c) t = true
  okR : MR.ok X S k (cmpInfo op).2.2
  faR : ∀ c, c ∈ MR.l → PySem.W.subIn S.K (.ref (S.ca c)) (.type "int") = some false
theorem OwnOp.none {X : Cx} {S : Sy} {k : Nat} {op : Operator} : OwnOp X S k op .none .none := ⟨fun _ h => (nomatch h), fun _ h => (nomatch h), fun _ h => (nomatch h), fun _ h => (nomatch h)⟩
theorem OwnCm.none {X : Cx} {S : Sy} {k : Nat} {op : CmpOp} : OwnCm X S k op .none .none := ⟨fun _ h => (nomatch h), fun _ h => (nomatch h), fun _ h => (nomatch h), fun _ h => (nomatch h)⟩
section
variable {X : Cx} {S : Sy} {E : XS} {k : Nat} {M MR : Mts}
end
open He (ba ga ma eqO eqO_ok)
section
variable {S : Sy}
end
end Mv
end
section
set_option Elab.async false
set_option linter.all false
set_option maxRecDepth 100000
set_option maxHeartbeats 4000000
namespace Mv
open PySem PySem.Spec L2
open Evl (Ex ex_l ex_t ex_rd)
open PyProof.Rows
section
variable {X : Cx} {S : Sy} {E : XS} {k : Nat}
end
abbrev Cn := List (Nat × Str)
open He (ga ma)
def caK (cn : Cn) (K : PySem.W.Frag) (i : Nat) : Addr := match cn.lookup i with
  | some x => ga K x
  | none => 1099511627776 + i
def cnB (cn : Cn) (K : PySem.W.Frag) : Bool := decide ((cn.map fun p => ga K p.2).Nodup) && (decide ((cn.map (·.1)).Nodup) && cn.all fun p => decide (ga K p.2 < 1099511627776))
open He5 (DefA wf fnA)
def obsM (mf : List (PySem.W.Frag → Bool)) (fn : List DefA) (K : PySem.W.Frag) : He.AlD := ((mf.all fun f => f K) && fn.all fun d => d.ok K, fn.map fun d => fnA K (d.at_ K))
def SaysM (mf : List (PySem.W.Frag → Bool)) (fn : List DefA) (K : PySem.W.Frag) : Prop := obsM mf fn K = He5.valA fn
section
variable {mf : List (PySem.W.Frag → Bool)} {fn : List DefA} {K : PySem.W.Frag}
end
section
variable {K : PySem.W.Frag}
end
end Mv
end
section
set_option Elab.async false
set_option linter.all false
set_option maxRecDepth 100000
set_option maxHeartbeats 4000000
namespace Mv
open PySem PySem.Spec L2 PyProof.Rows
def Qt (A : Around) : Prop := A.guards = some []
structure FnG (P : Program) (w : World) (K : PySem.W.Frag) (mg : Str → Option Value) (base : Heap) (k : Nat) (f : Addr) (fd : FuncData) (ps : List Str) (sp : Sp) : Prop where
  len : ∀ vs H Q E, sp vs H Q E → vs.length = ps.length
  go : ∀ (A : Around) (outer : List Env) (s : Shared) (H : Hp) (ar : Args) (us : List Value) (vs : List V) (Q : VK) (E : XK), Qt A → Room k A → Env0 P w K mg base A outer s H → BindsTo s fd ar (ps.zip us) → Vals vs us → sp vs H Q E →
    codeAny (model P w) A (.call (.ref f) ar) (CR (L2.CX P w) outer P w H s Q E) s
theorem FnG.of {P : Program} {w : World} {K : PySem.W.Frag} {mg : Str → Option Value} {base : Heap} {k : Nat} {f : Addr} {fd : FuncData} {ps : List Str} {sp : Sp} (F : FnOk P w K mg base (L2.CX P w) k f fd ps sp) : FnG P w K mg base k f fd ps sp :=
  ⟨F.len, fun A outer s H ar us vs Q E _ => F.run A outer s H ar us vs Q E⟩
end Mv
end
section
set_option Elab.async false
set_option linter.all false
set_option maxRecDepth 100000
set_option maxHeartbeats 4000000
namespace Mv
open PySem PySem.Spec L2 PyProof.Rows
open Evl (Ex ex_l ex_t ex_rd)
section
variable {X : Cx} {S : Sy} {pins : List (Addr × Obj)} {σ : L2.St} {H F : Hp} {W : Wd} {s : Shared}
def smB (K : PySem.W.Frag) : Bool := match K.lookup sysModules with
  | some o => (match o.cls with
    | .type n => n == "dict"
    | _ => false)
  | none => false
end
section
open He5 (DefA)
def obsMQ (n : Nat) (mf : List (PySem.W.Frag → Bool)) (fn : List DefA) (g : Addr → Option Obj) : He.AlD := obsM mf fn (He.frG g (sysModules :: He5.asA g n))
def hookMQ (n : Nat) (mf : List (PySem.W.Frag → Bool)) (fn : List DefA) : PySem.W.Hook where
  α := He.AlD
  obs := fun s => obsMQ n mf fn s.heap.get?
  val := fun _ => He5.valA fn
  says := fun _ h => ∃ K : PySem.W.Frag, K.In h ∧ SaysM mf fn K
  of := fun _ _ e => ⟨_, He.frG_in, e⟩
  keeps := fun _ _ _ ⟨K, hK, c⟩ k => ⟨K, PySem.W.Frag.In.keeps hK k, c⟩
theorem obsMQ_eq {n : Nat} {mf : List (PySem.W.Frag → Bool)} {fn : List DefA} {g : Addr → Option Obj} {s : Shared} (h : ∀ a, g a = s.heap.get? a) : obsMQ n mf fn g = (hookMQ n mf fn).obs s := by
  have e : g = s.heap.get? := funext h
  rw [e] <;> rfl
end
end Mv
end
section
set_option Elab.async false
set_option linter.all false
set_option maxRecDepth 100000
set_option maxHeartbeats 4000000
namespace Mv
open PySem PySem.Spec L2 PyProof.Rows
open Evl (Ex ex_l ex_t ex_rd)
open He (ga ma)
def oexCB (K : PySem.W.Frag) (C : Addr) : Bool := match K.lookup C with
  | some ⟨.type "type", _, .cls cd, sl⟩ => (match cd.mro, sl.toList with
    | .ref C' :: bm, [_, _, _, _, some (.builtin n), _] => C' == C && (n == "ValueError.__new__" && (!cd.hasDel && (cd.hasDict && PySem.HandSPX.refsVE bm)))
    | _, _ => false)
  | _ => false
def oexB (K : PySem.W.Frag) (C : Addr) : Bool := oexCB K C && (He.eqO (PySem.W.findIn K (.ref C) "__setattr__") (some (some (.builtin "object.__setattr__"))) && (decide (PySem.W.subIn K (.ref C) (.type "BaseException") = some true) && (decide (PySem.W.typeIn K (.ref C) = some (.type "type")) && PySem.W.keepIn K (.ref C))))
def excCB (K : PySem.W.Frag) (D : Addr) : Bool := xfB K D && (He.eqO (PySem.W.findIn K (.ref D) "__class__") (some (some (.builtin "object.__class__"))) && (He.eqO (PySem.W.specialIn K (.builtin "object.__class__") "__get__") (some (some (.builtin "getset_descriptor.__get__"))) && (decide (PySem.W.takesIn K (.builtin "object.__class__") = some true) && (decide (PySem.W.mroIn K D (.type "object") = some true) && (PySem.W.clsIn K D).isSome))))
section
variable {X : Cx} {S : Sy} {E : XS} {k : Nat}
end
end Mv
end
section
set_option Elab.async false
set_option linter.all false
set_option maxRecDepth 100000
set_option maxHeartbeats 4000000
namespace MvX
open PySem PySem.Spec L2 PySem.HandSPX PySem.W
open Builtin Builtin.ObjectAttr
section
variable {P : Program} {w : World} {A : Around} {E : Value → Shared → Prop} {R : Result → Shared → Prop} {h : Heap} {g : Array GenState} {dr : Drawn} {t : Nat} {os : OsState} {C : Addr} {bm us : List Value} {kw : List (Str × Value)}
end
end MvX
namespace Mv
open PySem PySem.Spec L2 PyProof.Rows
open Evl (Ex ex_l ex_t ex_rd)
section
variable {X : Cx} {S : Sy} {E : XS} {k : Nat}
def veBm : List Value := [.type "ValueError", .type "Exception", .type "BaseException", .type "object"]
def ro0B (K : PySem.W.Frag) (C : Addr) : Bool := PySem.W.excIn K C veBm "ValueError.__new__" && PySem.W.keepIn K (.ref C)
end
end Mv
end
section
set_option Elab.async false
set_option linter.all false
set_option maxRecDepth 100000
set_option maxHeartbeats 4000000
namespace Mv
open PySem PySem.Spec L2
open PyProof.Rows
open Evl (Ex ex_l ex_t)
def putKD (kvs : List (Key × D)) (k : Key) (v : D) : List (Key × D) :=
  if (kvs.any fun kv => decide (kv.1 = k)) = true then kvs.map (fun kv => if kv.1 = k then (kv.1, v) else kv) else kvs ++ [(k, v)]
theorem Rpk.anyK {S : Sy} {F : Hp} {k : Key} : ∀ {vs : List (Key × V)} {ds : List (Key × D)}, Rpk S F vs ds → (vs.any fun kv => decide (kv.1 = k)) = ds.any fun kv => decide (kv.1 = k)
  | _, _, .nil => rfl
  | _, _, .cons _ r => by
    rw [List.any_cons, List.any_cons, Rpk.anyK r]
theorem Rpk.append {S : Sy} {F : Hp} : ∀ {vs ws : List (Key × V)} {ds es : List (Key × D)}, Rpk S F vs ds → Rpk S F ws es → Rpk S F (vs ++ ws) (ds ++ es)
  | _, _, _, _, .nil, s => s
  | _, _, _, _, .cons r t, s => .cons r (Rpk.append t s)
theorem Rpk.mapK {S : Sy} {F : Hp} {k : Key} {v : V} {d : D} (p : Rp S F v d) : ∀ {vs : List (Key × V)} {ds : List (Key × D)}, Rpk S F vs ds → Rpk S F (vs.map fun kv => if kv.1 = k then (kv.1, v) else kv) (ds.map fun kv => if kv.1 = k then (kv.1, d) else kv)
  | _, _, .nil => .nil
  | _, _, .cons (k := j) r t => by
    rw [List.map_cons, List.map_cons]
    by_cases h : j = k
    · rw [if_pos h, if_pos h]
      exact .cons p (Rpk.mapK p t)
    · rw [if_neg h, if_neg h]
      exact .cons r (Rpk.mapK p t)
theorem Rpk.put {S : Sy} {F : Hp} {k : Key} {v : V} {d : D} {vs : List (Key × V)} {ds : List (Key × D)} (r : Rpk S F vs ds) (p : Rp S F v d) : Rpk S F (putK vs k v) (putKD ds k d) := by
  unfold putK putKD
  rw [r.anyK]
  split
  · exact r.mapK p
  · exact r.append (.cons p .nil)
def keyD : D → Option Key
  | .int i => some (.inl i)
  | .str s => some (.inr s)
  | _ => none
def compK (p : Addr) (ok : Wd → Prop) (g : DG) (tt : DT) (tk tv : DE) (sd0 : SD) (K : List (Key × Mv.D) → Wd → Prop) : List Mv.D → List (Key × Mv.D) → Wd → Prop
  | [], acc, W => ok W ∧ W p = some (.dK acc) ∧ K acc W
  | d :: ds, acc, W => ok W ∧ g d sd0 W (fun sd1 W1 => tt sd1 W1 (fun b W2 => if b = true then tk sd1 W2 (fun y W3 => tv sd1 W3 (fun z W4 => kSome (keyD y) fun k => W4 p = some (.dK acc) ∧ acc.length < 1000000 ∧ compK p ok g tt tk tv sd0 K ds (putKD acc k z) (put W4 p (.dK (putKD acc k z)))) E2F) E2F else compK p ok g tt tk tv sd0 K ds acc W2) E2F)
theorem compK.ok {p : Addr} {ok : Wd → Prop} {g : DG} {tt : DT} {tk tv : DE} {sd0 : SD} {K : List (Key × D) → Wd → Prop} {ds : List Mv.D} {acc : List (Key × D)} {W : Wd} (h : compK p ok g tt tk tv sd0 K ds acc W) : ok W := by
  cases ds with
  | nil => exact h.1
  | cons d ds => exact h.1
section
variable {X : Cx} {S : Sy} {E : XS} {tg : Expr}
variable {kx vx iter : Expr} {ifs : List Expr} {scope : Scope} {own : List (Str × Nat)} {pos : Pos} {ti : DI} {g : DG} {tt : DT} {tk tv : DE}
end
end Mv
end
section
set_option Elab.async false
set_option linter.all false
set_option maxRecDepth 100000
set_option maxHeartbeats 4000000
namespace Mv
open PySem PySem.Spec L2
open PyProof.Rows (sortedS)
def nmL (l : List Nat) : Bool := decide (1 ≤ l.length ∧ l.length ≤ 8) && l.all fun c => decide (97 ≤ c ∧ c ≤ 122)
end Mv
end
section
set_option Elab.async false
set_option linter.all false
set_option maxRecDepth 100000
set_option maxHeartbeats 4000000
namespace Mv
open PySem PySem.Spec L2
open PyProof.Rows (sortedS)
inductive Pl where
  | one (c : Nat) (n : Str) (a b : Int)
  | both (n : Str) (a b x y : Int)
  | lot (c : Nat) (ns : List Str) (a b : Int)
  | along (n m : Str) (a b : Int)
def shP (a b : Int) : Prop := 0 ≤ a ∧ a ≤ 100 ∧ 0 < b ∧ b ≤ 100
def nameP (n : Str) : Prop := nmL n.cps.toList = true ∧ n.length ≤ 8
def Pl.ok : Pl → Prop
  | .one c n a b => c ∈ [27, 28, 29, 30, 31] ∧ nameP n ∧ shP a b ∧ (c ∈ [28, 29, 31] → a ≤ b)
  | .both n a b x y => nameP n ∧ shP a b ∧ shP x y ∧ x ≤ y
  | .lot c ns a b => c ∈ [33, 34] ∧ ns ≠ [] ∧ ns.length ≤ 6 ∧ ns.Nodup ∧ (∀ n ∈ ns, nameP n) ∧ shP a b
  | .along n m a b => nameP n ∧ nameP m ∧ n ≠ m ∧ shP a b
end Mv
end
section
set_option Elab.async false
set_option linter.all false
set_option maxRecDepth 100000
set_option maxHeartbeats 4000000
namespace Mv
open PySem PySem.Spec L2
open PyProof.Rows
open Evl (Ex ex_l ex_t ex_rd)
def SubW (W0 W : Wd) : Prop := ∀ a m, W0 a = some m → W a = some m
theorem SubW.put {W : Wd} {p : Addr} {m : M} (h : W p = none) : SubW W (put W p m) := fun a n e => by
  rw [put_ne (fun z => by rw [z, h] at e; cases e)]
  exact e
section
variable {X : Cx} {S : Sy} {E : XS}
end
end Mv
end
section
set_option Elab.async false
set_option linter.all false
set_option maxRecDepth 100000
set_option maxHeartbeats 4000000
namespace Mv
open PySem PySem.Spec L2 PyProof.Rows
open Evl (Ex ex_l ex_t ex_rd)
section
variable {X : Cx} {S : Sy} {E : XS} {tg iter tg1 iter1 elt : Expr} {ti ti1 : DI} {g g1 : DG} {tt tt1 : DT} {te : DE}
def compD2 (p : Addr) (ok : Wd → Prop) (g : DG) (tt : DT) (ti1 : DI) (g1 : DG) (tt1 : DT) (te : DE) (sd0 : SD) (vs1 : List Nat) (K : List Mv.D → Wd → Prop) : List Mv.D → List Mv.D → Wd → Prop
  | [], acc, W => ok W ∧ W p = some (.lst acc) ∧ K acc W
  | d :: ds, acc, W => ok W ∧ g d sd0 W (fun sd1 W1 => tt sd1 W1 (fun b W2 => if b = true then ti1 sd1 W2 (fun l W3 => compD p l.ok g1 tt1 te (wipeD sd1 vs1) (fun acc' W4 => compD2 p ok g tt ti1 g1 tt1 te sd0 vs1 K ds acc' W4) l.items acc W3) E2F else compD2 p ok g tt ti1 g1 tt1 te sd0 vs1 K ds acc W2) E2F)
theorem compD2.ok {p : Addr} {ok : Wd → Prop} {sd0 : SD} {vs1 : List Nat} {K : List Mv.D → Wd → Prop} {ds acc : List Mv.D} {W : Wd} (h : compD2 p ok g tt ti1 g1 tt1 te sd0 vs1 K ds acc W) : ok W := by
  cases ds with
  | nil => exact h.1
  | cons d ds => exact h.1
variable {ifs ifs1 : List Expr} {scope : Scope} {own : List (Str × Nat)} {vs1 : List Nat} {pos : Pos}
end
end Mv
end
section
set_option Elab.async false
set_option linter.all false
set_option maxRecDepth 100000
set_option maxHeartbeats 4000000
namespace Mv
open PySem PySem.Spec L2 PyProof.Rows
open Evl (Ex ex_l ex_t ex_rd)
section
variable {X : Cx} {pins : List (Addr × Obj)} {σ : L2.St} {H : Hp} {s : Shared}
variable {kx vx tg iter : Expr} {ifs : List Expr} {scope : Scope} {own : List (Str × Nat)} {pos : Pos} {src : TI} {st : TG} {cond : TT} {ky vl : TE}
end
def putTD (kvs : List (List Key × D)) (k : List Key) (v : D) : List (List Key × D) :=
  if (kvs.any fun kv => decide (kv.1 = k)) = true then kvs.map (fun kv => if kv.1 = k then (kv.1, v) else kv) else kvs ++ [(k, v)]
section
variable {S : Sy} {F : Hp} {k : List Key} {v : V} {d : D}
theorem Rpt.len {F : Hp} : ∀ {vs : List (List Key × V)} {ds : List (List Key × D)}, Rpt S F vs ds → vs.length = ds.length
  | _, _, .nil => rfl
  | _, _, .cons _ r => by rw [List.length_cons, List.length_cons, Rpt.len r]
def keysD : List D → Option (List Key)
  | [] => some []
  | d :: ds => (match keyD d, keysD ds with
    | some k, some ks => some (k :: ks)
    | _, _ => none)
def keyTD : D → Option (List Key)
  | .tup ds => if ds.length = 1 ∨ ds.length = 2 then keysD ds else none
  | _ => none
end
section
variable {X : Cx} {S : Sy} {E : XS} {tg : Expr}
variable {kx vx iter : Expr} {ifs : List Expr} {scope : Scope} {own : List (Str × Nat)} {pos : Pos} {ti : DI} {g : DG} {tt : DT} {tk tv : DE}
def compT (p : Addr) (ok : Wd → Prop) (g : DG) (tt : DT) (tk tv : DE) (sd0 : SD) (K : List (List Key × Mv.D) → Wd → Prop) : List Mv.D → List (List Key × Mv.D) → Wd → Prop
  | [], acc, W => ok W ∧ W p = some (.dT acc) ∧ K acc W
  | d :: ds, acc, W => ok W ∧ g d sd0 W (fun sd1 W1 => tt sd1 W1 (fun b W2 => if b = true then tk sd1 W2 (fun y W3 => tv sd1 W3 (fun z W4 => kSome (keyTD y) fun k => W4 p = some (.dT acc) ∧ acc.length < 1000000 ∧ compT p ok g tt tk tv sd0 K ds (putTD acc k z) (put W4 p (.dT (putTD acc k z)))) E2F) E2F else compT p ok g tt tk tv sd0 K ds acc W2) E2F)
theorem compT.ok {p : Addr} {ok : Wd → Prop} {sd0 : SD} {K : List (List Key × D) → Wd → Prop} {ds : List Mv.D} {acc : List (List Key × D)} {W : Wd} (h : compT p ok g tt tk tv sd0 K ds acc W) : ok W := by
  cases ds with
  | nil => exact h.1
  | cons d ds => exact h.1
end
end Mv
end
section
set_option Elab.async false
set_option linter.all false
set_option maxRecDepth 100000
set_option maxHeartbeats 8000000
namespace Mv.K01
open PySem PySem.Spec L2 PyProof.Rows
open He (ga ma)
open He5 (DefA wf)
def top (i : Nat) : Stmt := PySem.Challenge.pw_movedsums_k01_errors_and_their_fields.main.body.getD i (.Pass ⟨0, 0, 0, 0⟩)
def inCls (s : Stmt) (j : Nat) : Stmt := inClass s j
def cn : Cn := [(1, "MoneyError"), (2, "BadInput"), (3, "BadAmount"), (4, "BadName"), (5, "BadCount"), (6, "BadLimit"), (7, "BadBook"), (8, "BadFirsts"), (9, "BadMove"), (50, "BadTotals"), (10, "BadEnds"), (11, "BadPrices"), (12, "BadRun"), (51, "BadAsk"), (13, "BadText"), (14, "BadLine"), (15, "Refused"), (16, "NoLine"), (17, "NoPair"), (18, "Over"), (52, "Unfed"), (53, "Shut"), (54, "Known"), (19, "TooMany"), (20, "NoAnswer"), (21, "NoDeed"), (22, "NoBudget")]
abbrev s__law_pen : Stmt := top 29
def d__law_pen : DefA := ⟨fun K => ga K "_law_pen", "_law_pen", "_law_pen", defArgs s__law_pen, defBody s__law_pen, defScope s__law_pen, [], []⟩
abbrev s__law_draw : Stmt := top 30
def d__law_draw : DefA := ⟨fun K => ga K "_law_draw", "_law_draw", "_law_draw", defArgs s__law_draw, defBody s__law_draw, defScope s__law_draw, [], []⟩
abbrev s__law_pick : Stmt := top 31
def d__law_pick : DefA := ⟨fun K => ga K "_law_pick", "_law_pick", "_law_pick", defArgs s__law_pick, defBody s__law_pick, defScope s__law_pick, [], []⟩
abbrev s__law_value : Stmt := top 32
def d__law_value : DefA := ⟨fun K => ga K "_law_value", "_law_value", "_law_value", defArgs s__law_value, defBody s__law_value, defScope s__law_value, [], []⟩
abbrev s__law_signs : Stmt := top 33
def d__law_signs : DefA := ⟨fun K => ga K "_law_signs", "_law_signs", "_law_signs", defArgs s__law_signs, defBody s__law_signs, defScope s__law_signs, [], []⟩
abbrev s__law_kinds : Stmt := top 34
def d__law_kinds : DefA := ⟨fun K => ga K "_law_kinds", "_law_kinds", "_law_kinds", defArgs s__law_kinds, defBody s__law_kinds, defScope s__law_kinds, [], []⟩
abbrev s__law_inputs : Stmt := top 35
def d__law_inputs : DefA := ⟨fun K => ga K "_law_inputs", "_law_inputs", "_law_inputs", defArgs s__law_inputs, defBody s__law_inputs, defScope s__law_inputs, [], []⟩
abbrev s__law_others : Stmt := top 36
def d__law_others : DefA := ⟨fun K => ga K "_law_others", "_law_others", "_law_others", defArgs s__law_others, defBody s__law_others, defScope s__law_others, [], []⟩
abbrev s__law_named_right : Stmt := top 37
def d__law_named_right : DefA := ⟨fun K => ga K "_law_named_right", "_law_named_right", "_law_named_right", defArgs s__law_named_right, defBody s__law_named_right, defScope s__law_named_right, [], []⟩
abbrev s__law_pairs_right : Stmt := top 38
def d__law_pairs_right : DefA := ⟨fun K => ga K "_law_pairs_right", "_law_pairs_right", "_law_pairs_right", defArgs s__law_pairs_right, defBody s__law_pairs_right, defScope s__law_pairs_right, [], []⟩
abbrev s_law : Stmt := top 39
def d_law : DefA := ⟨fun K => ga K "law", "law", "law", defArgs s_law, defBody s_law, defScope s_law, [], []⟩
abbrev s_xBadAmount : Stmt := inCls (top 3) 0
def d_xBadAmount : DefA := ⟨fun K => ma K (ga K "BadAmount") "__init__", "__init__", "BadAmount.__init__", defArgs s_xBadAmount, defBody s_xBadAmount, defScope s_xBadAmount, [], []⟩
abbrev s_xBadLimit : Stmt := inCls (top 6) 0
def d_xBadLimit : DefA := ⟨fun K => ma K (ga K "BadLimit") "__init__", "__init__", "BadLimit.__init__", defArgs s_xBadLimit, defBody s_xBadLimit, defScope s_xBadLimit, [], []⟩
abbrev s_xBadBook : Stmt := inCls (top 7) 0
def d_xBadBook : DefA := ⟨fun K => ma K (ga K "BadBook") "__init__", "__init__", "BadBook.__init__", defArgs s_xBadBook, defBody s_xBadBook, defScope s_xBadBook, [], []⟩
abbrev s_xBadMove : Stmt := inCls (top 9) 0
def d_xBadMove : DefA := ⟨fun K => ma K (ga K "BadMove") "__init__", "__init__", "BadMove.__init__", defArgs s_xBadMove, defBody s_xBadMove, defScope s_xBadMove, [], []⟩
abbrev s_xBadRun : Stmt := inCls (top 13) 0
def d_xBadRun : DefA := ⟨fun K => ma K (ga K "BadRun") "__init__", "__init__", "BadRun.__init__", defArgs s_xBadRun, defBody s_xBadRun, defScope s_xBadRun, [], []⟩
abbrev s_xBadName : Stmt := inCls (top 4) 0
def d_xBadName : DefA := ⟨fun K => ma K (ga K "BadName") "__init__", "__init__", "BadName.__init__", defArgs s_xBadName, defBody s_xBadName, defScope s_xBadName, [], []⟩
abbrev s_xBadCount : Stmt := inCls (top 5) 0
def d_xBadCount : DefA := ⟨fun K => ma K (ga K "BadCount") "__init__", "__init__", "BadCount.__init__", defArgs s_xBadCount, defBody s_xBadCount, defScope s_xBadCount, [], []⟩
abbrev s_xBadFirsts : Stmt := inCls (top 8) 0
def d_xBadFirsts : DefA := ⟨fun K => ma K (ga K "BadFirsts") "__init__", "__init__", "BadFirsts.__init__", defArgs s_xBadFirsts, defBody s_xBadFirsts, defScope s_xBadFirsts, [], []⟩
abbrev s_xBadTotals : Stmt := inCls (top 10) 0
def d_xBadTotals : DefA := ⟨fun K => ma K (ga K "BadTotals") "__init__", "__init__", "BadTotals.__init__", defArgs s_xBadTotals, defBody s_xBadTotals, defScope s_xBadTotals, [], []⟩
abbrev s_xBadEnds : Stmt := inCls (top 11) 0
def d_xBadEnds : DefA := ⟨fun K => ma K (ga K "BadEnds") "__init__", "__init__", "BadEnds.__init__", defArgs s_xBadEnds, defBody s_xBadEnds, defScope s_xBadEnds, [], []⟩
abbrev s_xBadPrices : Stmt := inCls (top 12) 0
def d_xBadPrices : DefA := ⟨fun K => ma K (ga K "BadPrices") "__init__", "__init__", "BadPrices.__init__", defArgs s_xBadPrices, defBody s_xBadPrices, defScope s_xBadPrices, [], []⟩
abbrev s_xBadAsk : Stmt := inCls (top 14) 0
def d_xBadAsk : DefA := ⟨fun K => ma K (ga K "BadAsk") "__init__", "__init__", "BadAsk.__init__", defArgs s_xBadAsk, defBody s_xBadAsk, defScope s_xBadAsk, [], []⟩
abbrev s_xBadLine : Stmt := inCls (top 16) 0
def d_xBadLine : DefA := ⟨fun K => ma K (ga K "BadLine") "__init__", "__init__", "BadLine.__init__", defArgs s_xBadLine, defBody s_xBadLine, defScope s_xBadLine, [], []⟩
abbrev s_xNoLine : Stmt := inCls (top 18) 0
def d_xNoLine : DefA := ⟨fun K => ma K (ga K "NoLine") "__init__", "__init__", "NoLine.__init__", defArgs s_xNoLine, defBody s_xNoLine, defScope s_xNoLine, [], []⟩
abbrev s_xOver : Stmt := inCls (top 20) 0
def d_xOver : DefA := ⟨fun K => ma K (ga K "Over") "__init__", "__init__", "Over.__init__", defArgs s_xOver, defBody s_xOver, defScope s_xOver, [], []⟩
abbrev s_xUnfed : Stmt := inCls (top 21) 0
def d_xUnfed : DefA := ⟨fun K => ma K (ga K "Unfed") "__init__", "__init__", "Unfed.__init__", defArgs s_xUnfed, defBody s_xUnfed, defScope s_xUnfed, [], []⟩
abbrev s_xShut : Stmt := inCls (top 22) 0
def d_xShut : DefA := ⟨fun K => ma K (ga K "Shut") "__init__", "__init__", "Shut.__init__", defArgs s_xShut, defBody s_xShut, defScope s_xShut, [], []⟩
abbrev s_xKnown : Stmt := inCls (top 23) 0
def d_xKnown : DefA := ⟨fun K => ma K (ga K "Known") "__init__", "__init__", "Known.__init__", defArgs s_xKnown, defBody s_xKnown, defScope s_xKnown, [], []⟩
abbrev s_xBadText : Stmt := inCls (top 15) 0
def d_xBadText : DefA := ⟨fun K => ma K (ga K "BadText") "__init__", "__init__", "BadText.__init__", defArgs s_xBadText, defBody s_xBadText, defScope s_xBadText, [], []⟩
abbrev s_xNoPair : Stmt := inCls (top 19) 0
def d_xNoPair : DefA := ⟨fun K => ma K (ga K "NoPair") "__init__", "__init__", "NoPair.__init__", defArgs s_xNoPair, defBody s_xNoPair, defScope s_xNoPair, [], []⟩
abbrev s_xTooMany : Stmt := inCls (top 24) 0
def d_xTooMany : DefA := ⟨fun K => ma K (ga K "TooMany") "__init__", "__init__", "TooMany.__init__", defArgs s_xTooMany, defBody s_xTooMany, defScope s_xTooMany, [], []⟩
def fn : List DefA := [d__law_pen, d__law_draw, d__law_pick, d__law_value, d__law_signs, d__law_kinds, d__law_inputs, d__law_others, d__law_named_right, d__law_pairs_right, d_law, d_xBadAmount, d_xBadLimit, d_xBadBook, d_xBadMove, d_xBadRun, d_xBadName, d_xBadCount, d_xBadFirsts, d_xBadTotals, d_xBadEnds, d_xBadPrices, d_xBadAsk, d_xBadLine, d_xNoLine, d_xOver, d_xUnfed, d_xShut, d_xKnown, d_xBadText, d_xNoPair, d_xTooMany]
abbrev f_0 : PySem.W.Frag → Bool := cnB cn
abbrev f_1 : PySem.W.Frag → Bool := fun K => smB K
abbrev f_2 : PySem.W.Frag → Bool := fun K => (He.Fa.free "list").ok K
abbrev f_3 : PySem.W.Frag → Bool := fun K => (He.Fa.free "int").ok K
abbrev f_4 : PySem.W.Frag → Bool := fun K => (He.Fa.free "len").ok K
abbrev f_5 : PySem.W.Frag → Bool := fun K => (He.Fa.free "abs").ok K
abbrev f_6 : PySem.W.Frag → Bool := fun K => (He.Fa.glo "_law_draw").ok K
abbrev f_7 : PySem.W.Frag → Bool := fun K => (He.Fa.glo "_law_pick").ok K
abbrev f_8 : PySem.W.Frag → Bool := fun K => ([3, 4, 5, 6, 7, 8, 9, 50, 10, 11, 12, 51, 13, 14, 16, 17, 18, 52, 53, 54, 19, 1, 2, 15, 20, 21, 22] : List Nat).all fun c => excCB K (caK cn K c)
abbrev f_9 : PySem.W.Frag → Bool := fun K => ([(3, true), (4, true), (5, true), (6, true), (7, true), (8, true), (9, true), (50, true), (10, true), (11, true), (12, true), (51, true), (13, true), (14, true), (16, false), (17, false), (18, false), (52, false), (53, false), (54, false), (19, false), (1, false), (2, true), (15, false), (20, false), (21, false), (22, false)] : List (Nat × Bool)).all fun e => decide (PySem.W.kitOne K (.ref (caK cn K e.1)) (.ref (caK cn K 2)) = some e.2)
abbrev f_10 : PySem.W.Frag → Bool := fun K => (He.Fa.glo "BadInput").ok K
abbrev f_11 : PySem.W.Frag → Bool := fun K => (He.Fa.free "isinstance").ok K
abbrev f_12 : PySem.W.Frag → Bool := fun K => ([(3, false), (4, false), (5, false), (6, false), (7, false), (8, false), (9, false), (50, false), (10, false), (11, false), (12, false), (51, false), (13, false), (14, false), (16, true), (17, true), (18, true), (52, true), (53, true), (54, true), (19, true), (1, false), (2, false), (15, true), (20, false), (21, false), (22, false)] : List (Nat × Bool)).all fun e => decide (PySem.W.kitOne K (.ref (caK cn K e.1)) (.ref (caK cn K 15)) = some e.2)
abbrev f_13 : PySem.W.Frag → Bool := fun K => (He.Fa.glo "Refused").ok K
abbrev f_14 : PySem.W.Frag → Bool := fun K => ([(3, false), (4, false), (5, false), (6, false), (7, false), (8, false), (9, false), (50, false), (10, false), (11, false), (12, false), (51, false), (13, false), (14, false), (16, false), (17, false), (18, false), (52, false), (53, false), (54, false), (19, false), (1, false), (2, false), (15, false), (20, true), (21, true), (22, true)] : List (Nat × Bool)).all fun e => decide (PySem.W.kitOne K (.ref (caK cn K e.1)) (.ref (caK cn K 20)) = some e.2)
abbrev f_15 : PySem.W.Frag → Bool := fun K => (He.Fa.glo "NoAnswer").ok K
abbrev f_16 : PySem.W.Frag → Bool := fun K => ([(3, true), (4, false), (5, false), (6, false), (7, false), (8, false), (9, false), (50, false), (10, false), (11, false), (12, false), (51, false), (13, false), (14, false), (16, false), (17, false), (18, false), (52, false), (53, false), (54, false), (19, false), (1, false), (2, false), (15, false), (20, false), (21, false), (22, false)] : List (Nat × Bool)).all fun e => decide (PySem.W.kitOne K (.ref (caK cn K e.1)) (.ref (caK cn K 3)) = some e.2)
abbrev f_17 : PySem.W.Frag → Bool := fun K => (He.Fa.glo "BadAmount").ok K
abbrev f_18 : PySem.W.Frag → Bool := fun K => ([(3, false), (4, true), (5, false), (6, false), (7, false), (8, false), (9, false), (50, false), (10, false), (11, false), (12, false), (51, false), (13, false), (14, false), (16, false), (17, false), (18, false), (52, false), (53, false), (54, false), (19, false), (1, false), (2, false), (15, false), (20, false), (21, false), (22, false)] : List (Nat × Bool)).all fun e => decide (PySem.W.kitOne K (.ref (caK cn K e.1)) (.ref (caK cn K 4)) = some e.2)
abbrev f_19 : PySem.W.Frag → Bool := fun K => (He.Fa.glo "BadName").ok K
abbrev f_20 : PySem.W.Frag → Bool := fun K => ([(3, false), (4, false), (5, true), (6, false), (7, false), (8, false), (9, false), (50, false), (10, false), (11, false), (12, false), (51, false), (13, false), (14, false), (16, false), (17, false), (18, false), (52, false), (53, false), (54, false), (19, false), (1, false), (2, false), (15, false), (20, false), (21, false), (22, false)] : List (Nat × Bool)).all fun e => decide (PySem.W.kitOne K (.ref (caK cn K e.1)) (.ref (caK cn K 5)) = some e.2)
abbrev f_21 : PySem.W.Frag → Bool := fun K => (He.Fa.glo "BadCount").ok K
abbrev f_22 : PySem.W.Frag → Bool := fun K => ([(3, false), (4, false), (5, false), (6, true), (7, false), (8, false), (9, false), (50, false), (10, false), (11, false), (12, false), (51, false), (13, false), (14, false), (16, false), (17, false), (18, false), (52, false), (53, false), (54, false), (19, false), (1, false), (2, false), (15, false), (20, false), (21, false), (22, false)] : List (Nat × Bool)).all fun e => decide (PySem.W.kitOne K (.ref (caK cn K e.1)) (.ref (caK cn K 6)) = some e.2)
abbrev f_23 : PySem.W.Frag → Bool := fun K => (He.Fa.glo "BadLimit").ok K
abbrev f_24 : PySem.W.Frag → Bool := fun K => ([(3, false), (4, false), (5, false), (6, false), (7, true), (8, false), (9, false), (50, false), (10, false), (11, false), (12, false), (51, false), (13, false), (14, false), (16, false), (17, false), (18, false), (52, false), (53, false), (54, false), (19, false), (1, false), (2, false), (15, false), (20, false), (21, false), (22, false)] : List (Nat × Bool)).all fun e => decide (PySem.W.kitOne K (.ref (caK cn K e.1)) (.ref (caK cn K 7)) = some e.2)
abbrev f_25 : PySem.W.Frag → Bool := fun K => (He.Fa.glo "BadBook").ok K
abbrev f_26 : PySem.W.Frag → Bool := fun K => ([(3, false), (4, false), (5, false), (6, false), (7, false), (8, true), (9, false), (50, false), (10, false), (11, false), (12, false), (51, false), (13, false), (14, false), (16, false), (17, false), (18, false), (52, false), (53, false), (54, false), (19, false), (1, false), (2, false), (15, false), (20, false), (21, false), (22, false)] : List (Nat × Bool)).all fun e => decide (PySem.W.kitOne K (.ref (caK cn K e.1)) (.ref (caK cn K 8)) = some e.2)
abbrev f_27 : PySem.W.Frag → Bool := fun K => (He.Fa.glo "BadFirsts").ok K
abbrev f_28 : PySem.W.Frag → Bool := fun K => ([(3, false), (4, false), (5, false), (6, false), (7, false), (8, false), (9, true), (50, false), (10, false), (11, false), (12, false), (51, false), (13, false), (14, false), (16, false), (17, false), (18, false), (52, false), (53, false), (54, false), (19, false), (1, false), (2, false), (15, false), (20, false), (21, false), (22, false)] : List (Nat × Bool)).all fun e => decide (PySem.W.kitOne K (.ref (caK cn K e.1)) (.ref (caK cn K 9)) = some e.2)
abbrev f_29 : PySem.W.Frag → Bool := fun K => (He.Fa.glo "BadMove").ok K
abbrev f_30 : PySem.W.Frag → Bool := fun K => ([(3, false), (4, false), (5, false), (6, false), (7, false), (8, false), (9, false), (50, true), (10, false), (11, false), (12, false), (51, false), (13, false), (14, false), (16, false), (17, false), (18, false), (52, false), (53, false), (54, false), (19, false), (1, false), (2, false), (15, false), (20, false), (21, false), (22, false)] : List (Nat × Bool)).all fun e => decide (PySem.W.kitOne K (.ref (caK cn K e.1)) (.ref (caK cn K 50)) = some e.2)
abbrev f_31 : PySem.W.Frag → Bool := fun K => (He.Fa.glo "BadTotals").ok K
abbrev f_32 : PySem.W.Frag → Bool := fun K => ([(3, false), (4, false), (5, false), (6, false), (7, false), (8, false), (9, false), (50, false), (10, true), (11, false), (12, false), (51, false), (13, false), (14, false), (16, false), (17, false), (18, false), (52, false), (53, false), (54, false), (19, false), (1, false), (2, false), (15, false), (20, false), (21, false), (22, false)] : List (Nat × Bool)).all fun e => decide (PySem.W.kitOne K (.ref (caK cn K e.1)) (.ref (caK cn K 10)) = some e.2)
abbrev f_33 : PySem.W.Frag → Bool := fun K => (He.Fa.glo "BadEnds").ok K
abbrev f_34 : PySem.W.Frag → Bool := fun K => ([(3, false), (4, false), (5, false), (6, false), (7, false), (8, false), (9, false), (50, false), (10, false), (11, true), (12, false), (51, false), (13, false), (14, false), (16, false), (17, false), (18, false), (52, false), (53, false), (54, false), (19, false), (1, false), (2, false), (15, false), (20, false), (21, false), (22, false)] : List (Nat × Bool)).all fun e => decide (PySem.W.kitOne K (.ref (caK cn K e.1)) (.ref (caK cn K 11)) = some e.2)
abbrev f_35 : PySem.W.Frag → Bool := fun K => (He.Fa.glo "BadPrices").ok K
abbrev f_36 : PySem.W.Frag → Bool := fun K => ([(3, false), (4, false), (5, false), (6, false), (7, false), (8, false), (9, false), (50, false), (10, false), (11, false), (12, true), (51, false), (13, false), (14, false), (16, false), (17, false), (18, false), (52, false), (53, false), (54, false), (19, false), (1, false), (2, false), (15, false), (20, false), (21, false), (22, false)] : List (Nat × Bool)).all fun e => decide (PySem.W.kitOne K (.ref (caK cn K e.1)) (.ref (caK cn K 12)) = some e.2)
abbrev f_37 : PySem.W.Frag → Bool := fun K => (He.Fa.glo "BadRun").ok K
abbrev f_38 : PySem.W.Frag → Bool := fun K => ([(3, false), (4, false), (5, false), (6, false), (7, false), (8, false), (9, false), (50, false), (10, false), (11, false), (12, false), (51, true), (13, false), (14, false), (16, false), (17, false), (18, false), (52, false), (53, false), (54, false), (19, false), (1, false), (2, false), (15, false), (20, false), (21, false), (22, false)] : List (Nat × Bool)).all fun e => decide (PySem.W.kitOne K (.ref (caK cn K e.1)) (.ref (caK cn K 51)) = some e.2)
abbrev f_39 : PySem.W.Frag → Bool := fun K => (He.Fa.glo "BadAsk").ok K
abbrev f_40 : PySem.W.Frag → Bool := fun K => ([(3, false), (4, false), (5, false), (6, false), (7, false), (8, false), (9, false), (50, false), (10, false), (11, false), (12, false), (51, false), (13, true), (14, false), (16, false), (17, false), (18, false), (52, false), (53, false), (54, false), (19, false), (1, false), (2, false), (15, false), (20, false), (21, false), (22, false)] : List (Nat × Bool)).all fun e => decide (PySem.W.kitOne K (.ref (caK cn K e.1)) (.ref (caK cn K 13)) = some e.2)
abbrev f_41 : PySem.W.Frag → Bool := fun K => (He.Fa.glo "BadText").ok K
abbrev f_42 : PySem.W.Frag → Bool := fun K => ([(3, false), (4, false), (5, false), (6, false), (7, false), (8, false), (9, false), (50, false), (10, false), (11, false), (12, false), (51, false), (13, false), (14, true), (16, false), (17, false), (18, false), (52, false), (53, false), (54, false), (19, false), (1, false), (2, false), (15, false), (20, false), (21, false), (22, false)] : List (Nat × Bool)).all fun e => decide (PySem.W.kitOne K (.ref (caK cn K e.1)) (.ref (caK cn K 14)) = some e.2)
abbrev f_43 : PySem.W.Frag → Bool := fun K => (He.Fa.glo "BadLine").ok K
abbrev f_44 : PySem.W.Frag → Bool := fun K => ([(3, false), (4, false), (5, false), (6, false), (7, false), (8, false), (9, false), (50, false), (10, false), (11, false), (12, false), (51, false), (13, false), (14, false), (16, true), (17, false), (18, false), (52, false), (53, false), (54, false), (19, false), (1, false), (2, false), (15, false), (20, false), (21, false), (22, false)] : List (Nat × Bool)).all fun e => decide (PySem.W.kitOne K (.ref (caK cn K e.1)) (.ref (caK cn K 16)) = some e.2)
abbrev f_45 : PySem.W.Frag → Bool := fun K => (He.Fa.glo "NoLine").ok K
abbrev f_46 : PySem.W.Frag → Bool := fun K => ([(3, false), (4, false), (5, false), (6, false), (7, false), (8, false), (9, false), (50, false), (10, false), (11, false), (12, false), (51, false), (13, false), (14, false), (16, false), (17, true), (18, false), (52, false), (53, false), (54, false), (19, false), (1, false), (2, false), (15, false), (20, false), (21, false), (22, false)] : List (Nat × Bool)).all fun e => decide (PySem.W.kitOne K (.ref (caK cn K e.1)) (.ref (caK cn K 17)) = some e.2)
abbrev f_47 : PySem.W.Frag → Bool := fun K => (He.Fa.glo "NoPair").ok K
abbrev f_48 : PySem.W.Frag → Bool := fun K => ([(3, false), (4, false), (5, false), (6, false), (7, false), (8, false), (9, false), (50, false), (10, false), (11, false), (12, false), (51, false), (13, false), (14, false), (16, false), (17, false), (18, true), (52, false), (53, false), (54, false), (19, false), (1, false), (2, false), (15, false), (20, false), (21, false), (22, false)] : List (Nat × Bool)).all fun e => decide (PySem.W.kitOne K (.ref (caK cn K e.1)) (.ref (caK cn K 18)) = some e.2)
abbrev f_49 : PySem.W.Frag → Bool := fun K => (He.Fa.glo "Over").ok K
abbrev f_50 : PySem.W.Frag → Bool := fun K => ([(3, false), (4, false), (5, false), (6, false), (7, false), (8, false), (9, false), (50, false), (10, false), (11, false), (12, false), (51, false), (13, false), (14, false), (16, false), (17, false), (18, false), (52, true), (53, false), (54, false), (19, false), (1, false), (2, false), (15, false), (20, false), (21, false), (22, false)] : List (Nat × Bool)).all fun e => decide (PySem.W.kitOne K (.ref (caK cn K e.1)) (.ref (caK cn K 52)) = some e.2)
abbrev f_51 : PySem.W.Frag → Bool := fun K => (He.Fa.glo "Unfed").ok K
abbrev f_52 : PySem.W.Frag → Bool := fun K => ([(3, false), (4, false), (5, false), (6, false), (7, false), (8, false), (9, false), (50, false), (10, false), (11, false), (12, false), (51, false), (13, false), (14, false), (16, false), (17, false), (18, false), (52, false), (53, true), (54, false), (19, false), (1, false), (2, false), (15, false), (20, false), (21, false), (22, false)] : List (Nat × Bool)).all fun e => decide (PySem.W.kitOne K (.ref (caK cn K e.1)) (.ref (caK cn K 53)) = some e.2)
abbrev f_53 : PySem.W.Frag → Bool := fun K => (He.Fa.glo "Shut").ok K
abbrev f_54 : PySem.W.Frag → Bool := fun K => ([(3, false), (4, false), (5, false), (6, false), (7, false), (8, false), (9, false), (50, false), (10, false), (11, false), (12, false), (51, false), (13, false), (14, false), (16, false), (17, false), (18, false), (52, false), (53, false), (54, true), (19, false), (1, false), (2, false), (15, false), (20, false), (21, false), (22, false)] : List (Nat × Bool)).all fun e => decide (PySem.W.kitOne K (.ref (caK cn K e.1)) (.ref (caK cn K 54)) = some e.2)
abbrev f_55 : PySem.W.Frag → Bool := fun K => (He.Fa.glo "Known").ok K
abbrev f_56 : PySem.W.Frag → Bool := fun K => ([(3, false), (4, false), (5, false), (6, false), (7, false), (8, false), (9, false), (50, false), (10, false), (11, false), (12, false), (51, false), (13, false), (14, false), (16, false), (17, false), (18, false), (52, false), (53, false), (54, false), (19, true), (1, false), (2, false), (15, false), (20, false), (21, false), (22, false)] : List (Nat × Bool)).all fun e => decide (PySem.W.kitOne K (.ref (caK cn K e.1)) (.ref (caK cn K 19)) = some e.2)
abbrev f_57 : PySem.W.Frag → Bool := fun K => (He.Fa.glo "TooMany").ok K
abbrev f_58 : PySem.W.Frag → Bool := fun K => ([(3, false), (4, false), (5, false), (6, false), (7, false), (8, false), (9, false), (50, false), (10, false), (11, false), (12, false), (51, false), (13, false), (14, false), (16, false), (17, false), (18, false), (52, false), (53, false), (54, false), (19, false), (1, false), (2, false), (15, false), (20, false), (21, true), (22, false)] : List (Nat × Bool)).all fun e => decide (PySem.W.kitOne K (.ref (caK cn K e.1)) (.ref (caK cn K 21)) = some e.2)
abbrev f_59 : PySem.W.Frag → Bool := fun K => (He.Fa.glo "NoDeed").ok K
abbrev f_60 : PySem.W.Frag → Bool := fun K => ([(3, false), (4, false), (5, false), (6, false), (7, false), (8, false), (9, false), (50, false), (10, false), (11, false), (12, false), (51, false), (13, false), (14, false), (16, false), (17, false), (18, false), (52, false), (53, false), (54, false), (19, false), (1, false), (2, false), (15, false), (20, false), (21, false), (22, true)] : List (Nat × Bool)).all fun e => decide (PySem.W.kitOne K (.ref (caK cn K e.1)) (.ref (caK cn K 22)) = some e.2)
abbrev f_61 : PySem.W.Frag → Bool := fun K => (He.Fa.glo "NoBudget").ok K
abbrev f_62 : PySem.W.Frag → Bool := fun K => ([(3, true), (4, true), (5, true), (6, true), (7, true), (8, true), (9, true), (50, true), (10, true), (11, true), (12, true), (51, true), (13, true), (14, true), (16, true), (17, true), (18, true), (52, true), (53, true), (54, true), (19, true), (1, true), (2, true), (15, true), (20, true), (21, true), (22, true)] : List (Nat × Bool)).all fun e => decide (PySem.W.kitOne K (.ref (caK cn K e.1)) (.ref (caK cn K 1)) = some e.2)
abbrev f_63 : PySem.W.Frag → Bool := fun K => (He.Fa.glo "MoneyError").ok K
abbrev f_64 : PySem.W.Frag → Bool := fun K => (He.Fa.glo "_law_signs").ok K
abbrev f_65 : PySem.W.Frag → Bool := fun K => oexB K (caK cn K 3)
abbrev f_66 : PySem.W.Frag → Bool := fun K => He.eqO (PySem.W.findIn K (.ref (caK cn K 3)) "__init__") (some (some (.ref (ma K (ga K "BadAmount") "__init__")))) && decide (PySem.W.typeIn K (.ref (ma K (ga K "BadAmount") "__init__")) = some (.type "function"))
abbrev f_67 : PySem.W.Frag → Bool := fun K => He.eqO (PySem.W.findIn K (.ref (caK cn K 3)) "part") (some none)
abbrev f_68 : PySem.W.Frag → Bool := fun K => oexB K (caK cn K 6)
abbrev f_69 : PySem.W.Frag → Bool := fun K => He.eqO (PySem.W.findIn K (.ref (caK cn K 6)) "__init__") (some (some (.ref (ma K (ga K "BadLimit") "__init__")))) && decide (PySem.W.typeIn K (.ref (ma K (ga K "BadLimit") "__init__")) = some (.type "function"))
abbrev f_70 : PySem.W.Frag → Bool := fun K => He.eqO (PySem.W.findIn K (.ref (caK cn K 6)) "part") (some none)
abbrev f_71 : PySem.W.Frag → Bool := fun K => oexB K (caK cn K 7)
abbrev f_72 : PySem.W.Frag → Bool := fun K => He.eqO (PySem.W.findIn K (.ref (caK cn K 7)) "__init__") (some (some (.ref (ma K (ga K "BadBook") "__init__")))) && decide (PySem.W.typeIn K (.ref (ma K (ga K "BadBook") "__init__")) = some (.type "function"))
abbrev f_73 : PySem.W.Frag → Bool := fun K => He.eqO (PySem.W.findIn K (.ref (caK cn K 7)) "part") (some none)
abbrev f_74 : PySem.W.Frag → Bool := fun K => oexB K (caK cn K 9)
abbrev f_75 : PySem.W.Frag → Bool := fun K => He.eqO (PySem.W.findIn K (.ref (caK cn K 9)) "__init__") (some (some (.ref (ma K (ga K "BadMove") "__init__")))) && decide (PySem.W.typeIn K (.ref (ma K (ga K "BadMove") "__init__")) = some (.type "function"))
abbrev f_76 : PySem.W.Frag → Bool := fun K => He.eqO (PySem.W.findIn K (.ref (caK cn K 9)) "part") (some none)
abbrev f_77 : PySem.W.Frag → Bool := fun K => oexB K (caK cn K 12)
abbrev f_78 : PySem.W.Frag → Bool := fun K => He.eqO (PySem.W.findIn K (.ref (caK cn K 12)) "__init__") (some (some (.ref (ma K (ga K "BadRun") "__init__")))) && decide (PySem.W.typeIn K (.ref (ma K (ga K "BadRun") "__init__")) = some (.type "function"))
abbrev f_79 : PySem.W.Frag → Bool := fun K => He.eqO (PySem.W.findIn K (.ref (caK cn K 12)) "part") (some none)
abbrev f_80 : PySem.W.Frag → Bool := fun K => excCB K (caK cn K 3)
abbrev f_81 : PySem.W.Frag → Bool := fun K => excCB K (caK cn K 6)
abbrev f_82 : PySem.W.Frag → Bool := fun K => excCB K (caK cn K 7)
abbrev f_83 : PySem.W.Frag → Bool := fun K => excCB K (caK cn K 9)
abbrev f_84 : PySem.W.Frag → Bool := fun K => excCB K (caK cn K 12)
abbrev f_85 : PySem.W.Frag → Bool := fun K => oexB K (caK cn K 4)
abbrev f_86 : PySem.W.Frag → Bool := fun K => He.eqO (PySem.W.findIn K (.ref (caK cn K 4)) "__init__") (some (some (.ref (ma K (ga K "BadName") "__init__")))) && decide (PySem.W.typeIn K (.ref (ma K (ga K "BadName") "__init__")) = some (.type "function"))
abbrev f_87 : PySem.W.Frag → Bool := fun K => He.eqO (PySem.W.findIn K (.ref (caK cn K 4)) "value") (some none)
abbrev f_88 : PySem.W.Frag → Bool := fun K => oexB K (caK cn K 5)
abbrev f_89 : PySem.W.Frag → Bool := fun K => He.eqO (PySem.W.findIn K (.ref (caK cn K 5)) "__init__") (some (some (.ref (ma K (ga K "BadCount") "__init__")))) && decide (PySem.W.typeIn K (.ref (ma K (ga K "BadCount") "__init__")) = some (.type "function"))
abbrev f_90 : PySem.W.Frag → Bool := fun K => He.eqO (PySem.W.findIn K (.ref (caK cn K 5)) "value") (some none)
abbrev f_91 : PySem.W.Frag → Bool := fun K => oexB K (caK cn K 8)
abbrev f_92 : PySem.W.Frag → Bool := fun K => He.eqO (PySem.W.findIn K (.ref (caK cn K 8)) "__init__") (some (some (.ref (ma K (ga K "BadFirsts") "__init__")))) && decide (PySem.W.typeIn K (.ref (ma K (ga K "BadFirsts") "__init__")) = some (.type "function"))
abbrev f_93 : PySem.W.Frag → Bool := fun K => He.eqO (PySem.W.findIn K (.ref (caK cn K 8)) "line") (some none)
abbrev f_94 : PySem.W.Frag → Bool := fun K => excCB K (caK cn K 4)
abbrev f_95 : PySem.W.Frag → Bool := fun K => excCB K (caK cn K 5)
abbrev f_96 : PySem.W.Frag → Bool := fun K => excCB K (caK cn K 8)
abbrev f_97 : PySem.W.Frag → Bool := fun K => excCB K (caK cn K 10)
abbrev f_98 : PySem.W.Frag → Bool := fun K => He.eqO (PySem.W.findIn K (.ref (caK cn K 10)) "line") (some none)
abbrev f_99 : PySem.W.Frag → Bool := fun K => excCB K (caK cn K 13)
abbrev f_100 : PySem.W.Frag → Bool := fun K => He.eqO (PySem.W.findIn K (.ref (caK cn K 13)) "line") (some none)
abbrev f_101 : PySem.W.Frag → Bool := fun K => excCB K (caK cn K 16)
abbrev f_102 : PySem.W.Frag → Bool := fun K => He.eqO (PySem.W.findIn K (.ref (caK cn K 16)) "line") (some none)
abbrev f_103 : PySem.W.Frag → Bool := fun K => oexB K (caK cn K 50)
abbrev f_104 : PySem.W.Frag → Bool := fun K => He.eqO (PySem.W.findIn K (.ref (caK cn K 50)) "__init__") (some (some (.ref (ma K (ga K "BadTotals") "__init__")))) && decide (PySem.W.typeIn K (.ref (ma K (ga K "BadTotals") "__init__")) = some (.type "function"))
abbrev f_105 : PySem.W.Frag → Bool := fun K => He.eqO (PySem.W.findIn K (.ref (caK cn K 50)) "pair") (some none)
abbrev f_106 : PySem.W.Frag → Bool := fun K => oexB K (caK cn K 10)
abbrev f_107 : PySem.W.Frag → Bool := fun K => He.eqO (PySem.W.findIn K (.ref (caK cn K 10)) "__init__") (some (some (.ref (ma K (ga K "BadEnds") "__init__")))) && decide (PySem.W.typeIn K (.ref (ma K (ga K "BadEnds") "__init__")) = some (.type "function"))
abbrev f_108 : PySem.W.Frag → Bool := fun K => oexB K (caK cn K 11)
abbrev f_109 : PySem.W.Frag → Bool := fun K => He.eqO (PySem.W.findIn K (.ref (caK cn K 11)) "__init__") (some (some (.ref (ma K (ga K "BadPrices") "__init__")))) && decide (PySem.W.typeIn K (.ref (ma K (ga K "BadPrices") "__init__")) = some (.type "function"))
abbrev f_110 : PySem.W.Frag → Bool := fun K => He.eqO (PySem.W.findIn K (.ref (caK cn K 11)) "key") (some none)
abbrev f_111 : PySem.W.Frag → Bool := fun K => excCB K (caK cn K 50)
abbrev f_112 : PySem.W.Frag → Bool := fun K => excCB K (caK cn K 11)
abbrev f_113 : PySem.W.Frag → Bool := fun K => oexB K (caK cn K 51)
abbrev f_114 : PySem.W.Frag → Bool := fun K => He.eqO (PySem.W.findIn K (.ref (caK cn K 51)) "__init__") (some (some (.ref (ma K (ga K "BadAsk") "__init__")))) && decide (PySem.W.typeIn K (.ref (ma K (ga K "BadAsk") "__init__")) = some (.type "function"))
abbrev f_115 : PySem.W.Frag → Bool := fun K => He.eqO (PySem.W.findIn K (.ref (caK cn K 51)) "at") (some none)
abbrev f_116 : PySem.W.Frag → Bool := fun K => oexB K (caK cn K 14)
abbrev f_117 : PySem.W.Frag → Bool := fun K => He.eqO (PySem.W.findIn K (.ref (caK cn K 14)) "__init__") (some (some (.ref (ma K (ga K "BadLine") "__init__")))) && decide (PySem.W.typeIn K (.ref (ma K (ga K "BadLine") "__init__")) = some (.type "function"))
abbrev f_118 : PySem.W.Frag → Bool := fun K => He.eqO (PySem.W.findIn K (.ref (caK cn K 14)) "word") (some none)
abbrev f_119 : PySem.W.Frag → Bool := fun K => excCB K (caK cn K 51)
abbrev f_120 : PySem.W.Frag → Bool := fun K => He.eqO (PySem.W.findIn K (.ref (caK cn K 13)) "word") (some none)
abbrev f_121 : PySem.W.Frag → Bool := fun K => excCB K (caK cn K 14)
abbrev f_122 : PySem.W.Frag → Bool := fun K => oexB K (caK cn K 16)
abbrev f_123 : PySem.W.Frag → Bool := fun K => He.eqO (PySem.W.findIn K (.ref (caK cn K 16)) "__init__") (some (some (.ref (ma K (ga K "NoLine") "__init__")))) && decide (PySem.W.typeIn K (.ref (ma K (ga K "NoLine") "__init__")) = some (.type "function"))
abbrev f_124 : PySem.W.Frag → Bool := fun K => oexB K (caK cn K 18)
abbrev f_125 : PySem.W.Frag → Bool := fun K => He.eqO (PySem.W.findIn K (.ref (caK cn K 18)) "__init__") (some (some (.ref (ma K (ga K "Over") "__init__")))) && decide (PySem.W.typeIn K (.ref (ma K (ga K "Over") "__init__")) = some (.type "function"))
abbrev f_126 : PySem.W.Frag → Bool := fun K => He.eqO (PySem.W.findIn K (.ref (caK cn K 18)) "limit") (some none)
abbrev f_127 : PySem.W.Frag → Bool := fun K => oexB K (caK cn K 52)
abbrev f_128 : PySem.W.Frag → Bool := fun K => He.eqO (PySem.W.findIn K (.ref (caK cn K 52)) "__init__") (some (some (.ref (ma K (ga K "Unfed") "__init__")))) && decide (PySem.W.typeIn K (.ref (ma K (ga K "Unfed") "__init__")) = some (.type "function"))
abbrev f_129 : PySem.W.Frag → Bool := fun K => He.eqO (PySem.W.findIn K (.ref (caK cn K 52)) "lines") (some none)
abbrev f_130 : PySem.W.Frag → Bool := fun K => excCB K (caK cn K 18)
abbrev f_131 : PySem.W.Frag → Bool := fun K => excCB K (caK cn K 52)
abbrev f_132 : PySem.W.Frag → Bool := fun K => excCB K (caK cn K 53)
abbrev f_133 : PySem.W.Frag → Bool := fun K => He.eqO (PySem.W.findIn K (.ref (caK cn K 53)) "lines") (some none)
abbrev f_134 : PySem.W.Frag → Bool := fun K => oexB K (caK cn K 53)
abbrev f_135 : PySem.W.Frag → Bool := fun K => He.eqO (PySem.W.findIn K (.ref (caK cn K 53)) "__init__") (some (some (.ref (ma K (ga K "Shut") "__init__")))) && decide (PySem.W.typeIn K (.ref (ma K (ga K "Shut") "__init__")) = some (.type "function"))
abbrev f_136 : PySem.W.Frag → Bool := fun K => oexB K (caK cn K 54)
abbrev f_137 : PySem.W.Frag → Bool := fun K => He.eqO (PySem.W.findIn K (.ref (caK cn K 54)) "__init__") (some (some (.ref (ma K (ga K "Known") "__init__")))) && decide (PySem.W.typeIn K (.ref (ma K (ga K "Known") "__init__")) = some (.type "function"))
abbrev f_138 : PySem.W.Frag → Bool := fun K => He.eqO (PySem.W.findIn K (.ref (caK cn K 54)) "name") (some none)
abbrev f_139 : PySem.W.Frag → Bool := fun K => excCB K (caK cn K 54)
abbrev f_140 : PySem.W.Frag → Bool := fun K => (He.Fa.free "repr").ok K
abbrev f_141 : PySem.W.Frag → Bool := fun K => oexB K (caK cn K 13)
abbrev f_142 : PySem.W.Frag → Bool := fun K => He.eqO (PySem.W.findIn K (.ref (caK cn K 13)) "__init__") (some (some (.ref (ma K (ga K "BadText") "__init__")))) && decide (PySem.W.typeIn K (.ref (ma K (ga K "BadText") "__init__")) = some (.type "function"))
abbrev f_143 : PySem.W.Frag → Bool := fun K => (He.Fa.glo "_law_kinds").ok K
abbrev f_144 : PySem.W.Frag → Bool := fun K => oexB K (caK cn K 17)
abbrev f_145 : PySem.W.Frag → Bool := fun K => He.eqO (PySem.W.findIn K (.ref (caK cn K 17)) "__init__") (some (some (.ref (ma K (ga K "NoPair") "__init__")))) && decide (PySem.W.typeIn K (.ref (ma K (ga K "NoPair") "__init__")) = some (.type "function"))
abbrev f_146 : PySem.W.Frag → Bool := fun K => He.eqO (PySem.W.findIn K (.ref (caK cn K 17)) "giver") (some none)
abbrev f_147 : PySem.W.Frag → Bool := fun K => He.eqO (PySem.W.findIn K (.ref (caK cn K 17)) "taker") (some none)
abbrev f_148 : PySem.W.Frag → Bool := fun K => excCB K (caK cn K 17)
abbrev f_149 : PySem.W.Frag → Bool := fun K => oexB K (caK cn K 19)
abbrev f_150 : PySem.W.Frag → Bool := fun K => He.eqO (PySem.W.findIn K (.ref (caK cn K 19)) "__init__") (some (some (.ref (ma K (ga K "TooMany") "__init__")))) && decide (PySem.W.typeIn K (.ref (ma K (ga K "TooMany") "__init__")) = some (.type "function"))
abbrev f_151 : PySem.W.Frag → Bool := fun K => He.eqO (PySem.W.findIn K (.ref (caK cn K 19)) "what") (some none)
abbrev f_152 : PySem.W.Frag → Bool := fun K => He.eqO (PySem.W.findIn K (.ref (caK cn K 19)) "most") (some none)
abbrev f_153 : PySem.W.Frag → Bool := fun K => excCB K (caK cn K 19)
abbrev f_154 : PySem.W.Frag → Bool := fun K => (He.Fa.glo "_law_pen").ok K
abbrev f_155 : PySem.W.Frag → Bool := fun K => (He.Fa.free "range").ok K
abbrev f_156 : PySem.W.Frag → Bool := fun K => (He.Fa.glo "_law_value").ok K
abbrev f_157 : PySem.W.Frag → Bool := fun K => (He.Fa.glo "_law_inputs").ok K
abbrev f_158 : PySem.W.Frag → Bool := fun K => (He.Fa.glo "_law_others").ok K
abbrev f_159 : PySem.W.Frag → Bool := fun K => (He.Fa.glo "_law_pairs_right").ok K
abbrev f_160 : PySem.W.Frag → Bool := fun K => (He.Fa.glo "_law_named_right").ok K
abbrev f_161 : PySem.W.Frag → Bool := fun K => ro0B K (caK cn K 21)
abbrev f_162 : PySem.W.Frag → Bool := fun K => ro0B K (caK cn K 22)
abbrev f_163 : PySem.W.Frag → Bool := fun K => ro0B K (caK cn K 1)
abbrev f_164 : PySem.W.Frag → Bool := fun K => ro0B K (caK cn K 2)
abbrev f_165 : PySem.W.Frag → Bool := fun K => ro0B K (caK cn K 15)
abbrev f_166 : PySem.W.Frag → Bool := fun K => ro0B K (caK cn K 20)
abbrev f_167 : PySem.W.Frag → Bool := fun K => ([(3, true), (4, true), (5, true), (6, true), (7, true), (8, true), (9, true), (50, true), (10, true), (11, true), (12, true), (51, true), (13, true), (14, true), (16, true), (17, true), (18, true), (52, true), (53, true), (54, true), (19, true), (1, true), (2, true), (15, true), (20, true), (21, true), (22, true)] : List (Nat × Bool)).all fun e => decide (PySem.W.kitOne K (.ref (caK cn K e.1)) (.type "ValueError") = some e.2)
abbrev f_168 : PySem.W.Frag → Bool := fun K => (He.Fa.free "ValueError").ok K
abbrev f_169 : PySem.W.Frag → Bool := fun K => (He.Fa.glo "law").ok K
def mf : List (PySem.W.Frag → Bool) := [f_0, f_1, f_2, f_3, f_4, f_5, f_6, f_7, f_8, f_9, f_10, f_11, f_12, f_13, f_14, f_15, f_16, f_17, f_18, f_19, f_20, f_21, f_22, f_23, f_24, f_25, f_26, f_27, f_28, f_29, f_30, f_31, f_32, f_33, f_34, f_35, f_36, f_37, f_38, f_39, f_40, f_41, f_42, f_43, f_44, f_45, f_46, f_47, f_48, f_49, f_50, f_51, f_52, f_53, f_54, f_55, f_56, f_57, f_58, f_59, f_60, f_61, f_62, f_63, f_64, f_65, f_66, f_67, f_68, f_69, f_70, f_71, f_72, f_73, f_74, f_75, f_76, f_77, f_78, f_79, f_80, f_81, f_82, f_83, f_84, f_85, f_86, f_87, f_88, f_89, f_90, f_91, f_92, f_93, f_94, f_95, f_96, f_97, f_98, f_99, f_100, f_101, f_102, f_103, f_104, f_105, f_106, f_107, f_108, f_109, f_110, f_111, f_112, f_113, f_114, f_115, f_116, f_117, f_118, f_119, f_120, f_121, f_122, f_123, f_124, f_125, f_126, f_127, f_128, f_129, f_130, f_131, f_132, f_133, f_134, f_135, f_136, f_137, f_138, f_139, f_140, f_141, f_142, f_143, f_144, f_145, f_146, f_147, f_148, f_149, f_150, f_151, f_152, f_153, f_154, f_155, f_156, f_157, f_158, f_159, f_160, f_161, f_162, f_163, f_164, f_165, f_166, f_167, f_168, f_169]
end Mv.K01
end
section
set_option Elab.async false
set_option linter.all false
set_option maxRecDepth 100000
set_option maxHeartbeats 0
namespace Mv.K01
open PySem PySem.Spec L2 PyProof.Rows
abbrev R : PySem.W.OpenRow := PySem.W.OpenLaw.row PySem.Challenge.rw_movedsums_k01_errors_and_their_fields
abbrev hk : PySem.W.Hook := hookMQ 5 mf fn
def ob (s : PySem.W.SharedT) : He.AlD := obsMQ 5 mf fn (HandSHeadRun.getT s)
theorem ob_eq (s : PySem.W.SharedT) : ob s = hk.obs s.abs := obsMQ_eq (HandSHeadRun.getT_eq s)
def loose : List PySem.Str := (["MoneyError", "BadInput", "BadAmount", "BadName", "BadCount", "BadLimit", "BadBook", "BadFirsts", "BadMove", "BadTotals", "BadEnds", "BadPrices", "BadRun", "BadAsk", "BadText", "BadLine", "Refused", "NoLine", "NoPair", "Over", "Unfed", "Shut", "Known", "TooMany", "NoAnswer", "NoDeed", "NoBudget", "_law_pen", "_law_draw", "_law_pick"] : List PySem.Str) ++ (["_law_value", "_law_signs", "_law_kinds", "_law_inputs", "_law_others", "_law_named_right", "_law_pairs_right"] : List PySem.Str)
theorem run (w : World) : HandSHeadRun.RunEq R (PySem.W.view R.prog [39]) hk ob 30000 loose w := by
  intro os
  kernel_rfl
end Mv.K01
end
section
set_option Elab.async false
set_option linter.all false
set_option maxRecDepth 100000
set_option maxHeartbeats 4000000
namespace Mv
open PySem PySem.Spec L2
open Evl (Ex ex_l ex_t ex_rd)
section
variable (S : Sy) (F : Hp)
end
section
variable {S : Sy} {F F' : Hp}
theorem Rps.get : ∀ {vs : List V} {ds : List D} {i : Nat} {d : D}, Rps S F vs ds → ds[i]? = some d → ∃ v, vs[i]? = some v ∧ Rp S F v d
  | _, _, _, _, .nil, e => by simp at e
  | _, _, 0, _, .cons r _, e => by simp at e; subst e; exact ⟨_, rfl, r⟩
  | _, _, i + 1, _, .cons _ t, e => by
    obtain ⟨v, h1, h2⟩ := Rps.get (i := i) t (by simpa using e)
    exact ⟨v, by simpa using h1, h2⟩
theorem Rpf.look {i : Nat} : ∀ {vs : List (Str × V)} {fs : List (Nat × D)} {d : D}, Rpf S F vs fs → fs.lookup i = some d → ∃ v, vs.lookup (S.t.nm i) = some v ∧ Rp S F v d
  | _, _, _, .nil, e => by cases e
  | _, _, d, .cons (k := k) (vs := vs) (ds := ds) r t, e => by
    by_cases h : i = k
    · subst h
      simp [List.lookup] at e
      subst e
      exact ⟨_, by simp [List.lookup], r⟩
    · have h1 : (i == k) = false := by simpa using h
      have h2 : (S.t.nm i == S.t.nm k) = false := by
        simp only [beq_eq_false_iff_ne]
        exact fun q => h (S.t.inj _ _ q)
      simp only [List.lookup, h1] at e
      obtain ⟨v, e1, e2⟩ := Rpf.look t e
      exact ⟨v, by simp only [List.lookup, h2]; exact e1, e2⟩
end
theorem put_put {W : Wd} {a : Addr} {m n : M} : put (put W a m) a n = put W a n := by
  funext b; unfold put; split <;> rfl
theorem cut_put {W : Wd} {a : Addr} {m : M} (h : W a = none) : cut (put W a m) a = W := by
  funext b; unfold cut put
  by_cases e : b = a
  · rw [if_pos e, e, h]
  · rw [if_neg e, if_neg e]
theorem put_get {W : Wd} {a : Addr} {m : M} (h : W a = some m) : put W a m = W := by
  funext b; unfold put
  by_cases e : b = a
  · rw [if_pos e, e, h]
  · rw [if_neg e]
theorem upd_ext {H : Hp} {p : Addr} {o : HO} (h : H p = none) : ∀ b u, H b = some u → upd H p o b = some u := fun b u e => by
  rw [upd_ne (ne_of_none e h)]
  exact e
section
variable {S : Sy} {F F' : Hp} {W : Wd} {H : Hp}
theorem Rel.nw (r : Rel S F W H) {p : Addr} (h : H p = none) : W p = none := by
  cases e : W p with
  | none => rfl
  | some m =>
    obtain ⟨_, q⟩ := r.obj p m e
    rw [h] at q
    cases m with
    | lst ds => obtain ⟨vs, a, b⟩ := q; cases a
    | dK ds => obtain ⟨vs, a, b⟩ := q; cases a
    | dT ds => obtain ⟨vs, a, b⟩ := q; cases a
    | ins c fs => obtain ⟨dx, vs, a, b⟩ := q; cases a
    | lkK od vs ds => obtain ⟨a, b⟩ := q; cases a
    | lkT od vs ds => obtain ⟨a, b⟩ := q; cases a
theorem Rel.nf (r : Rel S F W H) {p : Addr} (h : H p = none) : F p = none := Evl.fresh_back r.sub h
theorem Rel.newF (r : Rel S F W H) {p : Addr} {o : HO} (h : H p = none) (hn : ∀ ps, o ≠ .tbl ps := by intro _ z; cases z) : Rel S (upd F p o) W (upd H p o) := by
  have hf := r.nf h
  refine ⟨fun b u e => ?_, fun a m e => ?_, r.tab.ext (upd_ext h), nt_upd r.nt hn⟩
  · by_cases q : b = p
    · subst q; rw [upd_same] at e ⊢; exact e
    · rw [upd_ne q] at e ⊢; exact r.sub b u e
  · obtain ⟨f, mo⟩ := r.obj a m e
    have q : a ≠ p := fun z => by
      rw [z, r.nw h] at e
      cases e
    rw [upd_ne q, upd_ne q]
    exact ⟨f, mo.mono (Ex.new hf)⟩
theorem Rel.newW (r : Rel S F W H) {p : Addr} {o : HO} {m : M} (h : H p = none) (mo : MO S F (some o) m) : Rel S F (put W p m) (upd H p o) := by
  have hf := r.nf h
  refine ⟨fun b u e => ?_, fun a n e => ?_, r.tab.ext (upd_ext h), r.nt⟩
  · rw [upd_ne (ne_of_none e hf)]
    exact r.sub b u e
  · by_cases q : a = p
    · subst q
      rw [put_same] at e
      cases e
      rw [upd_same]
      exact ⟨hf, mo⟩
    · rw [put_ne q] at e
      rw [upd_ne q]
      exact r.obj a n e
end
def M.dm : M → Bool
  | .dK .. => true
  | .dT .. => true
  | _ => false
section
variable {S : Sy} {F F' : Hp} {W : Wd} {H : Hp}
theorem Rel.lockD (r : Rel S F W H) {p : Addr} {m : M} (h : W p = some m) (hm : m.dm = true := by rfl) : ∃ u, H p = some u ∧ Mut (some u) ∧ ∀ od, ∃ F', Ex F F' ∧ Rel S F' (cut W p) (upd H p (.frz od u)) ∧ Rp S F' (.ref p) m.d := by
  obtain ⟨hf, mo⟩ := r.obj p m h
  obtain ⟨o0, ho0, n1, n2⟩ := mo.at_
  have key : ∀ od, Rel S (upd F p (.frz od o0)) (cut W p) (upd H p (.frz od o0)) := fun od => by
    refine ⟨fun b u e => ?_, fun a n e => ?_, tabs_upd r.tab ho0 n1 n2, nt_upd r.nt (fun _ z => by cases z)⟩
    · by_cases q : b = p
      · subst q; rw [upd_same] at e ⊢; exact e
      · rw [upd_ne q] at e ⊢; exact r.sub b u e
    · have q : a ≠ p := fun z => by
        rw [z] at e
        have e' : (if p = p then none else W p) = some n := e
        rw [if_pos rfl] at e'
        cases e'
      have e' : W a = some n := by
        have e2 : (if a = p then none else W a) = some n := e
        rw [if_neg q] at e2
        exact e2
      obtain ⟨f, mo⟩ := r.obj a n e'
      rw [upd_ne q, upd_ne q]
      exact ⟨f, mo.mono (Ex.new hf)⟩
  cases m with
  | dK ds =>
    obtain ⟨vs, a, b⟩ := mo
    obtain rfl : o0 = .dK vs := Option.some.inj (ho0.symm.trans a)
    exact ⟨_, a, trivial, fun od => ⟨_, Ex.new hf, key od, .dK upd_same (b.mono (Ex.new hf))⟩⟩
  | dT ds =>
    obtain ⟨vs, a, b⟩ := mo
    obtain rfl : o0 = .dT vs := Option.some.inj (ho0.symm.trans a)
    exact ⟨_, a, trivial, fun od => ⟨_, Ex.new hf, key od, .dT upd_same (b.mono (Ex.new hf))⟩⟩
  | _ => cases hm
end
def tLkF (t : TE) : TE := fun σ H Q => t σ H fun v H' => ∃ d u, v = V.ref d ∧ H' d = some u ∧ Mut (some u) ∧ ∀ od, Q v (upd H' d (.frz od u))
theorem pe_lkF {X : Cx} {e : Expr} {t : TE} (h : PE X e t) : PE X e (tLkF t) := by
  refine ⟨fun pins s σ H Q I hw => ?_⟩
  refine thn (h.run pins s σ H _ I hw) fun v s1 ⟨x, H1, I2, r, d, u, ev, hd, mu, q⟩ => ?_
  obtain ⟨od, I3⟩ := I2.lock hd mu
  exact ⟨x, _, I3, r, q od⟩
section
variable {S : Sy} {F F' : Hp} {σ : St} {sd : SD}
theorem SRel.mono (e : Ex F F') (r : SRel S F σ sd) : SRel S F' σ sd := ⟨r.len, fun i d h => let ⟨v, a, b⟩ := r.at_ i d h; ⟨v, a, b.mono e⟩⟩
end
def TCv (S : Sy) (F : Hp) (Q2 : Bool → Wd → Prop) (Q : Bool → Hp → Prop) : Prop := ∀ F' b W' H', Ex F F' → Rel S F' W' H' → Q2 b W' → Q b H'
def ACv (S : Sy) (F : Hp) (Q2 : List D → Wd → Prop) (Q : List V → Hp → Prop) : Prop := ∀ F' vs ds W' H', Ex F F' → Rel S F' W' H' → Rps S F' vs ds → Q2 ds W' → Q vs H'
section
variable {S : Sy} {F F' : Hp} (e : Ex F F')
include e
theorem XCv.mono {E2 : QX} {E : XS} (h : XCv S F E2 E) : XCv S F' E2 E := fun F2 dx vs c fs σ' sd' W' H' a => h F2 dx vs c fs σ' sd' W' H' (e.trans a)
theorem QCv.mono {Q2 : QD} {Q : VK} (h : QCv S F Q2 Q) : QCv S F' Q2 Q := fun F2 v d W' H' a => h F2 v d W' H' (e.trans a)
theorem TCv.mono {Q2 : Bool → Wd → Prop} {Q : Bool → Hp → Prop} (h : TCv S F Q2 Q) : TCv S F' Q2 Q := fun F2 b W' H' a => h F2 b W' H' (e.trans a)
theorem ACv.mono {Q2 : List D → Wd → Prop} {Q : List V → Hp → Prop} (h : ACv S F Q2 Q) : ACv S F' Q2 Q := fun F2 v d W' H' a => h F2 v d W' H' (e.trans a)
theorem SCv.mono {Q2 : SD → Wd → Prop} {Q : St → Hp → Prop} (h : SCv S F Q2 Q) : SCv S F' Q2 Q := fun F2 σ' sd' W' H' a => h F2 σ' sd' W' H' (e.trans a)
theorem ECv.mono {D2 : DEnds} {D1 : Ends} (h : ECv S F D2 D1) : ECv S F' D2 D1 := ⟨SCv.mono e h.nx, QCv.mono e h.rt, SCv.mono e h.bk, SCv.mono e h.ct⟩
end
section
variable (S : Sy) (E : XS)
def upE (t : DE) : TE := fun σ H Q => ∃ F sd W Q2 E2, Rel S F W H ∧ SRel S F σ sd ∧ QCv S F Q2 Q ∧ XCv S F E2 E ∧ t sd W Q2 E2
def upT (t : DT) : TT := fun σ H Q => ∃ F sd W Q2 E2, Rel S F W H ∧ SRel S F σ sd ∧ TCv S F Q2 Q ∧ XCv S F E2 E ∧ t sd W Q2 E2
def upA (t : DA) : TA := fun σ H Q => ∃ F sd W Q2 E2, Rel S F W H ∧ SRel S F σ sd ∧ ACv S F Q2 Q ∧ XCv S F E2 E ∧ t sd W Q2 E2
end
end Mv
end
section
set_option Elab.async false
set_option linter.all false
set_option maxRecDepth 100000
set_option maxHeartbeats 4000000
namespace Mv
open PySem PySem.Spec L2
open Evl (Ex ex_l ex_t ex_rd)
section
variable (X : Cx) (S : Sy) (E : XS)
def TPd (pins : List (Addr × Obj)) (σ : L2.St) (F : Hp) (Q2 : Bool → Wd → Prop) (b : Bool) (s' : Shared) : Prop :=
  ∃ H' F' W', Inv X pins σ H' s' ∧ Ex F F' ∧ Rel S F' W' H' ∧ Q2 b W'
def APd (pins : List (Addr × Obj)) (σ : L2.St) (F : Hp) (Q2 : List D → Wd → Prop) (us : List Value) (s' : Shared) : Prop :=
  ∃ vs H' F' ds W', Inv X pins σ H' s' ∧ Vals vs us ∧ Ex F F' ∧ Rel S F' W' H' ∧ Rps S F' vs ds ∧ Q2 ds W'
structure PD (e : Expr) (t : DE) : Prop where
  run : ∀ (pins : List (Addr × Obj)) (s : Shared) (σ : L2.St) (H F : Hp) (sd : SD) (W : Wd) (Q2 : QD) (E2 : QX), Inv X pins σ H s → Rel S F W H → SRel S F σ sd → XCv S F E2 E → t sd W Q2 E2 →
    wpAny (model X.prog X.w) X.A (eval e X.env) (DP X S pins σ F Q2) X.xe s
structure PTd (e : Expr) (t : DT) : Prop where
  run : ∀ (pins : List (Addr × Obj)) (s : Shared) (σ : L2.St) (H F : Hp) (sd : SD) (W : Wd) (Q2 : Bool → Wd → Prop) (E2 : QX), Inv X pins σ H s → Rel S F W H → SRel S F σ sd → XCv S F E2 E → t sd W Q2 E2 →
    wpAny (model X.prog X.w) X.A (isTrue e X.env (eval e X.env)) (TPd X S pins σ F Q2) X.xe s
structure PWd (e : Expr) (t : DT) : Prop where
  run : ∀ (whole : Sem Value) (pins : List (Addr × Obj)) (s : Shared) (σ : L2.St) (H F : Hp) (sd : SD) (W : Wd) (Q2 : Bool → Wd → Prop) (E2 : QX), Inv X pins σ H s → Rel S F W H → SRel S F σ sd → XCv S F E2 E → t sd W Q2 E2 →
    wpAny (model X.prog X.w) X.A (isTrue e X.env whole) (TPd X S pins σ F Q2) X.xe s
structure PAd (es : List Expr) (t : DA) : Prop where
  run : ∀ (pos : Pos) (pins : List (Addr × Obj)) (s : Shared) (σ : L2.St) (H F : Hp) (sd : SD) (W : Wd) (Q2 : List D → Wd → Prop) (E2 : QX), Inv X pins σ H s → Rel S F W H → SRel S F σ sd → XCv S F E2 E → t sd W Q2 E2 →
    wpAny (model X.prog X.w) X.A (spliced (backTo pos (starEach es X.env))) (APd X S pins σ F Q2) X.xe s
structure PBd (st : List Stmt) (t : DS) : Prop where
  run : ∀ (pins : List (Addr × Obj)) (s : Shared) (σ : L2.St) (H F : Hp) (sd : SD) (W : Wd) (D2 : DEnds) (E2 : QX), Inv X pins σ H s → Rel S F W H → SRel S F σ sd → XCv S F E2 E → t D2 sd W E2 →
    wpAny (model X.prog X.w) X.A (execs st X.env) (SPd X S pins F D2) X.xe s
end
section
variable {X : Cx} {S : Sy} {E : XS}
theorem SPd.mono {pins : List (Addr × Obj)} {F F' : Hp} (e : Ex F F') {D2 : DEnds} {f : Flow} {s' : Shared} (h : SPd X S pins F' D2 f s') : SPd X S pins F D2 f s' := by
  cases f with
  | next => obtain ⟨σ', H', F2, sd, W, a, b, c⟩ := h; exact ⟨σ', H', F2, sd, W, a, e.trans b, c⟩
  | brk => obtain ⟨σ', H', F2, sd, W, a, b, c⟩ := h; exact ⟨σ', H', F2, sd, W, a, e.trans b, c⟩
  | cont => obtain ⟨σ', H', F2, sd, W, a, b, c⟩ := h; exact ⟨σ', H', F2, sd, W, a, e.trans b, c⟩
  | ret u => obtain ⟨v, σ', H', F2, d, W, a, r, b, c⟩ := h; exact ⟨v, σ', H', F2, d, W, a, r, e.trans b, c⟩
theorem PD.pe {e : Expr} {t : DE} (h : PD X S E e t) : PE X e (upE S E t) := ⟨fun pins s σ H Q I q => by
  obtain ⟨F, sd, W, Q2, E2, r, sr, qc, xc, ht⟩ := q
  exact thn (h.run pins s σ H F sd W Q2 E2 I r sr xc ht) fun u s' z => z.ep qc⟩
theorem PTd.pt {e : Expr} {t : DT} (h : PTd X S E e t) : PT X e (upT S E t) := ⟨fun pins s σ H Q I q => by
  obtain ⟨F, sd, W, Q2, E2, r, sr, qc, xc, ht⟩ := q
  exact thn (h.run pins s σ H F sd W Q2 E2 I r sr xc ht) fun b s' ⟨H', F', W', a1, a2, a3, a4⟩ => ⟨H', a1, qc F' b W' H' a2 a3 a4⟩⟩
theorem PAd.pa {es : List Expr} {t : DA} (h : PAd X S E es t) : PA X es (upA S E t) := ⟨fun pos pins s σ H Q I q => by
  obtain ⟨F, sd, W, Q2, E2, r, sr, qc, xc, ht⟩ := q
  exact thn (h.run pos pins s σ H F sd W Q2 E2 I r sr xc ht) fun us s' ⟨vs, H', F', ds, W', a1, a2, a3, a4, a5, a6⟩ => ⟨vs, H', a1, a2, qc F' vs ds W' H' a3 a4 a5 a6⟩⟩
theorem PBd.pss {st : List Stmt} {t : DS} (h : PBd X S E st t) : PSs X st (upS S E t) := ⟨fun pins s σ H D1 I q => by
  obtain ⟨F, sd, W, D2, E2, r, sr, ec, xc, ht⟩ := q
  exact thn (h.run pins s σ H F sd W D2 E2 I r sr xc ht) fun f s' z => z.sp ec⟩
theorem tkQ_cv {F : Hp} {Q2 : QD} : QCv S F Q2 (tkQ S F Q2) := fun F' v d W' H' e r p q => ⟨F', d, W', e, r, p, q⟩
theorem tkQ_of {F F' : Hp} {Q2 : QD} {v : V} {d : D} {W : Wd} {H : Hp} (e : Ex F F') (r : Rel S F' W H) (p : Rp S F' v d) (q : Q2 d W) : tkQ S F Q2 v H := ⟨F', d, W, e, r, p, q⟩
theorem PE.pd {e : Expr} {te : TE} {t : DE} (h : PE X e te)
    (c : ∀ σ H F sd W Q2 E2, Rel S F W H → SRel S F σ sd → XCv S F E2 E → t sd W Q2 E2 → te σ H (tkQ S F Q2)) : PD X S E e t :=
  ⟨fun pins s σ H F sd W Q2 E2 I r sr xc ht => thn (h.run pins s σ H _ I (c σ H F sd W Q2 E2 r sr xc ht)) fun u s' z => EP.tk z⟩
theorem PS.pd {st : Stmt} {ts : TS} {t : DS} (h : PS X st ts)
    (c : ∀ σ H F sd W D2 E2, Rel S F W H → SRel S F σ sd → XCv S F E2 E → t D2 sd W E2 → ts (tkE S F D2) σ H) : PSd X S E st t :=
  ⟨fun pins s σ H F sd W D2 E2 I r sr xc ht => thn (h.run pins s σ H _ I (c σ H F sd W D2 E2 r sr xc ht)) fun u s' z => SP.tk z⟩
def dVar (i : Nat) : DE := fun sd W Q _ => ∃ d, sd[i]? = some (some d) ∧ Q d W
def dC (d : D) : DE := fun _ W Q _ => Q d W
theorem pd_var (i : Nat) {x : Str} {pos : Pos} (hN : X.N[i]? = some x := by rfl) (hv : Vis X.env.scope x := by first | exact Or.inl rfl | exact Or.inr (Or.inl rfl) | exact Or.inr (Or.inr rfl))
    (hd : (x == ("__debug__" : Str)) = false := by decide) (hcd : (x == ("__classdict__" : Str)) = false := by decide) : PD X S E (.Name x pos) (dVar i) :=
  PE.pd (pe_var hN hv hd hcd) fun σ H F sd W Q2 E2 r sr xc ⟨d, h, q⟩ => by
    obtain ⟨v, h1, h2⟩ := sr.at_ i d h
    exact ⟨v, h1, tkQ_of (Ex.refl _) r h2 q⟩
theorem pd_int {i j pos} : PD X S E (.Constant (.int i) j pos) (dC (.int i)) := PE.pd pe_int fun _ _ _ _ _ _ _ r _ _ q => tkQ_of (Ex.refl _) r (.int _) q
theorem pd_bl {b j pos} : PD X S E (.Constant (.bool b) j pos) (dC (.bl b)) := PE.pd pe_bl fun _ _ _ _ _ _ _ r _ _ q => tkQ_of (Ex.refl _) r (.bl _) q
theorem pd_non {j pos} : PD X S E (.Constant .none j pos) (dC .non) := PE.pd pe_non fun _ _ _ _ _ _ _ r _ _ q => tkQ_of (Ex.refl _) r .non q
theorem pd_str {x j pos} : PD X S E (.Constant (.str x) j pos) (dC (.str x)) := PE.pd pe_str fun _ _ _ _ _ _ _ r _ _ q => tkQ_of (Ex.refl _) r (.str _) q
theorem pd_glob {x : Str} {v : V} {u : Value} {d : D} {pos : Pos} (hg : Gl X x) (hm : X.mg x = some u) (r0 : RelV v u) (hd0 : ∀ F, Rp S F v d) (hd : (x == ("__debug__" : Str)) = false := by decide) : PD X S E (.Name x pos) (dC d) :=
  PE.pd (pe_glob hg hm r0 hd) fun _ _ _ _ _ _ _ r _ _ q => tkQ_of (Ex.refl _) r (hd0 _) q
theorem OpD.or {f : Value → Value → Sem Value} {r r' : D2} (h : OpD X S E f r) (h' : OpD X S E f r') : OpD X S E f (fun c d sd W Q E2 => r c d sd W Q E2 ∨ r' c d sd W Q E2) :=
  fun pins s σ H F sd W x y c d v u Q2 E2 a1 a2 a3 a4 a5 a6 a7 a8 q => q.elim (h pins s σ H F sd W x y c d v u Q2 E2 a1 a2 a3 a4 a5 a6 a7 a8) (h' pins s σ H F sd W x y c d v u Q2 E2 a1 a2 a3 a4 a5 a6 a7 a8)
theorem OpD.imp {f : Value → Value → Sem Value} {r r' : D2} (h : OpD X S E f r) (c : ∀ c d sd W Q E2, r' c d sd W Q E2 → r c d sd W Q E2) : OpD X S E f r' :=
  fun pins s σ H F sd W x y cc d v u Q2 E2 a1 a2 a3 a4 a5 a6 a7 a8 q => h pins s σ H F sd W x y cc d v u Q2 E2 a1 a2 a3 a4 a5 a6 a7 a8 (c _ _ _ _ _ _ q)
def dOp (r : D2) (ta tb : DE) : DE := fun sd W Q E2 => ta sd W (fun c W1 => tb sd W1 (fun d W2 => r c d sd W2 Q E2) E2) E2
theorem binD {a b : Expr} {ta tb : DE} (ha : PD X S E a ta) (hb : PD X S E b tb) {r : D2} {pins : List (Addr × Obj)} {s : Shared} {σ : L2.St} {H F : Hp} {sd : SD} {W : Wd} {Q2 : QD} {E2 : QX} (I : Inv X pins σ H s) (rl : Rel S F W H) (sr : SRel S F σ sd) (xc : XCv S F E2 E)
    (h : dOp r ta tb sd W Q2 E2) {P : Value → Shared → Prop} {f : Value → Value → Sem Value}
    (hf : ∀ v u s2 x y c d H2 F2 W2, Inv X pins σ H2 s2 → Ex F F2 → Rel S F2 W2 H2 → RelV x v → RelV y u → Rp S F2 x c → Rp S F2 y d → r c d sd W2 Q2 E2 → wpAny (model X.prog X.w) X.A (f v u) P X.xe s2) :
    wpAny (model X.prog X.w) X.A (eval a X.env) (fun v s₁ => wpAny (model X.prog X.w) X.A (eval b X.env) (fun u s₂ => wpAny (model X.prog X.w) X.A (f v u) P X.xe s₂) X.xe s₁) X.xe s := by
  refine thn (ha.run pins s σ H F sd W _ E2 I rl sr xc h) fun v s1 ⟨x, H1, F1, c, W1, I1, r1, e1, rl1, p1, q1⟩ => ?_
  refine thn (hb.run pins s1 σ H1 F1 sd W1 _ E2 I1 rl1 (sr.mono e1) (XCv.mono e1 xc) q1) fun u s2 ⟨y, H2, F2, d, W2, I2, r2, e2, rl2, p2, q2⟩ => ?_
  exact hf v u s2 x y c d H2 F2 W2 I2 (e1.trans e2) rl2 r1 r2 (p1.mono e2) p2 q2
theorem DP.back {pins : List (Addr × Obj)} {σ : L2.St} {F F' : Hp} (e : Ex F F') {Q2 : QD} {u : Value} {s' : Shared} (h : DP X S pins σ F' Q2 u s') : DP X S pins σ F Q2 u s' := by
  obtain ⟨v, H', F2, d, W', a1, a2, a3, a4⟩ := h
  exact ⟨v, H', F2, d, W', a1, a2, e.trans a3, a4⟩
theorem pd_op {a b : Expr} {ta tb : DE} {op : Operator} {r : D2} {pos : Pos} (ho : OpD X S E (binaryOp op) r) (ha : PD X S E a ta) (hb : PD X S E b tb) : PD X S E (.BinOp a op b pos) (dOp r ta tb) :=
  ⟨fun pins s σ H F sd W Q2 E2 I rl sr xc h => wpAny_BinOp (binD ha hb I rl sr xc h fun v u s2 x y c d H2 F2 W2 I2 e rl2 rx ry px py q =>
    thn (ho pins s2 σ H2 F2 sd W2 x y c d v u Q2 E2 I2 rl2 (sr.mono e) (XCv.mono e xc) rx ry px py q) fun u s' z => z.back e)⟩
theorem pd_cmp {a b : Expr} {ta tb : DE} {op : CmpOp} {r : D2} {pos : Pos} (ho : OpD X S E (compareOp op) r) (ha : PD X S E a ta) (hb : PD X S E b tb) (hm : behindInMarks op b = false) : PD X S E (.Compare a [op] [b] pos) (dOp r ta tb) :=
  ⟨fun pins s σ H F sd W Q2 E2 I rl sr xc h => wpAny_Compare1 (binD ha hb I rl sr xc h fun v u s2 x y c d H2 F2 W2 I2 e rl2 rx ry px py q =>
    thn (ho pins s2 σ H2 F2 sd W2 x y c d v u Q2 E2 I2 rl2 (sr.mono e) (XCv.mono e xc) rx ry px py q) fun u s' z => z.back e) hm⟩
end
end Mv
end
section
set_option Elab.async false
set_option linter.all false
set_option maxRecDepth 100000
set_option maxHeartbeats 4000000
namespace Mv
open PySem PySem.Spec L2
open Evl (Ex ex_l ex_t ex_rd)
section
variable {X : Cx} {S : Sy} {E : XS}
def kBl (d : D) (k : Bool → Prop) : Prop := match d with
  | .bl b => k b
  | _ => False
def kTru (W : Wd) (d : D) (k : Bool → Prop) : Prop := match d with
  | .non => k false
  | .bl b => k b
  | .int i => k (i != 0)
  | .str s => s.length ≤ sizeLine ∧ k ((s.length : Int) != 0)
  | .tup ds => k (!ds.isEmpty)
  | .lst ds => k (!ds.isEmpty)
  | .dK ds => k (!ds.isEmpty)
  | .ptr a => (match W a with
    | some (.lst ds) => k (!ds.isEmpty)
    | some (.dK ds) => k (!ds.isEmpty)
    | _ => False)
  | _ => False
theorem Rps.isEmpty {F : Hp} {vs : List V} {ds : List D} (r : Rps S F vs ds) : vs.isEmpty = ds.isEmpty := by cases r <;> rfl
theorem Rpk.isEmpty {F : Hp} {vs : List (Key × V)} {ds : List (Key × D)} (r : Rpk S F vs ds) : vs.isEmpty = ds.isEmpty := by cases r <;> rfl
theorem tru_d {pins : List (Addr × Obj)} {s : Shared} {σ : L2.St} {H F : Hp} {W : Wd} {v : V} {u : Value} {d : D} {Q2 : Bool → Wd → Prop} (hK : X.K = S.K) (I : Inv X pins σ H s) (rl : Rel S F W H) (ru : RelV v u) (rp : Rp S F v d) (h : kTru W d fun b => Q2 b W) :
    wpAny (model X.prog X.w) X.A (truthy u) (TPd X S pins σ F Q2) X.xe s := by
  have fin : ∀ k, TruV X.K v H k → Q2 k W → wpAny (model X.prog X.w) X.A (truthy u) (TPd X S pins σ F Q2) X.xe s := fun k t q =>
    thn (tru_ok pins s σ H v u (fun b H' => b = k ∧ H' = H) I ru ⟨k, t, rfl, rfl⟩) fun b s' ⟨H', I', eb, eh⟩ => by
      subst eb eh
      exact ⟨_, F, W, I', Ex.refl _, rl, q⟩
  cases rp with
  | non => exact fin _ rfl h
  | bl b => exact fin _ rfl h
  | int i => exact fin _ rfl h
  | str x => exact fin _ ⟨h.1, rfl⟩ h.2
  | ty n => exact h.elim
  | ptr a =>
    have h2 : (match W a with | some (.lst ds) => Q2 (!ds.isEmpty) W | some (.dK ds) => Q2 (!ds.isEmpty) W | _ => False) := h
    cases e : W a with
    | none => rw [e] at h2; exact h2.elim
    | some m =>
      rw [e] at h2
      obtain ⟨_, mo⟩ := rl.obj a m e
      cases m with
      | lst ds =>
        obtain ⟨vs, e1, r1⟩ := mo
        exact fin _ (.inl ⟨vs, SqL.of e1, rfl⟩) (by rw [Rps.isEmpty r1]; exact h2)
      | dK ds =>
        obtain ⟨vs, e1, r1⟩ := mo
        exact fin _ (.inr (.inr ⟨vs, e1, rfl⟩)) (by rw [Rpk.isEmpty r1]; exact h2)
      | _ => exact h2.elim
  | tup hq r1 => exact fin _ (.inr (.inl ⟨_, by rw [hK]; exact ex_t rl.sub hq.1, rfl⟩)) (by rw [Rps.isEmpty r1]; exact h)
  | lst hq r1 => exact fin _ (.inl ⟨_, SqL.of (rl.sub _ _ hq), rfl⟩) (by rw [Rps.isEmpty r1]; exact h)
  | dK hq r1 =>
    obtain rfl : u = Value.ref _ := ru
    exact d_truth I (.inr ⟨_, rl.sub _ _ hq⟩) fun s' I' => ⟨_, F, W, I', Ex.refl _, rl, by rw [Rpk.isEmpty r1]; exact h⟩
  | dT hq r1 => exact h.elim
  | ins hq r1 => exact h.elim
  | frl hq r1 => exact h.elim
  | exn _ _ _ => exact h.elim
  | exn0 _ => exact h.elim
  | lam _ _ => exact h.elim
theorem TPd.back {pins : List (Addr × Obj)} {σ : L2.St} {F F' : Hp} (e : Ex F F') {Q2 : Bool → Wd → Prop} {b : Bool} {s' : Shared} (h : TPd X S pins σ F' Q2 b s') : TPd X S pins σ F Q2 b s' := by
  obtain ⟨H', F2, W', a1, a2, a3⟩ := h
  exact ⟨H', F2, W', a1, e.trans a2, a3⟩
def dTst (t : DE) : DT := fun sd W Q E2 => t sd W (fun d W1 => kTru W1 d fun b => Q b W1) E2
theorem pt_plain {e : Expr} {t : DE} (hK : X.K = S.K) (h : PD X S E e t) (he : ∀ whole, isTrue e X.env whole = (do let v ← whole; standAt e.pos; holding [v] (truthy v)) := by intro _; rfl) : PTd X S E e (dTst t) :=
  ⟨fun pins s σ H F sd W Q2 E2 I rl sr xc q => PyProof.Rows.isTrue_plain (thn (h.run pins s σ H F sd W _ E2 I rl sr xc q) fun v s1 ⟨x, H1, F1, d, W1, I1, r1, e1, rl1, p1, q1⟩ =>
    thn (tru_d hK I1 rl1 r1 p1 q1) fun b s' z => z.back e1) (he _)⟩
def dTbl (t : DE) : DT := fun sd W Q E2 => t sd W (fun d W1 => kBl d fun b => Q b W1) E2
theorem pt_cmpD {a b : Expr} {ta tb : DE} {op : CmpOp} {r : D2} {pos : Pos} (ho : OpD X S E (compareOp op) r) (ha : PD X S E a ta) (hb : PD X S E b tb) (hm : behindInMarks op b = false) : PTd X S E (.Compare a [op] [b] pos) (dTbl (dOp r ta tb)) :=
  ⟨fun pins s σ H F sd W Q2 E2 I rl sr xc h => wpAny_isTrue_Compare1 (binD ha hb I rl sr xc h fun v u s2 x y c d H2 F2 W2 I2 e rl2 rx ry px py q =>
    thn (ho pins s2 σ H2 F2 sd W2 x y c d v u _ E2 I2 rl2 (sr.mono e) (XCv.mono e xc) rx ry px py q) fun u s' ⟨z, H3, F3, d3, W3, I3, r3, e3, rl3, p3, q3⟩ => by
      cases p3 with
      | bl k =>
        cases r3
        exact wpAny_truthy_bool ⟨H3, F3, W3, I3, e.trans e3, rl3, q3⟩
      | _ => exact q3.elim) hm⟩
theorem PWd.pt {e : Expr} {t : DT} (h : PWd X S E e t) : PTd X S E e t := ⟨h.run _⟩
def dAnd (t u : DT) : DT := fun sd W Q E2 => t sd W (fun b W1 => if b = true then u sd W1 Q E2 else Q false W1) E2
def dOr (t u : DT) : DT := fun sd W Q E2 => t sd W (fun b W1 => if b = true then Q true W1 else u sd W1 Q E2) E2
def dNot (t : DT) : DT := fun sd W Q E2 => t sd W (fun b W1 => Q (!b) W1) E2
theorem pw_and1 {a : Expr} {t : DT} {pos : Pos} (ha : PTd X S E a t) : PWd X S E (.BoolOp .And [a] pos) t :=
  ⟨fun wh pins s σ H F sd W Q2 E2 I rl sr xc h => PyProof.Rows.isTrue_and (thn (ha.run pins s σ H F sd W Q2 E2 I rl sr xc h) fun c s1 e => by
    cases c with
    | true => exact PyProof.Rows.isTrue_and_nil e
    | false => exact e)⟩
theorem pw_or1 {a : Expr} {t : DT} {pos : Pos} (ha : PTd X S E a t) : PWd X S E (.BoolOp .Or [a] pos) t :=
  ⟨fun wh pins s σ H F sd W Q2 E2 I rl sr xc h => PyProof.Rows.isTrue_or (thn (ha.run pins s σ H F sd W Q2 E2 I rl sr xc h) fun c s1 e => by
    cases c with
    | false => exact PyProof.Rows.isTrue_or_nil e
    | true => exact e)⟩
theorem pw_and {a b : Expr} {rest : List Expr} {t u : DT} {pos : Pos} (ha : PTd X S E a t) (hb : PWd X S E (.BoolOp .And (b :: rest) pos) u) : PWd X S E (.BoolOp .And (a :: b :: rest) pos) (dAnd t u) :=
  ⟨fun wh pins s σ H F sd W Q2 E2 I rl sr xc h => PyProof.Rows.isTrue_and (thn (ha.run pins s σ H F sd W _ E2 I rl sr xc h) fun c s1 ⟨H1, F1, W1, I1, e1, rl1, q1⟩ => by
    cases c with
    | true => exact thn (hb.run wh pins s1 σ H1 F1 sd W1 Q2 E2 I1 rl1 (sr.mono e1) (XCv.mono e1 xc) q1) fun b s' z => z.back e1
    | false => exact ⟨H1, F1, W1, I1, e1, rl1, q1⟩)⟩
theorem pw_or {a b : Expr} {rest : List Expr} {t u : DT} {pos : Pos} (ha : PTd X S E a t) (hb : PWd X S E (.BoolOp .Or (b :: rest) pos) u) : PWd X S E (.BoolOp .Or (a :: b :: rest) pos) (dOr t u) :=
  ⟨fun wh pins s σ H F sd W Q2 E2 I rl sr xc h => PyProof.Rows.isTrue_or (thn (ha.run pins s σ H F sd W _ E2 I rl sr xc h) fun c s1 ⟨H1, F1, W1, I1, e1, rl1, q1⟩ => by
    cases c with
    | false => exact thn (hb.run wh pins s1 σ H1 F1 sd W1 Q2 E2 I1 rl1 (sr.mono e1) (XCv.mono e1 xc) q1) fun b s' z => z.back e1
    | true => exact ⟨H1, F1, W1, I1, e1, rl1, q1⟩)⟩
theorem pt_notD {a : Expr} {t : DT} {pos : Pos} (ha : PTd X S E a t) : PTd X S E (.UnaryOp .Not a pos) (dNot t) :=
  ⟨fun pins s σ H F sd W Q2 E2 I rl sr xc h => PyProof.Rows.isTrue_not (ha.run pins s σ H F sd W (fun b W => Q2 (!b) W) E2 I rl sr xc h)⟩
def dAndV (ta tb : DE) : DE := fun sd W Q E2 => ta sd W (fun d W1 => kBl d fun b => if b = true then tb sd W1 Q E2 else Q (.bl false) W1) E2
def dOrV (ta tb : DE) : DE := fun sd W Q E2 => ta sd W (fun d W1 => kBl d fun b => if b = true then Q (.bl true) W1 else tb sd W1 Q E2) E2
def dNotV (ta : DE) : DE := fun sd W Q E2 => ta sd W (fun d W1 => kTru W1 d fun b => Q (.bl (!b)) W1) E2
theorem pd_one {a : Expr} {op} {t : DE} {pos : Pos} (h : PD X S E a t) : PD X S E (.BoolOp op [a] pos) t := ⟨fun pins s σ H F sd W Q2 E2 I rl sr xc q => PyProof.Rows.BoolOp_one (h.run pins s σ H F sd W Q2 E2 I rl sr xc q)⟩
theorem pd_and {a b : Expr} {rest : List Expr} {ta tb : DE} {pos : Pos} (ha : PD X S E a ta) (hb : PD X S E (.BoolOp .And (b :: rest) pos) tb) : PD X S E (.BoolOp .And (a :: b :: rest) pos) (dAndV ta tb) :=
  ⟨fun pins s σ H F sd W Q2 E2 I rl sr xc h => PyProof.Rows.BoolOp_and (thn (ha.run pins s σ H F sd W _ E2 I rl sr xc h) fun v s1 ⟨x, H1, F1, d, W1, I1, r1, e1, rl1, p1, q1⟩ => by
    cases p1 with
    | bl c =>
      cases r1
      refine wpAny_truthy_bool ?_
      cases c with
      | true => exact thn (hb.run pins s1 σ H1 F1 sd W1 Q2 E2 I1 rl1 (sr.mono e1) (XCv.mono e1 xc) q1) fun b s' z => z.back e1
      | false => exact ⟨.bl false, H1, F1, .bl false, W1, I1, rfl, e1, rl1, .bl _, q1⟩
    | _ => exact q1.elim)⟩
def dIf (t : DT) (ta tb : DE) : DE := fun sd W Q E2 => t sd W (fun b W1 => if b = true then ta sd W1 Q E2 else tb sd W1 Q E2) E2
theorem pd_ifExp {c a b : Expr} {t : DT} {ta tb : DE} {pos : Pos} (hc : PTd X S E c t) (ha : PD X S E a ta) (hb : PD X S E b tb) : PD X S E (.IfExp c a b pos) (dIf t ta tb) :=
  ⟨fun pins s σ H F sd W Q2 E2 I rl sr xc h => wpAny_IfExp (thn (hc.run pins s σ H F sd W _ E2 I rl sr xc h) fun d s1 ⟨H1, F1, W1, I1, e1, rl1, q1⟩ => by
    cases d with
    | true => exact thn (ha.run pins s1 σ H1 F1 sd W1 Q2 E2 I1 rl1 (sr.mono e1) (XCv.mono e1 xc) q1) fun b s' z => z.back e1
    | false => exact thn (hb.run pins s1 σ H1 F1 sd W1 Q2 E2 I1 rl1 (sr.mono e1) (XCv.mono e1 xc) q1) fun b s' z => z.back e1)⟩
def dNext : DS := fun D sd W _ => D.nx sd W
def dSeq (t u : DS) : DS := fun D sd W E2 => t { D with nx := fun sd' W' => u D sd' W' E2 } sd W E2
theorem pb_nil : PBd X S E [] dNext := ⟨fun _ s σ H F sd W D2 E2 I rl sr xc h => wpAny_execs_nil ⟨σ, H, F, sd, W, I, Ex.refl _, rl, sr, h⟩⟩
theorem pb_cons {st : Stmt} {rest : List Stmt} {t u : DS} (h1 : PSd X S E st t) (h2 : PBd X S E rest u) : PBd X S E (st :: rest) (dSeq t u) :=
  ⟨fun pins s σ H F sd W D2 E2 I rl sr xc h => wpAny_execs_cons (thn (h1.run pins s σ H F sd W _ E2 I rl sr xc h) fun f s1 q => by
    cases f with
    | next =>
      obtain ⟨σ', H', F', sd', W', I', e, rl', sr', q⟩ := q
      exact thn (h2.run pins s1 σ' H' F' sd' W' D2 E2 I' rl' sr' (XCv.mono e xc) q) fun f s' z => z.mono e
    | ret v => exact q
    | brk => exact q
    | cont => exact q)⟩
theorem pb_one {st : Stmt} {t : DS} (h1 : PSd X S E st t) : PBd X S E [st] t :=
  ⟨fun pins s σ H F sd W D2 E2 I rl sr xc h => wpAny_execs_cons (thn (h1.run pins s σ H F sd W D2 E2 I rl sr xc h) fun f s1 q => by
    cases f with
    | next => exact wpAny_execs_nil q
    | ret v => exact q
    | brk => exact q
    | cont => exact q)⟩
def dBreak : DS := fun D sd W _ => D.bk sd W
def dCont : DS := fun D sd W _ => D.ct sd W
def dDrop (t : DE) : DS := fun D sd W E2 => t sd W (fun _ W1 => D.nx sd W1) E2
theorem psd_expr {e : Expr} {t : DE} {pos : Pos} (he : PD X S E e t) (hs : swapsWith e none pos.line X.env = pure false := by rfl) : PSd X S E (.Expr e pos) (dDrop t) :=
  ⟨fun pins s σ H F sd W D2 E2 I rl sr xc h => wpAny_Expr_any (thn (he.run pins s σ H F sd W _ E2 I rl sr xc h) fun v s1 ⟨x, H1, F1, d, W1, I1, r1, e1, rl1, p1, q1⟩ => ⟨σ, H1, F1, sd, W1, I1, e1, rl1, sr.mono e1, q1⟩) I.quiet hs⟩
def dRet (t : DE) : DS := fun D sd W E2 => t sd W D.rt E2
theorem psd_ret {e : Expr} {t : DE} {pos : Pos} (he : PD X S E e t) : PSd X S E (.Return (some e) pos) (dRet t) :=
  ⟨fun pins s σ H F sd W D2 E2 I rl sr xc h => wpAny_Return_some (thn (he.run pins s σ H F sd W _ E2 I rl sr xc h) fun v s1 ⟨x, H1, F1, d, W1, I1, r1, e1, rl1, p1, q1⟩ => ⟨x, σ, H1, F1, d, W1, I1, r1, e1, rl1, p1, q1⟩)⟩
def dRetN : DS := fun D _ W _ => D.rt .non W
def dIfS (c : DT) (t u : DS) : DS := fun D sd W E2 => c sd W (fun b W1 => if b = true then t D sd W1 E2 else u D sd W1 E2) E2
theorem psd_if {c : Expr} {a b : List Stmt} {tc : DT} {t u : DS} {pos : Pos} (hc : PTd X S E c tc) (ha : PBd X S E a t) (hb : PBd X S E b u) : PSd X S E (.If c a b pos) (dIfS tc t u) :=
  ⟨fun pins s σ H F sd W D2 E2 I rl sr xc h => wpAny_If (thn (hc.run pins s σ H F sd W _ E2 I rl sr xc h) fun d s1 ⟨H1, F1, W1, I1, e1, rl1, q1⟩ => by
    cases d with
    | true => exact thn (ha.run pins s1 σ H1 F1 sd W1 D2 E2 I1 rl1 (sr.mono e1) (XCv.mono e1 xc) q1) fun f s' z => z.mono e1
    | false => exact thn (hb.run pins s1 σ H1 F1 sd W1 D2 E2 I1 rl1 (sr.mono e1) (XCv.mono e1 xc) q1) fun f s' z => z.mono e1)⟩
def dNever : DS := fun _ _ _ _ => False
def dNil : DA := fun _ W Q _ => Q [] W
def dCons (t : DE) (u : DA) : DA := fun sd W Q E2 => t sd W (fun d W1 => u sd W1 (fun ds W2 => Q (d :: ds) W2) E2) E2
theorem pad_nil : PAd X S E [] dNil := ⟨fun pos pins s σ H F sd W Q2 E2 I rl sr xc h => by
  exact thn ((pa_nil (X := X)).run pos pins s σ H (fun vs H' => vs = [] ∧ H' = H) I ⟨rfl, rfl⟩) fun us s' ⟨vs, H', I', r, ev, eh⟩ => by
    subst ev eh
    exact ⟨[], _, F, [], W, I', r, Ex.refl _, rl, .nil, h⟩⟩
theorem pad_cons {e : Expr} {es : List Expr} {t : DE} {u : DA} (he : PD X S E e t) (hes : PAd X S E es u) (hs : starEach (e :: es) X.env = (false, eval e X.env) :: starEach es X.env := by rfl) : PAd X S E (e :: es) (dCons t u) := ⟨fun pos pins s σ H F sd W Q2 E2 I rl sr xc h => by
  have z := (pa_cons (X := X) (e := e) (es := es) he.pe hes.pa hs).run pos pins s σ H (fun vs H' => ∃ F' ds W', Ex F F' ∧ Rel S F' W' H' ∧ Rps S F' vs ds ∧ Q2 ds W') I ?_
  · exact thn z fun us s' ⟨vs, H', I', r, F', ds, W', a1, a2, a3, a4⟩ => ⟨vs, H', F', ds, W', I', r, a1, a2, a3, a4⟩
  · refine ⟨F, sd, W, _, E2, rl, sr, fun F1 v d W1 H1 e1 r1 p1 q1 => ?_, xc, h⟩
    exact ⟨F1, sd, W1, _, E2, r1, sr.mono e1, fun F2 vs ds W2 H2 e2 r2 p2 q2 => ⟨F2, d :: ds, W2, e1.trans e2, r2, .cons (p1.mono e2) p2, q2⟩, XCv.mono e1 xc, q1⟩⟩
def dTup (t : DA) : DE := fun sd W Q E2 => t sd W (fun ds W1 => ds.length ≤ 1000 ∧ Q (.tup ds) W1) E2
def dLst (t : DA) : DE := fun sd W Q E2 => t sd W (fun ds W1 => ds.length ≤ 1000 ∧ Q (.lst ds) W1) E2
def dLstM (t : DA) : DE := fun sd W Q E2 => t sd W (fun ds W1 => ds.length ≤ 1000 ∧ ∀ p, W1 p = none → Q (.ptr p) (put W1 p (.lst ds))) E2
theorem small_ds {F : Hp} {vs : List V} {ds : List D} (r : Rps S F vs ds) (h : ds.length ≤ 1000) : vs.length ≤ sizeLine := by
  rw [r.length, sizeLine_eq]
  omega
theorem pd_tup {es : List Expr} {t : DA} {x1 pos} (h : PAd X S E es t) : PD X S E (.Tuple es x1 pos) (dTup t) :=
  PE.pd (pe_tup h.pa) fun σ H F sd W Q2 E2 rl sr xc q => ⟨F, sd, W, _, E2, rl, sr, fun F1 vs ds W1 H1 e1 r1 p1 ⟨hl, q1⟩ => ⟨small_ds p1 hl, fun p hp =>
    tkQ_of (e1.trans (Ex.new (r1.nf hp))) (r1.newF hp) (.tup (TpU.new upd_same) (p1.mono (Ex.new (r1.nf hp)))) q1⟩, xc, q⟩
theorem pd_lst {es : List Expr} {t : DA} {pos} (h : PAd X S E es t) : PD X S E (.List es pos) (dLst t) :=
  PE.pd (pe_lst h.pa) fun σ H F sd W Q2 E2 rl sr xc q => ⟨F, sd, W, _, E2, rl, sr, fun F1 vs ds W1 H1 e1 r1 p1 ⟨hl, q1⟩ => ⟨small_ds p1 hl, fun p hp =>
    tkQ_of (e1.trans (Ex.new (r1.nf hp))) (r1.newF hp) (.lst upd_same (p1.mono (Ex.new (r1.nf hp)))) q1⟩, xc, q⟩
theorem pd_lstM {es : List Expr} {t : DA} {pos} (h : PAd X S E es t) : PD X S E (.List es pos) (dLstM t) :=
  PE.pd (pe_lst h.pa) fun σ H F sd W Q2 E2 rl sr xc q => ⟨F, sd, W, _, E2, rl, sr, fun F1 vs ds W1 H1 e1 r1 p1 ⟨hl, q1⟩ => ⟨small_ds p1 hl, fun p hp =>
    tkQ_of e1 (r1.newW (m := .lst ds) hp ⟨vs, rfl, p1⟩) (.ptr p) (q1 p (r1.nw hp))⟩, xc, q⟩
abbrev DGs := List D → SD → Wd → (SD → Wd → Prop) → Prop
structure PGd (X : Cx) (S : Sy) (target : Expr) (t : DG) : Prop where
  run : ∀ (pins : List (Addr × Obj)) (s : Shared) (σ : L2.St) (H F : Hp) (sd : SD) (W : Wd) (v : V) (d : D) (u : Value) (Q : SD → Wd → Prop), Inv X pins σ H s → Rel S F W H → SRel S F σ sd → RelV v u → Rp S F v d → t d sd W Q →
    wpAny (model X.prog X.w) X.A (assign target X.env u) (fun _ s' => NPd X S pins F Q s') X.xe s
structure PGsd (X : Cx) (S : Sy) (ts : List Expr) (t : DGs) : Prop where
  run : ∀ (pins : List (Addr × Obj)) (s : Shared) (σ : L2.St) (H F : Hp) (sd : SD) (W : Wd) (vs : List V) (ds : List D) (us : List Value) (Q : SD → Wd → Prop), Inv X pins σ H s → Rel S F W H → SRel S F σ sd → Vals vs us → Rps S F vs ds → t ds sd W Q →
    wpAny (model X.prog X.w) X.A (assignInOrder ((assignEach ts X.env).map (·.2)) us) (fun _ s' => NPd X S pins F Q s') X.xe s
theorem NPd.back {pins : List (Addr × Obj)} {F F' : Hp} (e : Ex F F') {Q : SD → Wd → Prop} {s' : Shared} (h : NPd X S pins F' Q s') : NPd X S pins F Q s' := by
  obtain ⟨σ', H', F2, sd, W, a, b, c⟩ := h
  exact ⟨σ', H', F2, sd, W, a, e.trans b, c⟩
def gN (i : Nat) : DG := fun d sd W Q => Q (sd.set i (some d)) W
theorem pgd_name {i : Nat} {x : Str} {pos : Pos} (hN : X.N.Nodup) (hi : X.N[i]? = some x := by rfl) (hx : Loc X.env.scope x := by first | exact Or.inl rfl | exact Or.inr rfl) (hf : X.fn x = true ∨ X.env.scope.names.lookup x = some .local := by first | exact .inl rfl | exact .inr rfl) : PGd X S (.Name x pos) (gN i) :=
  ⟨fun pins s σ H F sd W v d u Q I rl sr rv rp h => thn ((pg_name (pos := pos) hN hi hx hf).run pins s σ H v u (fun σ' H' => σ' = σ.set i (some v) ∧ H' = H) I rv ⟨rfl, rfl⟩) fun _ s' ⟨σ', H', I', e1, e2⟩ => by
    subst e1 e2
    exact ⟨_, _, F, _, W, I', Ex.refl _, rl, sr.set rp, h⟩⟩
def gN0 : DGs := fun ds sd W Q => (match ds with
  | [] => Q sd W
  | _ => False)
def gNs (t : DG) (u : DGs) : DGs := fun ds sd W Q => (match ds with
  | d :: r => t d sd W fun sd' W' => u r sd' W' Q
  | [] => False)
theorem pgsd_nil : PGsd X S [] gN0 := ⟨fun pins s σ H F sd W vs ds us Q I rl sr rv rp h => by
  cases rp with
  | nil =>
    cases rv
    exact PyProof.Rows.assignInOrder_nil ⟨σ, H, F, sd, W, I, Ex.refl _, rl, sr, h⟩
  | cons _ _ => exact h.elim⟩
theorem pgsd_cons {e : Expr} {es : List Expr} {t : DG} {u : DGs} (h1 : PGd X S e t) (h2 : PGsd X S es u)
    (hs : (assignEach (e :: es) X.env).map (·.2) = assign e X.env :: (assignEach es X.env).map (·.2) := by rfl) : PGsd X S (e :: es) (gNs t u) := ⟨fun pins s σ H F sd W vs ds us Q I rl sr rv rp h => by
  cases rp with
  | nil => exact h.elim
  | cons p1 pr =>
    cases rv with
    | cons r1 rr =>
      rw [hs]
      refine PyProof.Rows.assignInOrder_cons (thn (h1.run pins s σ H F sd W _ _ _ _ I rl sr r1 p1 h) fun _ s1 ⟨σ1, H1, F1, sd1, W1, I1, e1, rl1, sr1, q1⟩ => ?_)
      exact thn (h2.run pins s1 σ1 H1 F1 sd1 W1 _ _ _ Q I1 rl1 sr1 rr (pr.mono e1) q1) fun _ s' z => z.back e1⟩
def gTp (n : Nat) (t : DGs) : DG := fun d sd W Q => (match d with
  | .tup ds => ds.length = n ∧ t ds sd W Q
  | _ => False)
theorem pgd_tup {es : List Expr} {k : Nat} {t : DGs} {n : Nat} {pos : Pos} (hc : X.calm = true) (hK : X.K = S.K) (h : PGsd X S es t)
    (hn : (assignEach es X.env).length = n := by rfl) (hst : (assignEach es X.env).findIdx? (·.1) = none := by rfl) : PGd X S (.Tuple es k pos) (gTp n t) := ⟨fun pins s σ H F sd W v d u Q I rl sr r rp hw => by
  cases rp with
  | tup hq pr =>
    rename_i a vs ds
    obtain ⟨hl, hw⟩ := hw
    cases r
    obtain ⟨its, rv, ht, hz⟩ := I.tuple (by rw [hK]; exact ex_t rl.sub hq.1)
    refine PyProof.Rows.assign_Tuple_tuple (I.ok.hd hc) ht (by simp [hn, ← hl, ← pr.length, rv.length]) hst fun h' hx => ?_
    have I1 : Inv X pins σ H { s with heap := h' } := I.kept (t' := s.toks) fun b o e => hx b o (Nat.ne_of_lt (Heap.lt_size e)) e
    exact h.run pins _ σ H F sd W vs ds _ Q I1 rl sr (by simpa using rv) pr hw
  | _ => exact hw.elim⟩
def dAsg (t : DE) (g : DG) : DS := fun D sd W E2 => t sd W (fun d W1 => g d sd W1 D.nx) E2
theorem psd_asg {tg e : Expr} {t : DE} {g : DG} {pos : Pos} (he : PD X S E e t) (hg : PGd X S tg g) (hs : swapsWithSole [tg] e pos.line X.env = pure false := by rfl) (hw : swappedStores [tg] e X.env = pure none := by rfl)
    (h1 : (assignEach [tg] X.env).map (·.2) = [assign tg X.env] := by rfl) : PSd X S E (.Assign [tg] e pos) (dAsg t g) :=
  ⟨fun pins s σ H F sd W D2 E2 I rl sr xc h => wpAny_Assign_stores (thn (he.run pins s σ H F sd W _ E2 I rl sr xc h) fun v s1 ⟨x, H1, F1, d, W1, I1, r1, e1, rl1, p1, q1⟩ => by
    rw [h1]
    exact thn (hg.run pins s1 σ H1 F1 sd W1 x d v _ I1 rl1 (sr.mono e1) r1 p1 q1) fun _ s2 q => q.back e1) hs hw⟩
theorem psd_set {i : Nat} {x : Str} {e : Expr} {t : DE} {pos pos' : Pos} (hN : X.N.Nodup) (he : PD X S E e t) (hi : X.N[i]? = some x := by rfl) (hx : Loc X.env.scope x := by first | exact Or.inl rfl | exact Or.inr rfl) (hs : swapsWith e (some (.Name x pos')) pos.line X.env = pure false := by rfl) (hf : X.fn x = true ∨ X.env.scope.names.lookup x = some .local := by first | exact .inl rfl | exact .inr rfl) :
    PSd X S E (.Assign [.Name x pos'] e pos) (dAsg t (gN i)) :=
  PS.pd (ps_set hN hi hx he.pe hs hf) fun σ H F sd W D2 E2 rl sr xc h => ⟨F, sd, W, _, E2, rl, sr, fun F1 v d W1 H1 e1 r1 p1 q1 => ⟨F1, _, W1, e1, r1, (sr.mono e1).set p1, q1⟩, xc, h⟩
def dPar (i j : Nat) (t : DA) : DS := fun D sd W E2 => t sd W (fun ds W1 => match ds with
  | [c, d] => D.nx ((sd.set i (some c)).set j (some d)) W1
  | _ => False) E2
theorem psd_par {i j : Nat} {x y : Str} {a b : Expr} {t : DA} {pos px py pt : Pos} {kt k2 pt2} (hc : X.calm = true) (hN : X.N.Nodup) (ha : PAd X S E [a, b] t) (hi : X.N[i]? = some x := by rfl) (hj : X.N[j]? = some y := by rfl) (hij : i ≠ j := by decide)
    (hx : X.env.scope.names.lookup x = some .local := by rfl) (hy : X.env.scope.names.lookup y = some .local := by rfl)
    (hw : swappedStores [.Tuple [.Name x px, .Name y py] kt pt] (.Tuple [a, b] k2 pt2) X.env = pure (some [x, y]) := by rfl)
    (hs : swapsWithSole [.Tuple [.Name x px, .Name y py] kt pt] (.Tuple [a, b] k2 pt2) pos.line X.env = pure false := by rfl) :
    PSd X S E (.Assign [.Tuple [.Name x px, .Name y py] kt pt] (.Tuple [a, b] k2 pt2) pos) (dPar i j t) :=
  PS.pd (ps_par hc hN hi hj hij hx hy ha.pa hw hs) fun σ H F sd W D2 E2 rl sr xc h => ⟨F, sd, W, _, E2, rl, sr, fun F1 vs ds W1 H1 e1 r1 p1 q1 => by
    cases p1 with
    | nil => exact q1.elim
    | cons p1 pr =>
      cases pr with
      | nil => exact q1.elim
      | cons p2 pr =>
        cases pr with
        | nil => exact ⟨_, _, rfl, F1, _, W1, e1, r1, ((sr.mono e1).set p1).set p2, q1⟩
        | cons _ _ => exact q1.elim, xc, h⟩
end
end Mv
end
section
set_option Elab.async false
set_option linter.all false
set_option maxRecDepth 100000
set_option maxHeartbeats 4000000
namespace Mv
open PySem PySem.Spec L2
open Evl (Ex ex_l ex_t ex_rd)
open PyProof.Rows (envOfC)
theorem FnD.mono {P : Program} {w : World} {S : Sy} {mg : Str → Option Value} {base : Heap} {j k : Nat} {f : Addr} {n : Nat} {dds : List D} {sp2 : DSp} (G : FnD P w S mg base j f n dds sp2) (h : j ≤ k) : FnD P w S mg base k f n dds sp2 := by
  obtain ⟨⟨fd, ps, dvs, a, b, c, d⟩, e⟩ := G
  exact ⟨⟨fd, ps, dvs, a.mono h, b, c, d⟩, e⟩
theorem Rps.drop {S : Sy} {F : Hp} : ∀ (n : Nat) {vs : List V} {ds : List D}, Rps S F vs ds → Rps S F (vs.drop n) (ds.drop n)
  | 0, _, _, r => r
  | _ + 1, _, _, .nil => .nil
  | n + 1, _, _, .cons _ t => Rps.drop n t
section
variable {X : Cx} {S : Sy} {E : XS} {k : Nat} {f : Addr} {n : Nat} {dds : List D} {sp2 : DSp}
theorem run_at {A : Around} {pins : List (Addr × Obj)} {s : Shared} {σ : L2.St} {H F : Hp} {sd : SD} {W : Wd} {us : List Value} {vs : List V} {ds : List D} {Q2 : QD} {E2 : QX} (hK : X.K = S.K) (G : FnD X.prog X.w S X.mg X.base k f n dds sp2) (hr : Room k A) (e0 : Env0 X.prog X.w X.K X.mg X.base A X.stack s H) (tk : Takes X E)
    (I : Inv X pins σ H s) (rl : Rel S F W H) (sr : SRel S F σ sd) (xc : XCv S F E2 E) (r : Vals vs us) (rp : Rps S F vs ds) (h : ds.length ≤ n ∧ n ≤ ds.length + dds.length ∧ sp2 (ds ++ dds.drop (dds.length - (n - ds.length))) W Q2 (fun d W' => E2 d sd W')) :
    wpAny (model X.prog X.w) A (call (.ref f) us) (DP X S pins σ F Q2) X.xe s := by
  obtain ⟨⟨fd, ps, dvs, Fn, hn, hdd, hbd⟩, kp⟩ := G
  obtain ⟨h1, h2, h⟩ := h
  obtain ⟨dv, rv, hb⟩ := hbd (dds.length - (n - ds.length)) (by omega)
  have r2 : Vals (vs ++ dvs.drop (dds.length - (n - ds.length))) (us ++ dv) := r.append rv
  have ldv : dvs.length = dds.length := (hdd F).length
  have lvs : vs.length = ds.length := rp.length
  have hl : (us ++ dv).length = ps.length := by
    rw [← r2.length, List.length_append, List.length_drop, hn, lvs, ldv]
    omega
  have hsp : upSp S sp2 (vs ++ dvs.drop (dds.length - (n - ds.length))) H (tkQ S F Q2) (WE E σ) :=
    ⟨F, W, _, Q2, _, rl, rp.append ((hdd F).drop _), tkQ_cv, fun F' dx vs c fs W' H' e rl' hx rf q => xc F' dx vs c fs σ sd W' H' e rl' (sr.mono e) hx rf q, h⟩
  rw [← hK] at Fn hb
  refine wpAny_call (codeAny_mono (Fn.run A X.stack s H ⟨us, []⟩ (us ++ dv) _ _ (WE E σ) hr e0 (hb s us I.kIn hl) r2 hsp) fun r s' hq => ?_)
  cases r with
  | error e => exact passAt tk σ pins H s e s' I hq
  | ok fl =>
    cases fl with
    | ret u => exact EP.tk (I.after hq)
    | next => exact False.elim hq
    | brk => exact False.elim hq
    | cont => exact False.elim hq
def dCall (n : Nat) (dds : List D) (sp2 : DSp) (t : DA) : DE := fun sd W Q E2 => t sd W (fun ds W1 => ds.length ≤ n ∧ n ≤ ds.length + dds.length ∧ sp2 (ds ++ dds.drop (dds.length - (n - ds.length))) W1 Q (fun d W' => E2 d sd W')) E2
theorem pd_call {x : Str} {p pos : Pos} {e : Expr} {es : List Expr} {t : DA} (hK : X.K = S.K) (tk : Takes X E) (hr : Room k X.A) (G : FnD X.prog X.w S X.mg X.base k f n dds sp2) (hm : X.mg x = some (.ref f)) (ha : PAd X S E (e :: es) t) (hg : Gl X x := by rfl)
    (hdb : (x == ("__debug__" : Str)) = false := by decide) (he : starEach (e :: es) X.env = (false, eval e X.env) :: starEach es X.env := by rfl) (hpl : (backTo pos (starEach es X.env)).any (·.1) = false := by rfl) :
    PD X S E (.Call (.Name x p) (e :: es) [] pos) (dCall n dds sp2 t) := by
  refine ⟨fun pins s σ H F sd W Q2 E2 I rl sr xc h => ?_⟩
  refine wpAny_Call_Name_kw (ld_glob I hg hm ?_ hdb)
  refine PySem.W.callWith_K (h₀ := X.base) I.ok.mod.kin (by rw [hK]; exact G.kp) (thn (ha.run pos pins s σ H F sd W _ E2 I rl sr xc h) fun us s1 ⟨vs, H1, F1, ds, W1, I1, r, e1, rl1, rp, q⟩ => ⟨I1.kIn, ?_⟩) he hpl
  exact thn (run_at hK G hr I1.env0 tk I1 rl1 (sr.mono e1) (XCv.mono e1 xc) r rp q) fun u s' z => z.back e1
def dfl (n : Nat) (dd : List D) (ds : List D) (k : List D → Prop) : Prop := ds.length ≤ n ∧ n ≤ ds.length + dd.length ∧ k (ds ++ dd.drop (dd.length - (n - ds.length)))
theorem MtD.mono {P : Program} {w : World} {S : Sy} {mg : Str → Option Value} {base : Heap} {j k c : Nat} {m : Str} {n : Nat} {dds : List D} {sp2 : DSp} (G : MtD P w S mg base j c m n dds sp2) (h : j ≤ k) : MtD P w S mg base k c m n dds sp2 := by
  obtain ⟨a, f, b, c⟩ := G
  exact ⟨a, f, b, c.mono h⟩
def dMeth (M : Mts) (ta : DE) (t : DA) : DE := fun sd W Q E2 => ta sd W (fun d W1 => kIns W1 d fun c _ => c ∈ M.l ∧ t sd W1 (fun ds W2 => dfl (M.n c) (M.dd c) (d :: ds) fun ds' => M.sp c ds' W2 Q (fun x W' => E2 x sd W')) E2) E2
def dAttr (M : Ats) (i : Nat) (ta : DE) : DE := fun sd W Q E2 => ta sd W (fun d W1 => kIns W1 d fun c fs => (c ∈ M.fl ∧ match fs.lookup i with
  | some x => Q x W1
  | none => False) ∨ (c ∈ M.pr ∧ M.sp c [d] W1 Q (fun _ _ => False))) E2
def dFld (l : List Nat) (i : Nat) (ta t : DE) : DS := fun D sd W E2 => t sd W (fun y W1 => ta sd W1 (fun d W2 => match d with
  | .ptr a => (match W2 a with
    | some (.ins c fs) => c ∈ l ∧ fs.length ≤ 100 ∧ D.nx sd (put W2 a (.ins c (putN i y fs)))
    | _ => False)
  | _ => False) E2) E2
structure MkD (P : Program) (w : World) (S : Sy) (mg : Str → Option Value) (base : Heap) (k : Nat) (c : Nat) (n : Nat) (dds : List D) (sp2 : DSp) : Prop where
  ex : ∃ f, Mk S.K (S.ca c) f ∧ FnD P w S mg base k f n dds sp2
theorem MkD.mono {P : Program} {w : World} {S : Sy} {mg : Str → Option Value} {base : Heap} {j k c : Nat} {n : Nat} {dds : List D} {sp2 : DSp} (G : MkD P w S mg base j c n dds sp2) (h : j ≤ k) : MkD P w S mg base k c n dds sp2 := by
  obtain ⟨f, b, c⟩ := G
  exact ⟨f, b, c.mono h⟩
theorem Rel.made {F H : Hp} {W : Wd} (r : Rel S F W H) {x dx : Addr} {c : Nat} (hx : H x = none) (hd : H dx = none) (ne : dx ≠ x) :
    Rel S F (put W x (.ins c [])) (upd (upd H dx (.own x)) x (.ins (S.ca c) dx [])) := by
  have r1 : Rel S F W (upd H dx (.own x)) := by
    refine ⟨fun b u e => ?_, fun a m e => ?_, r.tab.ext (upd_ext hd), r.nt⟩
    · rw [upd_ne (ne_of_none (r.sub b u e) hd)]
      exact r.sub b u e
    · obtain ⟨f, mo⟩ := r.obj a m e
      have q : a ≠ dx := fun z => by
        rw [z, r.nw hd] at e
        cases e
      rw [upd_ne q]
      exact ⟨f, mo⟩
  exact r1.newW (m := .ins c []) (by rw [upd_ne (Ne.symm ne)]; exact hx) ⟨dx, [], rfl, .nil⟩
theorem Rel.cut {F H : Hp} {W : Wd} {a : Addr} (r : Rel S F W H) : Rel S F (cut W a) H := ⟨r.sub, fun b m e => by
  unfold Mv.cut at e
  split at e
  · cases e
  · exact r.obj b m e, r.tab, r.nt⟩
def startD (N : List Str) (ds : List D) : SD := ds.map some ++ List.replicate (N.length - ds.length) none
end
theorem start_rel {S : Sy} {F : Hp} {N : List Str} {vs : List V} {ds : List D} (rp : Rps S F vs ds) : SRel S F (L2.start N vs) (startD N ds) := by
  unfold L2.start startD
  refine ⟨by simp [rp.length], fun i d h => ?_⟩
  by_cases hi : i < ds.length
  · rw [List.getElem?_append_left (by simpa using hi)] at h
    rw [List.getElem?_append_left (by simpa [rp.length] using hi)]
    rw [List.getElem?_map] at h ⊢
    cases e : ds[i]? with
    | none => rw [e] at h; cases h
    | some d' =>
      rw [e] at h
      cases h
      obtain ⟨v, h1, h2⟩ := rp.get e
      exact ⟨v, by rw [h1]; rfl, h2⟩
  · rw [List.getElem?_append_right (by simpa using hi)] at h
    have h2 := List.mem_of_getElem? h
    rw [List.mem_replicate] at h2
    cases h2.2
theorem fnD_of {P : Program} {w : World} {S : Sy} {mg : Str → Option Value} {base : Heap} {x qual : Str} {params : Arguments} {body : List Stmt} {scope : Scope} {dvs : List V} {kws : List (Str × V)} {f : Addr} {fd : FuncData} {N ps : List Str} {k : Nat} {sp2 : DSp} {t : DS}
    (Fd : FunD S.K x qual params body scope dvs kws f fd) (Sc : FnScope N ps scope) (len : ∀ ds W Q E, sp2 ds W Q E → ds.length = ps.length)
    (hbody : ∀ (cdv : Value) (A : Around) (outer : List Env) (s : Shared) (H : Hp) (E : XK), Room k (A.deeper (envOfC qual scope s.heap.objs.size f cdv)) →
      Takes (cxOf (L2.CX P w) P w S.K mg base N qual scope f cdv A outer s H E) (fun cls d _ H => E cls d H) → PBd (cxOf (L2.CX P w) P w S.K mg base N qual scope f cdv A outer s H E) S (fun cls d _ H => E cls d H) body t)
    (hD : ∀ ds W Q2 E2, sp2 ds W Q2 E2 → t { nx := fun _ W => Q2 .non W, rt := Q2 } (startD N ds) W (fun x _ W => E2 x W)) : FnOk P w S.K mg base (L2.CX P w) (k + 1) f fd ps (upSp S sp2) := by
  refine Fd.ok Sc (fun vs H Q E h => ?_) (fun cdv A outer s H vs Q E hr h => ?_)
  · obtain ⟨F, W, ds, Q2, E2, _, rp, _, _, q⟩ := h
    rw [rp.length]
    exact len _ _ _ _ q
  · have tk : Takes (cxOf (L2.CX P w) P w S.K mg base N qual scope f cdv A outer s H E) (fun cls d _ H => E cls d H) := takes_of rfl rfl rfl rfl
    obtain ⟨F, W, ds, Q2, E2, rl, rp, qc, xc, q⟩ := h
    refine ⟨_, (hbody cdv A outer s H E hr tk).pss, F, startD N ds, W, _, _, rl, start_rel rp, ⟨fun F' σ' sd' W' H' e r sr q => qc F' .non .non W' H' e r .non q, fun F' v d W' H' e r p q => qc F' v d W' H' e r p q, fun _ _ _ _ _ _ _ _ z => (z : False).elim, fun _ _ _ _ _ _ _ _ z => (z : False).elim⟩,
      fun F' dx vs c fs σ' sd' W' H' e r sr hx rf q => xc F' dx vs c fs W' H' e r hx rf q, hD ds W Q2 E2 q⟩
end Mv
end
section
set_option Elab.async false
set_option linter.all false
set_option maxRecDepth 100000
set_option maxHeartbeats 4000000
namespace Mv
open PySem PySem.Spec PySem.W
section
variable {prog : Program} {w : World} {A : Around} {E : Value → Shared → Prop} {s : Shared} {K : Frag} {x C f L : Addr} {h₀ : Heap} {m : Str → Option Value} {ox : Obj} {od : Option Obj} {i : Int} {t : Tok}
open AutoSeq1 (wpAny_loadPart')
def Declines (B : Builtin) : Prop := ∀ (M : Model) (A : Around) (E : Value → Shared → Prop) (s : Shared) (x C : Addr) (ox : Obj) (od : Option Obj) (i : Int) (t : Tok) (Q : Fin → Shared → Prop),
  InstAt s.heap x ox C od → ox.data = .plain → Q (.done (.ret .notImplemented)) s → wpAny M A (B ⟨[.int i t, .ref x], []⟩) Q E s
theorem dec_lt : Declines Builtin.«int.__lt__» := fun M A E s x C ox od i t Q I hp h => by
  obtain ⟨hh, g, d, tk, os⟩ := s
  have hx : hh.get? x = some ox := I.at_
  wp_walk using wpAny_loadPart' hx
  rw [hp]
  wp_walk
  exact h
theorem dec_gt : Declines Builtin.«int.__gt__» := fun M A E s x C ox od i t Q I hp h => by
  obtain ⟨hh, g, d, tk, os⟩ := s
  have hx : hh.get? x = some ox := I.at_
  wp_walk using wpAny_loadPart' hx
  rw [hp]
  wp_walk
  exact h
theorem dec_ge : Declines Builtin.«int.__ge__» := fun M A E s x C ox od i t Q I hp h => by
  obtain ⟨hh, g, d, tk, os⟩ := s
  have hx : hh.get? x = some ox := I.at_
  wp_walk using wpAny_loadPart' hx
  rw [hp]
  wp_walk
  exact h
theorem dec_eq : Declines Builtin.«int.__eq__» := fun M A E s x C ox od i t Q I hp h => by
  obtain ⟨hh, g, d, tk, os⟩ := s
  have hx : hh.get? x = some ox := I.at_
  wp_walk using wpAny_loadPart' hx
  rw [hp]
  wp_walk
  exact h
theorem dec_ne : Declines Builtin.«int.__ne__» := fun M A E s x C ox od i t Q I hp h => by
  obtain ⟨hh, g, d, tk, os⟩ := s
  have hx : hh.get? x = some ox := I.at_
  wp_walk using wpAny_loadPart' hx
  rw [hp]
  wp_walk
  exact h
theorem dec_add : Declines Builtin.«int.__add__» := fun M A E s x C ox od i t Q I hp h => by
  obtain ⟨hh, g, d, tk, os⟩ := s
  have hx : hh.get? x = some ox := I.at_
  wp_walk using wpAny_loadPart' hx
  rw [hp]
  wp_walk
  exact h
theorem dec_sub : Declines Builtin.«int.__sub__» := fun M A E s x C ox od i t Q I hp h => by
  obtain ⟨hh, g, d, tk, os⟩ := s
  have hx : hh.get? x = some ox := I.at_
  wp_walk using wpAny_loadPart' hx
  rw [hp]
  wp_walk
  exact h
theorem dec_mul : Declines Builtin.«int.__mul__» := fun M A E s x C ox od i t Q I hp h => by
  obtain ⟨hh, g, d, tk, os⟩ := s
  have hx : hh.get? x = some ox := I.at_
  wp_walk using wpAny_loadPart' hx
  rw [hp]
  wp_walk
  exact h
theorem dec_call {name : Str} {id : String} {B : Builtin} {Q : Value → Shared → Prop} (slot : Slot "int" name id) (entry : entryFor table id = some B) (args : ∀ a b, argsOk id ⟨[a, b], []⟩) (hd : Declines B) (I : InstAt s.heap x ox C od) (hp : ox.data = .plain) (h : Q .notImplemented s) :
    wpAny (model prog w) A (call (.builtin id) [.int i t, .ref x]) Q E s :=
  GQ.call_here slot (typeIs_int s i t) entry (args _ _) (hd _ _ _ _ _ _ _ _ _ _ _ I hp h)
theorem cmp_intL {op : CmpOp} {id : String} {B : Builtin} {Q : Value → Shared → Prop} (hu : A.units < cLine) (X : K.In s.heap) (I : InstAt s.heap x ox C od) (hp : ox.data = .plain)
    (slot : Slot "int" (cmpInfo op).2.1 id) (entry : entryFor table id = some B) (args : ∀ a b, argsOk id ⟨[a, b], []⟩) (hd : Declines B) (hsub : subIn K (.ref C) (.type "int") = some false)
    (hs : findIn K (.ref C) (cmpInfo op).2.2 = some (some (.ref f))) (hf : isFn K (.ref f) = true)
    (h : wpAny (model prog w) A (call (.ref f) [.ref x, .int i t]) (CmpBack Q) E s) : wpAny (model prog w) A (richCompare op (.int i t) (.ref x)) Q E s := by
  have two : wpAny (model prog w) A (tryCompare (.ref x) (cmpInfo op).2.2 (.int i t)) (fun r s' => ∃ v, r = some v ∧ Q v s') E s := by
    unfold tryCompare
    refine wpAny_bind (ifBound_K X I hs hf (wpAny_mono h (fun v s' hv => ?_) fun _ _ e => e))
    cases v <;> first | exact hv.elim | exact wpAny_pure ⟨_, rfl, hv⟩
  have one : wpAny (model prog w) A (tryCompare (.int i t) (cmpInfo op).2.1 (.ref x)) (fun r s' => r = none ∧ s' = s) E s :=
    wpAny_tryCompare_declines (typeIs_int s i t) slot (dec_call slot entry args hd I hp ⟨rfl, rfl, rfl⟩)
  unfold richCompare
  refine wpAny_holding ?_
  have z : oneThing? op (.int i t) (.ref x) = none := by
    cases op <;> rfl
  rw [z]
  refine wpAny_bind (wpAny_cRoomFor hu ?_)
  refine wpAny_bind (wpAny_typeOf (typeIs_int s i t) (wpAny_bind (I.type.here ?_)))
  rw [if_pos (show (Value.type "int" != Value.ref C) = true from by simp)]
  refine wpAny_bind ((looks_subIn X hsub).here ?_)
  simp only [Bool.false_eq_true, if_false, Bool.not_false, if_true]
  refine wpAny_bind (wpAny_mono one (fun r s' hr => ?_) fun _ _ e => e)
  obtain ⟨rfl, rfl⟩ := hr
  dsimp only
  refine wpAny_bind (wpAny_mono two (fun r s' hr => ?_) fun _ _ e => e)
  obtain ⟨v, rfl, q⟩ := hr
  exact wpAny_pure q
theorem bin_intL {op : Operator} {id : String} {B : Builtin} {fo ro : Option Value} {Q : Value → Shared → Prop} (X : K.In s.heap) (I : InstAt s.heap x ox C od) (hp : ox.data = .plain) (hc : selfFirst K C = true)
    (slot : Slot "int" (PySem.dunder op.info.2) id) (entry : entryFor table id = some B) (args : ∀ a b, argsOk id ⟨[a, b], []⟩) (hd : Declines B) (hsub : subIn K (.ref C) (.type "int") = some false)
    (h1 : findIn K (.type "int") (PySem.dunder op.info.2) = some fo) (h2 : findIn K (.type "int") (dunderR op.info.2) = some ro) (h3 : ((fo.isSome && !isSeqSlot fo) || (ro.isSome && !isSeqSlot ro)) = true)
    {g0 : Addr} (hs0 : findIn K (.ref C) (PySem.dunder op.info.2) = some (some (.ref g0)))
    (hs : findIn K (.ref C) (dunderR op.info.2) = some (some (.ref f))) (hf : isFn K (.ref f) = true)
    (h : wpAny (model prog w) A (call (.ref f) [.ref x, .int i t]) (CmpBack Q) E s) : wpAny (model prog w) A (binaryOp op (.int i t) (.ref x)) Q E s := by
  obtain ⟨cd, rest, hcd, hm⟩ := ksp_first hc
  rcases hi : op.info with ⟨sym, nm'⟩
  rw [hi] at hs hs0 slot h1 h2
  dsimp only at hs hs0 slot h1 h2
  have two := ksp_try (M := model prog w) X I hs hf h
  have one : wpAny (model prog w) A (tryMethod (.int i t) (PySem.dunder nm') (.ref x)) (fun r s' => r = none ∧ s' = s) E s :=
    wpAny_tryMethod_declines (typeIs_int s i t) slot (dec_call slot entry args hd I hp ⟨rfl, rfl, rfl⟩)
  have L1 : Looks (model prog w) s.heap (typeOf (.int i t)) (.type "int") := Looks.of_pure rfl
  have L2 : Looks (model prog w) s.heap (typeOf (.ref x)) (.ref C) := I.type
  have L3 : Looks (model prog w) s.heap (fillsNumberSlot (.type "int") nm') true := by
    rw [← h3]
    exact ksp_fillsT X h1 h2
  have L4 : Looks (model prog w) s.heap (fillsNumberSlot (.ref C) nm') true := fills_K X hcd hm hs0
  have L5 : Looks (model prog w) s.heap (isSubtype (.ref C) (.type "int")) false := looks_subIn X hsub
  have L6 : Looks (model prog w) s.heap (numberSlotInPython (.type "int") nm') false := Looks.of_pure rfl
  have hne : (Value.type "int" == Value.ref C) = false := Bool.eq_false_iff.mpr fun q => by cases beq_iff_eq.mp q
  obtain ⟨hh, g, d, tt, os⟩ := s
  simp only [binaryOp, hi]
  refine wpAny_holding (wpAny_bind ?_)
  unfold binaryOp1
  refine wpAny_bind (L1.at (wpAny_bind (L2.at (wpAny_bind (L3.at ?_)))))
  simp only [hne, Bool.false_eq_true, if_false]
  ksp_lk
  refine wpAny_mono one (fun r s' hr' => ?_) fun _ _ e => e
  obtain ⟨rfl, rfl⟩ := hr'
  ksp_lk
  refine wpAny_mono two (fun r s' hr' => ?_) fun _ _ e => e
  obtain ⟨v, rfl, hq⟩ := hr'
  ksp_lk
  exact hq
end
end Mv
end
section
set_option Elab.async false
set_option linter.all false
set_option maxRecDepth 100000
set_option maxHeartbeats 4000000
namespace Mv
open PySem PySem.Spec PySem.W
section
variable {prog : Program} {w : World} {A : Around} {E : Value → Shared → Prop} {s : Shared} {K : Frag} {x C f L : Addr} {ox : Obj} {od : Option Obj} {i : Int} {t : Tok}
theorem ne_try {b : Value} {Q : Value → Shared → Prop} (hu : A.units + 1 < cLine) (X : K.In s.heap) (I : InstAt s.heap x ox C od) (hm : mroIn K C (.type "object") = some true)
    (hn : findIn K (.ref C) "__ne__" = some (some (.builtin "object.__ne__"))) (hs : findIn K (.ref C) "__eq__" = some (some (.ref f))) (hf : isFn K (.ref f) = true)
    (h : wpAny (model prog w) A.in1 (call (.ref f) [.ref x, b]) (fun v s' => ∃ k, v = .bool k ∧ Q (.bool (!k)) s') E s) : wpAny (model prog w) A (tryCompare (.ref x) "__ne__" b) (fun r s' => ∃ k, r = some (.bool k) ∧ Q (.bool k) s') E s := by
  unfold tryCompare
  have fin : wpAny (model prog w) A (call (.builtin "object.__ne__") [.ref x, b]) (fun r s' => ∃ k, r = .bool k ∧ Q (.bool k) s') E s := by
    have sub : Looks (model prog w) s.heap (isInstance (.ref x) (.type "object")) true := I.type.andThen (looks_mroIn X hm)
    refine wpAny_call (codeAny_call_builtin F.slot_object_ne.plain F.cmpEntry_ne (@check_slot (model prog w) _ _ s "object.__ne__" "object" "__ne__" (.ref x) [b] [] _ F.cmpKind_ne F.cmpSplit_ne sub (F.cmpArgs_ne _ _) ?_))
    unfold Builtin.«object.__ne__»
    refine wpAny_bind (m := slotArgs "__ne__" 1 _) (wpAny_pure ?_)
    dsimp only
    refine wpAny_bind (wpAny_cRoomFor (by exact hu) ?_)
    refine wpAny_bind (m := callSpecialIfBound? (.ref x) (Str.ofString "__eq__") [b]) (ifBound_K X I hs hf (wpAny_mono h (fun r s' hr => ?_) fun _ _ e => e))
    obtain ⟨k, rfl, q⟩ := hr
    dsimp only
    refine wpAny_bind (wpAny_truthy_bool ?_)
    exact wpAny_pure ⟨_, rfl, q⟩
  simp only [callSpecialIfBound?, bindSpecialIfBound?]
  have fin2 : wpAny (model prog w) A (call (.builtin "object.__ne__") ([.ref x] ++ [b]) >>= fun v => pure (some v)) (fun r s' => wpAny (model prog w) A (match r with | some .notImplemented | none => pure none | some v => pure (some v)) (fun r s' => ∃ k, r = some (.bool k) ∧ Q (.bool k) s') E s') E s :=
    wpAny_bind (wpAny_mono fin (fun r s' hr => by
      obtain ⟨k, rfl, q⟩ := hr
      exact wpAny_pure (wpAny_pure ⟨k, rfl, q⟩)) fun _ _ e => e)
  have Lb : Looks (model prog w) s.heap (bindSpecial (.builtin "object.__ne__") (.ref x)) (.builtin "object.__ne__", [.ref x]) := Looks.of_pure (by kernel_rfl)
  refine wpAny_bind (wpAny_holding (wpAny_bind (wpAny_bind (wpAny_bind (I.type.here ((looks_findIn X hn).here ?_))))))
  refine wpAny_bind (wpAny_askSetting (wpAny_ite ?_))
  split
  · exact wpAny_bind (Lb.here (wpAny_pure (by exact fin2)))
  · exact wpAny_tryCatch (wpAny_bind (Lb.here (wpAny_pure (by exact fin2))))
end
end Mv
end
section
set_option Elab.async false
set_option linter.all false
set_option maxRecDepth 100000
set_option maxHeartbeats 4000000
namespace Mv
open PySem PySem.Spec L2
open Evl (Ex ex_l ex_t ex_rd)
section
variable {X : Cx} {S : Sy} {E : XS} {k : Nat}
theorem look_obj {M : Model} {h : Heap} {a : Addr} {o : Obj} {t : Value} (ho : h.get? a = some o) (hc : o.cls = t) : PySem.W.Looks M h (typeOf (.ref a)) t := by
  subst hc
  exact (PySem.W.Looks.ld (part := none) ho).andThen .now
theorem look_ty {M : Model} {pins : List (Addr × Obj)} {s : Shared} {σ : L2.St} {H F : Hp} {W : Wd} {v : V} {u : Value} {d : D} {t : Value} (hK : X.K = S.K) (I : Inv X pins σ H s) (rl : Rel S F W H) (ru : RelV v u) (rp : Rp S F v d) (h : tyD S W d = some t) :
    PySem.W.Looks M s.heap (typeOf u) t := by
  have ok : ∀ {a o}, H a = some o → ObjOk X.prog X.w H s.heap a o := fun {a o} e => I.hok a o e
  have lk : ∀ {a vs}, SqL X.K H a vs → PySem.W.Looks M s.heap (typeOf (.ref a)) (.type "list") := fun {a vs} h => by
    obtain ⟨_, _, ⟨o, n, e, c, _⟩, _⟩ := I.list h
    exact look_obj e c
  have dk : ∀ {a kvs}, H a = some (.dK kvs) → PySem.W.Looks M s.heap (typeOf (.ref a)) (.type "dict") := fun {a kvs} q => by
    obtain ⟨_, _, vs, _, o', es, ep, e', hx, _⟩ := (show ObjOk X.prog X.w H s.heap a (.dK kvs) from I.hok a _ q)
    exact look_obj e' hx.1
  have dt : ∀ {a kvs}, H a = some (.dT kvs) → PySem.W.Looks M s.heap (typeOf (.ref a)) (.type "dict") := fun {a kvs} q => by
    obtain ⟨_, _, xs, _, o', es, ep, e', hx, _⟩ := (show ObjOk X.prog X.w H s.heap a (.dT kvs) from I.hok a _ q)
    exact look_obj e' hx.1
  have dkF : ∀ {a od kvs}, H a = some (.frz od (.dK kvs)) → PySem.W.Looks M s.heap (typeOf (.ref a)) (.type "dict") := fun {a od kvs} q => by
    obtain ⟨_, _, _, vs, _, o', es, ep, e', hx, _⟩ := (show ObjOk X.prog X.w H s.heap a (.frz od (.dK kvs)) from I.hok a _ q)
    exact look_obj e' hx.1
  have dtF : ∀ {a od kvs}, H a = some (.frz od (.dT kvs)) → PySem.W.Looks M s.heap (typeOf (.ref a)) (.type "dict") := fun {a od kvs} q => by
    obtain ⟨_, _, _, xs, _, o', es, ep, e', hx, _⟩ := (show ObjOk X.prog X.w H s.heap a (.frz od (.dT kvs)) from I.hok a _ q)
    exact look_obj e' hx.1
  have ik : ∀ {a C dx fs}, H a = some (.ins C dx fs) → PySem.W.Looks M s.heap (typeOf (.ref a)) (.ref C) := fun {a C dx fs} q => by
    obtain ⟨mA, O, _⟩ := ins_get I.hok q
    exact look_obj O.obj rfl
  cases rp with
  | non => cases ru; cases h; exact .of_pure rfl
  | bl b => cases ru; cases h; exact .of_pure rfl
  | int i => obtain ⟨_, rfl⟩ := ru; cases h; exact .of_pure rfl
  | str x => obtain ⟨_, rfl⟩ := ru; cases h; exact .of_pure rfl
  | ty n => cases h
  | frl hq r1 => cases h
  | exn _ _ _ => cases h
  | exn0 _ => cases h
  | lam _ _ => cases h
  | ptr a =>
    obtain rfl : u = Value.ref a := ru
    cases e : W a with
    | none => simp only [tyD, e] at h; cases h
    | some m =>
      simp only [tyD, e] at h
      obtain ⟨_, mo⟩ := rl.obj a m e
      cases m with
      | lst ds => obtain ⟨vs, e1, r1⟩ := mo; cases h; exact lk (SqL.of e1)
      | dK ds => obtain ⟨vs, e1, r1⟩ := mo; cases h; exact dk e1
      | dT ds => obtain ⟨vs, e1, r1⟩ := mo; cases h; exact dt e1
      | ins c fs => obtain ⟨dx, vs, e1, r1⟩ := mo; cases h; exact ik e1
      | _ => cases h
  | tup hq r1 =>
    rename_i a vs ds
    obtain rfl : u = Value.ref a := ru
    cases h
    obtain ⟨_, _, ⟨o, e, c, _⟩, _⟩ := I.tuple (by rw [hK]; exact ex_t rl.sub hq.1)
    exact look_obj e c
  | lst hq r1 =>
    rename_i a vs ds
    obtain rfl : u = Value.ref a := ru
    cases h
    exact lk (SqL.of (rl.sub _ _ hq))
  | dK hq r1 =>
    rename_i a od vs ds
    obtain rfl : u = Value.ref a := ru
    cases h
    exact dkF (rl.sub _ _ hq)
  | dT hq r1 =>
    rename_i a od vs ds
    obtain rfl : u = Value.ref a := ru
    cases h
    exact dtF (rl.sub _ _ hq)
  | ins hq r1 =>
    rename_i a dx c vs fs
    obtain rfl : u = Value.ref a := ru
    cases h
    exact ik (rl.sub _ _ hq)
theorem DP.back_cmp {pins : List (Addr × Obj)} {σ : L2.St} {F : Hp} {Q2 : QD} {u : Value} {s' : Shared} (h : DP X S pins σ F Q2 u s') : PySem.W.CmpBack (DP X S pins σ F Q2) u s' := by
  have h0 := h
  obtain ⟨v, H', F', d, W', a1, a2, a3, a4, a5, a6⟩ := h
  cases u with
  | notImplemented =>
    cases a5
    all_goals first
      | (rcases a2 with ⟨_, e⟩; cases e; done)
      | (cases a2; done)
  | _ => exact h0
def rOwn (M : Mts) (rhs : Nat → D → Wd → Prop) : D2 := fun c d sd W Q E2 => kIns W c fun j _ => j ∈ M.l ∧ rhs j d W ∧ dfl (M.n j) (M.dd j) [c, d] fun ds => M.sp j ds W Q (fun x W' => E2 x sd W')
def rOwnR (M : Mts) (lhs : Nat → D → Wd → Prop) : D2 := fun c d sd W Q E2 => rOwn M lhs d c sd W Q E2
theorem op_own {op : Operator} {M : Mts} {m : Str} (hK : X.K = S.K) (tk : Takes X E) (hr : Room (k + 1) X.A) (hM : M.ok X S k m) (hm : PySem.dunder op.info.2 = m) (hF : ∀ c, c ∈ M.l → OwnF S c op.info.2) : OpD X S E (binaryOp op) (rOwn M rhsIS) := by
  intro pins s σ H F sd W x y c d v u Q2 E2 I rl sr xc rx ry px py h
  obtain ⟨a, dx, vs, j, fs, ex, ea, rf, hj, hrhs, hsp⟩ := kIns.at rl px h
  subst ex
  obtain rfl : v = Value.ref a := rx
  obtain ⟨cl, f, mt, G⟩ := hM j hj
  have hf := hF j hj
  rw [← hK] at cl mt
  have hf' := hf
  obtain ⟨sf, ⟨rc, hrc, hrp⟩, ⟨fo, ro, h1, h2⟩, sb⟩ := hf
  obtain ⟨mA, O, _⟩ := ins_get I.hok ea
  obtain ⟨od, J, _⟩ := O.look
  have call_ : wpAny (model X.prog X.w) X.A (call (.ref f) [.ref a, u]) (PySem.W.CmpBack (DP X S pins σ F Q2)) X.xe s :=
    thn (run_at (us := [.ref a, u]) (vs := [.ref a, y]) (ds := [c, d]) hK G (hr.mono (Nat.le_succ _)) I.env0 tk I rl sr xc (.cons rfl (.cons ry .nil)) (.cons px (.cons py .nil)) hsp) fun u s' z => z.back_cmp
  obtain ⟨m0, hFr⟩ := I.fr
  have hm' : PySem.W.findIn X.K (.ref (S.ca j)) (PySem.dunder op.info.2) = some (some (.ref f)) := by rw [hm]; exact mt.at_
  have same : tyD S W d = some (.ref (S.ca j)) → wpAny (model X.prog X.w) X.A (binaryOp op (.ref a) u) (DP X S pins σ F Q2) X.xe s := fun ty =>
    PySem.W.binop_K hFr I.ok.mod.kin J (look_ty hK I rl ry py ty) (by rw [hK]; exact sf) hm' mt.fn call_
  cases py with
  | int i =>
    obtain ⟨t, rfl⟩ := ry
    exact PySem.W.ksp_binT (T := "int") hFr I.ok.mod.kin J rfl (by rw [hK]; exact sf) hm' mt.fn (by rw [hK]; exact hrc) hrp (by rw [hK]; exact h1) (by rw [hK]; exact h2) (by rw [hK]; exact sb) call_
  | ins hq r1 =>
    obtain rfl : _ = j := hrhs
    exact same rfl
  | ptr b =>
    have h3 : (match W b with | some (.ins c' _) => c' = j | _ => False) := hrhs
    cases e : W b with
    | none => rw [e] at h3; exact h3.elim
    | some m =>
      rw [e] at h3
      cases m with
      | ins c' _ =>
        obtain rfl : c' = j := h3
        exact same (by simp only [tyD, e])
      | _ => exact h3.elim
  | _ => exact hrhs.elim
def isInt (_ : Nat) (d : D) (_ : Wd) : Prop := match d with
  | .int _ => True
  | _ => False
theorem op_ownR {op : Operator} {M : Mts} {m : Str} {id : String} {B : Builtin} (slot : Slot "int" (PySem.dunder op.info.2) id) (entry : entryFor table id = some B) (args : ∀ a b, argsOk id ⟨[a, b], []⟩) (hd : Declines B)
    (hK : X.K = S.K) (tk : Takes X E) (hr : Room (k + 1) X.A) (hM : M.ok X S k m) (hm : dunderR op.info.2 = m) (hF : ∀ c, c ∈ M.l → OwnRF S c op.info.2) : OpD X S E (binaryOp op) (rOwnR M isInt) := by
  intro pins s σ H F sd W x y c d v u Q2 E2 I rl sr xc rx ry px py h
  obtain ⟨a, dx, vs, j, fs, ex, ea, rf, hj, hrhs, hsp⟩ := kIns.at rl py h
  subst ex
  obtain rfl : u = Value.ref a := ry
  obtain ⟨cl, f, mt, G⟩ := hM j hj
  rw [← hK] at cl mt
  obtain ⟨sf, sb, ⟨fo, ro, h1, h2, h3⟩, ⟨g0, hg0⟩⟩ := hF j hj
  obtain ⟨mA, O, _⟩ := ins_get I.hok ea
  obtain ⟨od, J, _⟩ := O.look
  have call_ : wpAny (model X.prog X.w) X.A (call (.ref f) [.ref a, v]) (PySem.W.CmpBack (DP X S pins σ F Q2)) X.xe s :=
    thn (run_at (us := [.ref a, v]) (vs := [.ref a, x]) (ds := [d, c]) hK G (hr.mono (Nat.le_succ _)) I.env0 tk I rl sr xc (.cons rfl (.cons rx .nil)) (.cons py (.cons px .nil)) hsp) fun u s' z => z.back_cmp
  cases px with
  | int i =>
    obtain ⟨t, rfl⟩ := rx
    exact bin_intL I.kIn J rfl (by rw [hK]; exact sf) slot entry args hd (by rw [hK]; exact sb) (by rw [hK]; exact h1) (by rw [hK]; exact h2) h3 (by rw [hK]; exact hg0) (by rw [hm]; exact mt.at_) mt.fn call_
  | _ => exact hrhs.elim
theorem op_ownC {op : CmpOp} {M : Mts} {m : Str} {rhs : Nat → D → Wd → Prop} (hop : ∀ v u, compareOp op v u = richCompare op v u) (hK : X.K = S.K) (tk : Takes X E) (hr : Room (k + 1) X.A) (hM : M.ok X S k m) (hm : (cmpInfo op).2.1 = m)
    (hF : ∀ c, c ∈ M.l → ∀ d W, rhs c d W → ∃ t, tyD S W d = some t ∧ PySem.W.notFirst S.K (S.ca c) t = true) : OpD X S E (compareOp op) (rOwn M rhs) := by
  intro pins s σ H F sd W x y c d v u Q2 E2 I rl sr xc rx ry px py h
  obtain ⟨a, dx, vs, j, fs, ex, ea, rf, hj, hrhs, hsp⟩ := kIns.at rl px h
  subst ex
  obtain rfl : v = Value.ref a := rx
  obtain ⟨cl, f, mt, G⟩ := hM j hj
  rw [← hK] at cl mt
  obtain ⟨t, ty, hn⟩ := hF j hj d W hrhs
  obtain ⟨mA, O, _⟩ := ins_get I.hok ea
  obtain ⟨od, J, _⟩ := O.look
  obtain ⟨m0, hFr⟩ := I.fr
  have call_ : wpAny (model X.prog X.w) X.A (call (.ref f) [.ref a, u]) (PySem.W.CmpBack (DP X S pins σ F Q2)) X.xe s :=
    thn (run_at (us := [.ref a, u]) (vs := [.ref a, y]) (ds := [c, d]) hK G (hr.mono (Nat.le_succ _)) I.env0 tk I rl sr xc (.cons rfl (.cons ry .nil)) (.cons px (.cons py .nil)) hsp) fun u s' z => z.back_cmp
  rw [hop]
  exact PySem.W.cmp_K hr.units0 hFr I.ok.mod.kin J (look_ty hK I rl ry py ty) (by rw [hK]; exact hn) (by rw [hm]; exact mt.at_) mt.fn call_
theorem op_ownCR {op : CmpOp} {M : Mts} {m : Str} {id : String} {B : Builtin} (hop : ∀ v u, compareOp op v u = richCompare op v u) (slot : Slot "int" (cmpInfo op).2.1 id) (entry : entryFor table id = some B) (args : ∀ a b, argsOk id ⟨[a, b], []⟩) (hd : Declines B)
    (hK : X.K = S.K) (tk : Takes X E) (hr : Room (k + 1) X.A) (hM : M.ok X S k m) (hm : (cmpInfo op).2.2 = m) (hF : ∀ c, c ∈ M.l → PySem.W.subIn S.K (.ref (S.ca c)) (.type "int") = some false) : OpD X S E (compareOp op) (rOwnR M isInt) := by
  intro pins s σ H F sd W x y c d v u Q2 E2 I rl sr xc rx ry px py h
  obtain ⟨a, dx, vs, j, fs, ex, ea, rf, hj, hrhs, hsp⟩ := kIns.at rl py h
  subst ex
  obtain rfl : u = Value.ref a := ry
  obtain ⟨cl, f, mt, G⟩ := hM j hj
  rw [← hK] at cl mt
  have sb := hF j hj
  obtain ⟨mA, O, _⟩ := ins_get I.hok ea
  obtain ⟨od, J, _⟩ := O.look
  have call_ : wpAny (model X.prog X.w) X.A (call (.ref f) [.ref a, v]) (PySem.W.CmpBack (DP X S pins σ F Q2)) X.xe s :=
    thn (run_at (us := [.ref a, v]) (vs := [.ref a, x]) (ds := [d, c]) hK G (hr.mono (Nat.le_succ _)) I.env0 tk I rl sr xc (.cons rfl (.cons rx .nil)) (.cons py (.cons px .nil)) hsp) fun u s' z => z.back_cmp
  rw [hop]
  cases px with
  | int i =>
    obtain ⟨t, rfl⟩ := rx
    exact cmp_intL hr.units0 I.kIn J rfl slot entry args hd (by rw [hK]; exact sb) (by rw [hm]; exact mt.at_) mt.fn call_
  | _ => exact hrhs.elim
end
end Mv
end
section
set_option Elab.async false
set_option linter.all false
set_option maxRecDepth 100000
set_option maxHeartbeats 4000000
namespace Mv
open PySem PySem.Spec L2
open Evl (Ex ex_l ex_t ex_rd)
open PyProof.Rows
section
variable {X : Cx} {S : Sy} {E : XS} {k : Nat}
def kI2 (c d : D) (q : Int → Int → Prop) : Prop := match c, d with
  | .int i, .int j => q i j
  | _, _ => False
def rInt2 (C : Int → Int → Prop) (g : Int → Int → D) : D2 := fun c d _ W Q _ => kI2 c d fun i j => C i j ∧ Q (g i j) W
theorem kI2.inv {c d : D} {q : Int → Int → Prop} (h : kI2 c d q) : ∃ i j, c = .int i ∧ d = .int j ∧ q i j := by
  cases c <;> first | exact h.elim | skip
  cases d <;> first | exact h.elim | exact ⟨_, _, rfl, rfl, h⟩
theorem od_int {f : Value → Value → Sem Value} {C : Int → Int → Prop} {g : Int → Int → Int} (h : OpR X f (rI C fun i j => .int (g i j))) : OpD X S E f (rInt2 C fun i j => .int (g i j)) :=
  OpR.od h fun σ H F sd W x y c d Q2 E2 rl sr xc px py q => by
    obtain ⟨i, j, rfl, rfl, hc, q⟩ := kI2.inv q
    cases px
    cases py
    exact ⟨i, j, rfl, rfl, hc, tkQ_of (Ex.refl _) rl (.int _) q⟩
theorem od_int0 {f : Value → Value → Sem Value} {g : Int → Int → Int} (h : OpR X f (rI0 fun i j => .int (g i j))) : OpD X S E f (rInt2 (fun _ _ => True) fun i j => .int (g i j)) :=
  OpR.od h fun σ H F sd W x y c d Q2 E2 rl sr xc px py q => by
    obtain ⟨i, j, rfl, rfl, hc, q⟩ := kI2.inv q
    cases px
    cases py
    exact ⟨i, j, rfl, rfl, tkQ_of (Ex.refl _) rl (.int _) q⟩
theorem od_cmp0 {f : Value → Value → Sem Value} {g : Int → Int → Bool} (h : OpR X f (rI0 fun i j => .bl (g i j))) : OpD X S E f (rInt2 (fun _ _ => True) fun i j => .bl (g i j)) :=
  OpR.od h fun σ H F sd W x y c d Q2 E2 rl sr xc px py q => by
    obtain ⟨i, j, rfl, rfl, hc, q⟩ := kI2.inv q
    cases px
    cases py
    exact ⟨i, j, rfl, rfl, tkQ_of (Ex.refl _) rl (.bl _) q⟩
def rCatSD : D2 := fun c d _ W Q _ => match c, d with
  | .str i, .str j => i.length + j.length ≤ sizeLine ∧ Q (.str (i ++ j)) W
  | _, _ => False
theorem od_catS : OpD X S E (binaryOp .Add) rCatSD := OpR.od op_add_str fun σ H F sd W x y c d Q2 E2 rl sr xc px py q => by
  cases px <;> first | exact q.elim | skip
  cases py <;> first | exact q.elim | skip
  exact ⟨_, _, rfl, rfl, q.1, tkQ_of (Ex.refl _) rl (.str _) q.2⟩
theorem Rps.atI {F : Hp} {vs : List V} {ds : List D} {i : Int} {d : D} (r : Rps S F vs ds) (h : atI ds i = some d) : ∃ v, atI vs i = some v ∧ Rp S F v d := by
  unfold L2.atI at h ⊢
  rw [r.length]
  cases e : ixN ds.length i with
  | none => rw [e] at h; cases h
  | some j =>
    rw [e] at h
    exact r.get h
theorem kSome.inv {α : Type} {o : Option α} {q : α → Prop} (h : kSome o q) : ∃ x, o = some x ∧ q x := by
  cases o with
  | none => exact h.elim
  | some x => exact ⟨x, rfl, h⟩
theorem IxD.or {r r' : D2} (h : IxD X S E r) (h' : IxD X S E r') : IxD X S E (fun c d sd W Q E2 => r c d sd W Q E2 ∨ r' c d sd W Q E2) :=
  fun va sl pins s σ H F sd W x y c d v u Q2 E2 a1 a2 a3 a4 a5 a6 a7 a8 q hs => q.elim (fun q => h va sl pins s σ H F sd W x y c d v u Q2 E2 a1 a2 a3 a4 a5 a6 a7 a8 q hs) (fun q => h' va sl pins s σ H F sd W x y c d v u Q2 E2 a1 a2 a3 a4 a5 a6 a7 a8 q hs)
theorem IxD.imp {r r' : D2} (h : IxD X S E r) (c : ∀ c d sd W Q E2, r' c d sd W Q E2 → r c d sd W Q E2) : IxD X S E r' :=
  fun va sl pins s σ H F sd W x y cc d v u Q2 E2 a1 a2 a3 a4 a5 a6 a7 a8 q hs => h va sl pins s σ H F sd W x y cc d v u Q2 E2 a1 a2 a3 a4 a5 a6 a7 a8 (c _ _ _ _ _ _ q) hs
theorem pd_ix {a b : Expr} {ta tb : DE} {r : D2} {pos : Pos} (hr : IxD X S E r) (ha : PD X S E a ta) (hb : PD X S E b tb) (hs : PlainIx b := by exact fun _ _ => rfl) : PD X S E (.Subscript a b pos) (dOp r ta tb) :=
  ⟨fun pins s σ H F sd W Q2 E2 I rl sr xc h => PyProof.Rows.Subscript_ (binD ha hb I rl sr xc h fun v u s2 x y c d H2 F2 W2 I2 e rl2 rx ry px py q =>
    thn (hr a b pins s2 σ H2 F2 sd W2 x y c d v u Q2 E2 I2 rl2 (sr.mono e) (XCv.mono e xc) rx ry px py q (hs _ _)) fun u s' z => z.back e)⟩
def rIxSq : D2 := fun c d _ W Q _ => match d with
  | .int i => kSeq W c fun ds => kSome (atI ds i) fun x => Q x W
  | _ => False
theorem ix_sq (hK : X.K = S.K) : IxD X S E rIxSq := by
  refine IxR.od (r := fun x y H Q => rIxL X.K x y H Q ∨ rIxT X.K x y H Q) (ix_list.or ix_tup) fun σ H F sd W x y c d Q2 E2 rl sr xc px py q => ?_
  cases py <;> first | exact q.elim | skip
  obtain ⟨a, vs, ds, rfl, hq, r, q⟩ := kSeq.at hK rl px q
  obtain ⟨z, hz, q⟩ := q.inv
  obtain ⟨v, hv, rv⟩ := r.atI hz
  rcases hq with hq | hq
  · exact .inl ⟨a, vs, _, v, rfl, rfl, hq, hv, tkQ_of (Ex.refl _) rl rv q⟩
  · exact .inr ⟨a, vs, _, v, rfl, rfl, hq, hv, tkQ_of (Ex.refl _) rl rv q⟩
def rIxStr : D2 := fun c d _ W Q _ => match c, d with
  | .str z, .int i => z.length ≤ sizeLine ∧ kSome (atI z.cps.toList i) fun ch => Q (.str ⟨#[ch]⟩) W
  | _, _ => False
theorem ix_st : IxD X S E rIxStr := IxR.od ix_str fun σ H F sd W x y c d Q2 E2 rl sr xc px py q => by
  cases px <;> first | exact q.elim | skip
  cases py <;> first | exact q.elim | skip
  obtain ⟨h1, q⟩ := q
  obtain ⟨z, hz, q⟩ := q.inv
  exact ⟨_, _, z, rfl, rfl, h1, hz, tkQ_of (Ex.refl _) rl (.str _) q⟩
def tIx : D2 := fun c d sd W Q E2 => match c with
  | .str _ => rIxStr c d sd W Q E2
  | _ => rIxSq c d sd W Q E2
theorem ix_d (hK : X.K = S.K) : IxD X S E tIx := ((ix_st (X := X) (S := S) (E := E)).or (ix_sq hK)).imp fun c d sd W Q E2 q => by
  cases c <;> first | exact .inl q | exact .inr q
def cutD (xs : List D) (lo hi : Option Int) : List D := (xs.drop (HT.sIx xs.length 0 lo)).take (HT.sIx xs.length xs.length hi - HT.sIx xs.length 0 lo)
theorem Rps.take {F : Hp} : ∀ (n : Nat) {vs : List V} {ds : List D}, Rps S F vs ds → Rps S F (vs.take n) (ds.take n)
  | 0, _, _, _ => by simp only [List.take_zero]; exact .nil
  | _ + 1, _, _, .nil => .nil
  | n + 1, _, _, .cons h t => .cons h (Rps.take n t)
theorem Rps.cut {F : Hp} {vs : List V} {ds : List D} (lo hi : Option Int) (r : Rps S F vs ds) : Rps S F (cutV vs lo hi) (cutD ds lo hi) := by
  unfold cutV cutD
  rw [r.length]
  exact (Rps.drop _ r).take _
abbrev DO := SD → Wd → (Option Int → Wd → Prop) → QX → Prop
structure POd (X : Cx) (S : Sy) (E : XS) (e : Option Expr) (t : DO) : Prop where
  run : ∀ (pins : List (Addr × Obj)) (s : Shared) (σ : L2.St) (H F : Hp) (sd : SD) (W : Wd) (Q2 : Option Int → Wd → Prop) (E2 : QX), Inv X pins σ H s → Rel S F W H → SRel S F σ sd → XCv S F E2 E → t sd W Q2 E2 →
    wpAny (model X.prog X.w) X.A (evalPart e X.env) (fun u s' => ∃ o H' F' W', Inv X pins σ H' s' ∧ IsPart u o ∧ Ex F F' ∧ Rel S F' W' H' ∧ Q2 o W') X.xe s
def dNoPart : DO := fun _ W Q _ => Q none W
def dPart (t : DE) : DO := fun sd W Q E2 => t sd W (fun d W1 => match d with
  | .int i => Q (some i) W1
  | _ => False) E2
theorem pod_none : POd X S E none dNoPart := ⟨fun pins s σ H F sd W Q2 E2 I rl sr xc h => by
  rw [evalPart_none]
  exact wpAny_pure ⟨none, H, F, W, I, .none, Ex.refl _, rl, h⟩⟩
theorem pod_some {e : Expr} {t : DE} (he : PD X S E e t) : POd X S E (some e) (dPart t) := ⟨fun pins s σ H F sd W Q2 E2 I rl sr xc h => by
  rw [evalPart_some]
  refine thn (he.run pins s σ H F sd W _ E2 I rl sr xc h) fun u s1 ⟨x, H1, F1, d, W1, I1, r1, e1, rl1, p1, q1⟩ => ?_
  cases p1 <;> first | exact q1.elim | skip
  obtain ⟨t, rfl⟩ := r1
  exact ⟨some _, H1, F1, W1, I1, .int _ t, e1, rl1, q1⟩⟩
def dSl (te : DE) (tl th : DO) : DE := fun sd W Q E2 => te sd W (fun c W1 => tl sd W1 (fun lo W2 => th sd W2 (fun hi W3 => match c with
  | .str z => z.length ≤ sizeLine ∧ Q (.str (cutS z lo hi)) W3
  | .lst ds => Q (.lst (cutD ds lo hi)) W3
  | .frl ds => Q (.lst (cutD ds lo hi)) W3
  | .tup ds => ¬ (HT.sIx ds.length 0 lo = 0 ∧ HT.sIx ds.length ds.length hi = ds.length) ∧ Q (.tup (cutD ds lo hi)) W3
  | .ptr a => (match W3 a with
    | some (.lst ds) => Q (.lst (cutD ds lo hi)) W3
    | _ => False)
  | _ => False) E2) E2) E2
theorem pd_slice {e : Expr} {lo hi : Option Expr} {te : DE} {tl th : DO} {pos p2 : Pos} (hK : X.K = S.K) (he : PD X S E e te) (hl : POd X S E lo tl) (hu : POd X S E hi th) : PD X S E (.Subscript e (.Slice lo hi none p2) pos) (dSl te tl th) := by
  refine ⟨fun pins s σ H F sd W Q2 E2 I rl sr xc h => ?_⟩
  refine PyProof.Rows.Subscript_ (thn (he.run pins s σ H F sd W _ E2 I rl sr xc h) fun v s1 ⟨x, H1, F1, c, W1, I1, r1, e1, rl1, p1, q1⟩ => ?_)
  refine wpAny_Slice (thn (hl.run pins s1 σ H1 F1 sd W1 _ E2 I1 rl1 (sr.mono e1) (XCv.mono e1 xc) q1) fun vl s2 ⟨l, H2, F2, W2, I2, pl, e2, rl2, q2⟩ => thn (hu.run pins s2 σ H2 F2 sd W2 _ E2 I2 rl2 (sr.mono (e1.trans e2)) (XCv.mono (e1.trans e2) xc) q2) fun vu s3 ⟨u, H3, F3, W3, I3, pu, e3, rl3, q3⟩ => ?_)
  rw [evalPart_none]
  refine wpAny_pure ?_
  have I4 : Inv X pins σ H3 { s3 with heap := s3.heap.push { cls := .type "slice", data := .fields #[vl, vu, .none] } } := I3.kept (t' := s3.toks) fun b ob q => Heap.get?_push_of_some _ q
  have p3 : Rp S F3 x c := p1.mono (e2.trans e3)
  have fin : ∀ {r : V → Option Int → Option Int → Hp → VK → Prop}, SlR X r → r x l u H3 (tkQ S F3 Q2) → ∃ T id, typeLookup (.type T) "__getitem__" = pure (some (.builtin id)) ∧ ({ s3 with heap := s3.heap.push { cls := .type "slice", data := .fields #[vl, vu, .none] } } : Shared).TypeIs v T ∧ wpAny (model X.prog X.w) X.A (getItem v (.ref s3.heap.objs.size)) (EP X pins σ (tkQ S F3 Q2)) X.xe { s3 with heap := s3.heap.push { cls := .type "slice", data := .fields #[vl, vu, .none] } } := fun {r} hr q =>
    hr pins _ σ H3 x v vl vu l u s3.heap.objs.size _ I4 r1 (Heap.IsSliceOf.new ..) pl pu q
  have go : ∃ T id, typeLookup (.type T) "__getitem__" = pure (some (.builtin id)) ∧ ({ s3 with heap := s3.heap.push { cls := .type "slice", data := .fields #[vl, vu, .none] } } : Shared).TypeIs v T ∧ wpAny (model X.prog X.w) X.A (getItem v (.ref s3.heap.objs.size)) (EP X pins σ (tkQ S F3 Q2)) X.xe { s3 with heap := s3.heap.push { cls := .type "slice", data := .fields #[vl, vu, .none] } } := by
    cases p3 with
    | str z => exact fin sl_str ⟨z, rfl, q3.1, tkQ_of (Ex.refl _) rl3 (.str _) q3.2⟩
    | lst hq r => exact fin sl_list ⟨_, _, rfl, SqL.of (rl3.sub _ _ hq), fun p hp => tkQ_of (Ex.new (rl3.nf hp)) (rl3.newF hp) (.lst upd_same ((r.cut l u).mono (Ex.new (rl3.nf hp)))) q3⟩
    | frl hq r => exact fin sl_list ⟨_, _, rfl, by rw [hK]; exact ex_l rl3.sub hq, fun p hp => tkQ_of (Ex.new (rl3.nf hp)) (rl3.newF hp) (.lst upd_same ((r.cut l u).mono (Ex.new (rl3.nf hp)))) q3⟩
    | tup hq r => exact fin sl_tup ⟨_, _, rfl, by rw [hK]; exact ex_t rl3.sub hq.1, by rw [r.length]; exact q3.1, fun p hp => tkQ_of (Ex.new (rl3.nf hp)) (rl3.newF hp) (.tup (TpU.new upd_same) ((r.cut l u).mono (Ex.new (rl3.nf hp)))) q3.2⟩
    | ptr a =>
      have h2 : (match W3 a with | some (.lst ds) => Q2 (.lst (cutD ds l u)) W3 | _ => False) := q3
      cases e : W3 a with
      | none => rw [e] at h2; exact h2.elim
      | some m =>
        rw [e] at h2
        cases m with
        | lst ds =>
          obtain ⟨_, vs, ea, r⟩ := rl3.obj a _ e
          exact fin sl_list ⟨_, _, rfl, SqL.of ea, fun p hp => tkQ_of (Ex.new (rl3.nf hp)) (rl3.newF hp) (.lst upd_same ((r.cut l u).mono (Ex.new (rl3.nf hp)))) h2⟩
        | _ => exact h2.elim
    | _ => exact q3.elim
  obtain ⟨T, id, hT, ht, hg⟩ := go
  show wpAny (model X.prog X.w) X.A (subscriptTail e (.Slice lo hi none p2) v (.ref s3.heap.objs.size)) (DP X S pins σ F Q2) X.xe { s3 with heap := s3.heap.push { cls := .type "slice", data := .fields #[vl, vu, .none] } }
  exact thn (tail_any (ops := [.ref s3.heap.objs.size, v]) ht hT hg (by with_unfolding_all rfl)) fun u s' z => (EP.tk z).back (e1.trans (e2.trans e3))
end
end Mv
end
section
set_option Elab.async false
set_option linter.all false
set_option maxRecDepth 100000
set_option maxHeartbeats 4000000
namespace Mv
open PySem PySem.Spec L2
open Evl (Ex ex_l ex_t ex_rd)
open PyProof.Rows
section
variable {X : Cx} {S : Sy} {E : XS} {k : Nat}
inductive TK where
  | non | bl | int | str | tup | lst | dct | own (c : Nat)
  deriving DecidableEq
def tkD (W : Wd) : D → Option TK
  | .non => some .non
  | .bl _ => some .bl
  | .int _ => some .int
  | .str _ => some .str
  | .tup _ => some .tup
  | .lst _ => some .lst
  | .dK _ => some .dct
  | .dT _ => none
  | .ins c _ => some (.own c)
  | .ptr a => (match W a with
    | some (.lst _) => some .lst
    | some (.dK _) => some .dct
    | some (.dT _) => some .dct
    | some (.ins c _) => some (.own c)
    | some (.lkK ..) => none
    | some (.lkT ..) => none
    | none => none)
  | _ => none
def tkV (S : Sy) : TK → Value
  | .non => .type "NoneType"
  | .bl => .type "bool"
  | .int => .type "int"
  | .str => .type "str"
  | .tup => .type "tuple"
  | .lst => .type "list"
  | .dct => .type "dict"
  | .own c => .ref (S.ca c)
structure KitF (K : PySem.W.Frag) (C : Addr) : Prop where
  cl : Cls K C
  ha : PySem.W.findIn K (.ref C) "__class__" = some (some (.builtin "object.__class__"))
  hm : PySem.W.mroIn K C (.type "object") = some true
structure KitG (K : PySem.W.Frag) : Prop where
  hn : PySem.W.specialIn K (.builtin "object.__class__") "__get__" = some (some (.builtin "getset_descriptor.__get__"))
  ht : PySem.W.takesIn K (.builtin "object.__class__") = some true
theorem CalD.or {f : Value} {r r' : DC} (h : CalD X S f r) (h' : CalD X S f r') : CalD X S f (fun ds W Q => r ds W Q ∨ r' ds W Q) :=
  fun pins s σ H vs us Q I rv ⟨F, W, ds, Q2, rl, rp, qc, q⟩ => q.elim (fun q => h pins s σ H vs us Q I rv ⟨F, W, ds, Q2, rl, rp, qc, q⟩) (fun q => h' pins s σ H vs us Q I rv ⟨F, W, ds, Q2, rl, rp, qc, q⟩)
theorem CalD.imp {f : Value} {r r' : DC} (h : CalD X S f r) (c : ∀ ds W Q, r' ds W Q → r ds W Q) : CalD X S f r' :=
  fun pins s σ H vs us Q I rv ⟨F, W, ds, Q2, rl, rp, qc, q⟩ => h pins s σ H vs us Q I rv ⟨F, W, ds, Q2, rl, rp, qc, c _ _ _ q⟩
def dCB (r : DC) (t : DA) : DE := fun sd W Q E2 => t sd W (fun ds W1 => r ds W1 Q) E2
theorem dCB_up {r : DC} {t : DA} {te : TE} {e : Expr} (h : PE X e te) (ht : ∀ σ H Q, tCB (upR S r) (upA S E t) σ H Q → te σ H Q) : PD X S E e (dCB r t) :=
  PE.pd h fun σ H F sd W Q2 E2 rl sr xc q => ht _ _ _ ⟨F, sd, W, _, E2, rl, sr, fun F1 vs ds W1 H1 e1 r1 p1 q1 => ⟨F1, W1, ds, Q2, r1, p1, fun F2 v d W2 H2 e2 r2 p2 q2 => tkQ_of (e1.trans e2) r2 p2 q2, q1⟩, xc, q⟩
theorem pd_callB {x : Str} {p pos : Pos} {e : Expr} {es : List Expr} {t : DA} {id : String} {r : DC} (hc : CalD X S (.builtin id) r) (ha : PAd X S E (e :: es) t) (hm : X.mg x = none) (hg : Gl X x := by rfl) (hv : bootBuiltins x = some (.builtin id) := by kernel_rfl) (hn : x ≠ "__name__" := by decide) (hdb : (x == ("__debug__" : Str)) = false := by decide)
    (he : starEach (e :: es) X.env = (false, eval e X.env) :: starEach es X.env := by rfl) (hpl : (backTo pos (starEach es X.env)).any (·.1) = false := by rfl) : PD X S E (.Call (.Name x p) (e :: es) [] pos) (dCB r t) :=
  dCB_up (pe_callB hc hg hm hv ha.pa hn hdb he hpl) fun _ _ _ z => z
theorem pd_callTy {x : Str} {p pos : Pos} {e : Expr} {es : List Expr} {t : DA} {T : String} {r : DC} (hc : CalD X S (.type T) r) (ha : PAd X S E (e :: es) t) (hm : X.mg x = none) (hg : Gl X x := by rfl) (hv : bootBuiltins x = some (.type T) := by kernel_rfl) (hn : x ≠ "__name__" := by decide) (hdb : (x == ("__debug__" : Str)) = false := by decide)
    (he : starEach (e :: es) X.env = (false, eval e X.env) :: starEach es X.env := by rfl) (hpl : (backTo pos (starEach es X.env)).any (·.1) = false := by rfl) : PD X S E (.Call (.Name x p) (e :: es) [] pos) (dCB r t) :=
  dCB_up (pe_callTy hc hg hm hv ha.pa hn hdb he hpl) fun _ _ _ z => z
def rIsiD (u : D) (f : TK → Option Bool) : DC := fun ds W Q => match ds with
  | [x, c] => c = u ∧ kSome (tkD W x) fun t => kSome (f t) fun b => Q (.bl b) W
  | _ => False
structure IsiF (S : Sy) (u : Value) (f : TK → Option Bool) : Prop where
  kg : KitG S.K
  ok : ∀ t b, f t = some b → PySem.W.kitOne S.K (tkV S t) u = some b ∧ ∀ c, t = .own c → KitF S.K (S.ca c)
theorem Rps.two {F : Hp} {vs : List V} {x y : D} (r : Rps S F vs [x, y]) : ∃ v u, vs = [v, u] ∧ Rp S F v x ∧ Rp S F u y := by
  cases r with
  | cons p t =>
    obtain ⟨u, rfl, q⟩ := t.one
    exact ⟨_, u, rfl, p, q⟩
def rLenD : DC := fun ds W Q => match ds with
  | [.str z] => z.length ≤ sizeLine ∧ Q (.int z.length) W
  | [.dK kvs] => Q (.int kvs.length) W
  | [.ptr a] => (match W a with
    | some (.lst xs) => Q (.int xs.length) W
    | some (.dK kvs) => Q (.int kvs.length) W
    | _ => False)
  | [d] => kSeq W d fun xs => Q (.int xs.length) W
  | _ => False
theorem call_lenDR : CallR X (.builtin "len") (fun xs H Q => ∃ a kvs, xs = [V.ref a] ∧ Rd H a (.dK kvs) ∧ Q (.int kvs.length) H) := by
  intro pins s σ H xs us Q I r h
  obtain ⟨a, kvs, rfl, ha, q⟩ := h
  obtain ⟨u, rfl, ru⟩ := vals1 r
  cases ru
  exact d_len I ha fun t s' I' => ⟨.int kvs.length, H, I', ⟨t, rfl⟩, q⟩
theorem cl_len (hK : X.K = S.K) : CalD X S (.builtin "len") rLenD := by
  refine (CalD.or (CalD.of (rd := fun ds W Q => match ds with
      | [.str z] => z.length ≤ sizeLine ∧ Q (.int z.length) W
      | [d] => kSeq W d fun xs => Q (.int xs.length) W
      | _ => False) call_len fun H F W vs ds Q2 Q rl rp qc q => ?_) (CalD.of (rd := fun ds W Q => match ds with
      | [.dK kvs] => Q (.int kvs.length) W
      | [.ptr a] => (match W a with
        | some (.dK kvs) => Q (.int kvs.length) W
        | _ => False)
      | _ => False) call_lenDR fun H F W vs ds Q2 Q rl rp qc q => ?_)).imp fun ds W Q q => ?_
  · match ds, q with
    | [d], q =>
      obtain ⟨v, rfl, p⟩ := rp.one
      have sq : kSeq W d (fun xs => Q2 (.int xs.length) W) → ∃ x n, [v] = [x] ∧ LenV X.K x H n ∧ Q (.int n) H := fun q => by
        obtain ⟨a, us, es, rfl, hq, r, q⟩ := kSeq.at hK rl p q
        refine ⟨_, us.length, rfl, ?_, by rw [r.length]; exact qc _ _ _ _ _ (Ex.refl _) rl (.int _) q⟩
        rcases hq with hq | hq
        · exact .inl ⟨us, hq, rfl⟩
        · exact .inr ⟨us, hq, rfl⟩
      cases d with
      | str z =>
        cases p
        exact ⟨_, _, rfl, ⟨q.1, rfl⟩, qc _ _ _ _ _ (Ex.refl _) rl (.int _) q.2⟩
      | _ => exact sq q
    | x :: _ :: _, q => cases x <;> exact (show False from q).elim
  · match ds, q with
    | [.dK kvs], q =>
      obtain ⟨v, rfl, p⟩ := rp.one
      cases p with
      | dK hq r => exact ⟨_, _, rfl, .inr ⟨_, rl.sub _ _ hq⟩, by rw [r.length]; exact qc _ _ _ _ _ (Ex.refl _) rl (.int _) q⟩
    | [.ptr a], q =>
      obtain ⟨v, rfl, p⟩ := rp.one
      cases p
      cases e : W a with
      | none => simp only [e] at q
      | some m =>
        simp only [e] at q
        cases m with
        | dK kvs =>
          obtain ⟨_, vs, e1, r⟩ := rl.obj a _ e
          exact ⟨_, _, rfl, .inl e1, by rw [r.length]; exact qc _ _ _ _ _ (Ex.refl _) rl (.int _) q⟩
        | _ => exact q.elim
  · match ds, q with
    | [d], q =>
      cases d with
      | dK kvs => exact .inr q
      | ptr a =>
        have q' : (match W a with | some (.lst xs) => Q (.int xs.length) W | some (.dK kvs) => Q (.int kvs.length) W | _ => False) := q
        cases e : W a with
        | none => rw [e] at q'; exact q'.elim
        | some m =>
          rw [e] at q'
          cases m with
          | lst xs => exact .inl (by show kSeq W (.ptr a) _; simp only [kSeq, e]; exact q')
          | dK kvs => exact .inr (by simp only [e]; exact q')
          | _ => exact q'.elim
      | _ => exact .inl q
    | x :: _ :: _, q => cases x <;> exact (show False from q).elim
def rAbsD : DC := fun ds W Q => match ds with
  | [.int i] => Q (.int (if i < 0 then -i else i)) W
  | _ => False
theorem cl_abs : CalD X S (.builtin "abs") rAbsD := CalD.of call_abs fun H F W vs ds Q2 Q rl rp qc q => by
  match ds, q with
  | [.int i], q =>
    obtain ⟨v, rfl, p⟩ := rp.one
    cases p
    exact ⟨i, rfl, qc _ _ _ _ _ (Ex.refl _) rl (.int _) q⟩
def rIntD : DC := fun ds W Q => match ds with
  | [.int i] => Q (.int i) W
  | [.bl b] => Q (.int (if b then 1 else 0)) W
  | [.str z] => z.length ≤ 640 ∧ kSome (PySem.intText? z) fun n => Q (.int n) W
  | _ => False
theorem cl_int : CalD X S (.type "int") rIntD := by
  refine (CalD.or (CalD.of (rd := fun ds W Q => match ds with
      | [.int i] => Q (.int i) W
      | [.bl b] => Q (.int (if b then 1 else 0)) W
      | _ => False) call_int1 fun H F W vs ds Q2 Q rl rp qc q => ?_) (CalD.of (rd := fun ds W Q => match ds with
      | [.str z] => z.length ≤ 640 ∧ kSome (PySem.intText? z) fun n => Q (.int n) W
      | _ => False) call_int_str fun H F W vs ds Q2 Q rl rp qc q => ?_)).imp fun ds W Q q => ?_
  · match ds, q with
    | [.int i], q =>
      obtain ⟨v, rfl, p⟩ := rp.one
      cases p
      exact .inl ⟨i, rfl, qc _ _ _ _ _ (Ex.refl _) rl (.int _) q⟩
    | [.bl b], q =>
      obtain ⟨v, rfl, p⟩ := rp.one
      cases p
      exact .inr ⟨b, rfl, qc _ _ _ _ _ (Ex.refl _) rl (.int _) q⟩
  · match ds, q with
    | [.str z], q =>
      obtain ⟨v, rfl, p⟩ := rp.one
      cases p
      obtain ⟨h1, q⟩ := q
      obtain ⟨n, hn, q⟩ := q.inv
      exact ⟨z, n, rfl, hn, h1, qc _ _ _ _ _ (Ex.refl _) rl (.int _) q⟩
  · match ds, q with
    | [.int i], q => exact .inl q
    | [.bl i], q => exact .inl q
    | [.str i], q => exact .inr q
def rListD : DC := fun ds W Q => match ds with
  | [d] => kSeq W d fun xs => Q (.lst xs) W
  | _ => False
theorem cl_list (hK : X.K = S.K) : CalD X S (.type "list") rListD := CalD.of call_list_of fun H F W vs ds Q2 Q rl rp qc q => by
  match ds, q with
  | [d], q =>
    obtain ⟨v, rfl, p⟩ := rp.one
    obtain ⟨a, us, es, rfl, hq, r, q⟩ := kSeq.at hK rl p q
    exact ⟨a, us, rfl, hq, fun l hl => qc _ _ _ _ _ (Ex.new (rl.nf hl)) (rl.newF hl) (.lst upd_same (r.mono (Ex.new (rl.nf hl)))) q⟩
end
end Mv
end
section
set_option Elab.async false
set_option linter.all false
set_option maxRecDepth 100000
set_option maxHeartbeats 4000000
namespace Mv
open PySem PySem.Spec L2
open Evl (Ex ex_l ex_t ex_rd)
open PyProof.Rows
section
variable {X : Cx} {S : Sy} {E : XS} {k : Nat} {tg : Expr}
structure ItOk (S : Sy) (F : Hp) (J : It) (l : LiD) : Prop where
  go : ∀ i F' H W, i < l.items.length → Ex F F' → Rel S F' W H → l.ok W → J.go i H
  yl : ∀ i F' H W x H', i < l.items.length → Ex F F' → Rel S F' W H → l.ok W → J.yld i H x H' → ∃ F2 d, Ex F' F2 ∧ Rel S F2 W H' ∧ l.items[i]? = some d ∧ Rp S F2 x d
  st : ∀ F' H W, Ex F F' → Rel S F' W H → l.ok W → J.stop l.items.length H
theorem ItOk.mono {F F' : Hp} {J : It} {l : LiD} (h : ItOk S F J l) (e : Ex F F') : ItOk S F' J l :=
  ⟨fun i F2 H W a b => h.go i F2 H W a (e.trans b), fun i F2 H W x H' a b => h.yl i F2 H W x H' a (e.trans b), fun F2 H W b => h.st F2 H W (e.trans b)⟩
structure PId (X : Cx) (S : Sy) (E : XS) (tg iter : Expr) (ti : DI) : Prop where
  run : ∀ (pins : List (Addr × Obj)) (s : Shared) (σ : L2.St) (H F : Hp) (sd : SD) (W : Wd) (Q2 : LiD → Wd → Prop) (E2 : QX), Inv X pins σ H s → Rel S F W H → SRel S F σ sd → XCv S F E2 E → ti sd W Q2 E2 →
    wpAny (model X.prog X.w) X.A (eval iter X.env) (fun v s1 => wpAny (model X.prog X.w) X.A (pyIter v) (PIE X pins σ tg fun J H' => ∃ F' W' l, Ex F F' ∧ Rel S F' W' H' ∧ ItOk S F' J l ∧ Q2 l W') X.xe s1) X.xe s
def dFor (ti : DI) (g : DG) (tb : DS) : DS := fun D sd W E2 => ti sd W (fun l W1 => loopD l.ok g tb D E2 l.items sd W1) E2
def upG (S : Sy) (t : DG) : TG := fun x σ H Q => ∃ F sd W d Q2, Rel S F W H ∧ SRel S F σ sd ∧ Rp S F x d ∧ SCv S F Q2 Q ∧ t d sd W Q2
theorem PGd.pg {t : DG} (h : PGd X S tg t) : PG X tg (upG S t) := ⟨fun pins s σ H v u Q I rv ⟨F, sd, W, d, Q2, rl, sr, rp, qc, q⟩ =>
  thn (h.run pins s σ H F sd W v d u Q2 I rl sr rv rp q) fun _ s' ⟨σ', H', F', sd', W', I', e, rl', sr', q'⟩ => ⟨σ', H', I', qc F' σ' sd' W' H' e rl' sr' q'⟩⟩
theorem drop_of {α : Type} {xs : List α} {i : Nat} {d : α} (h : xs[i]? = some d) : xs.drop i = d :: xs.drop (i + 1) := by
  rw [List.getElem?_eq_some_iff] at h
  obtain ⟨h1, h2⟩ := h
  rw [List.drop_eq_getElem_cons h1, h2]
theorem psd_for {iter : Expr} {body : List Stmt} {ti : DI} {g : DG} {tb : DS} {pos : Pos} (hp : PassesOwn (model X.prog X.w) X.A X.env X.xe) (hc : X.calm = true) (hi : PId X S E tg iter ti) (hg : PGd X S tg g) (hb : PBd X S E body tb)
    (hs : ∀ x, foldedSetIterable iter X.env x = pure x := by intro _; rfl) : PSd X S E (.For tg iter body [] pos) (dFor ti g tb) := by
  refine ⟨fun pins s σ H F sd W D2 E2 I rl sr xc h => ?_⟩
  have hi' : PI X tg iter (fun σ' H0 R => σ' = σ ∧ H0 = H ∧ ∀ J H', (∃ F' W' l, Ex F F' ∧ Rel S F' W' H' ∧ ItOk S F' J l ∧ loopD l.ok g tb D2 E2 l.items sd W') → R J H') := ⟨fun pins' s' σ' H0 R I' q => by
    obtain ⟨rfl, rfl, q⟩ := q
    refine thn (hi.run pins' s' σ' H0 F sd W _ E2 I' rl sr xc h) fun v s1 z => thn z fun itv s2 z => ?_
    obtain ⟨it, fp, tn, J, H', e, I2, T, t0, fo, r⟩ := z
    exact ⟨it, fp, tn, J, H', e, I2, T, t0, fo, q J H' r⟩⟩
  refine thn ((ps_for (pos := pos) hp hc hi' hg.pg hb.pss hs).run pins s σ H (tkE S F D2) I ⟨rfl, rfl, fun J H' ⟨F0, W0, l, e0, rl0, io, q0⟩ => ?_⟩) fun f s' z => SP.tk z
  refine ⟨fun i m σ1 H1 => ∃ F1 sd1 W1, Ex F0 F1 ∧ Rel S F1 W1 H1 ∧ SRel S F1 σ1 sd1 ∧ m = l.items.length - i ∧ i ≤ l.items.length ∧ loopD l.ok g tb D2 E2 (l.items.drop i) sd1 W1, ⟨_, F0, sd, W0, Ex.refl _, rl0, sr.mono e0, rfl, Nat.zero_le _, q0⟩, ?_⟩
  rintro i m σ1 H1 ⟨F1, sd1, W1, e1, rl1, sr1, rfl, hi1, q1⟩
  have ok1 := q1.ok
  by_cases hlt : i < l.items.length
  · refine .inr ⟨io.go i F1 H1 W1 hlt e1 rl1 ok1, fun σ' H' => ∃ F2 sd2 W2, Ex F0 F2 ∧ Rel S F2 W2 H' ∧ SRel S F2 σ' sd2 ∧ loopD l.ok g tb D2 E2 (l.items.drop (i + 1)) sd2 W2, fun σ' H' ⟨F2, sd2, W2, a, b, c, d⟩ => ⟨l.items.length - (i + 1), by omega, F2, sd2, W2, a, b, c, rfl, hlt, d⟩, fun x H' y => ?_⟩
    obtain ⟨F2, d, e2, rl2, hd, px⟩ := io.yl i F1 H1 W1 x H' hlt e1 rl1 ok1 y
    rw [drop_of hd] at q1
    obtain ⟨_, q1⟩ := q1
    refine ⟨F2, sd1, W1, d, _, rl2, sr1.mono e2, px, fun F3 σ3 sd3 W3 H3 e3 rl3 sr3 q3 => ?_, q1⟩
    have e03 : Ex F0 F3 := e1.trans (e2.trans e3)
    have eF3 : Ex F F3 := e0.trans e03
    have nx : ∀ F' σ' sd' W' H', Ex F3 F' → Rel S F' W' H' → SRel S F' σ' sd' → loopD l.ok g tb D2 E2 (l.items.drop (i + 1)) sd' W' → ∃ F2 sd2 W2, Ex F0 F2 ∧ Rel S F2 W2 H' ∧ SRel S F2 σ' sd2 ∧ loopD l.ok g tb D2 E2 (l.items.drop (i + 1)) sd2 W2 :=
      fun F' σ' sd' W' H' e r sr q => ⟨F', sd', W', e03.trans e, r, sr, q⟩
    exact ⟨F3, sd3, W3, { D2 with nx := loopD l.ok g tb D2 E2 (l.items.drop (i + 1)), ct := loopD l.ok g tb D2 E2 (l.items.drop (i + 1)), bk := D2.nx }, E2, rl3, sr3, ⟨nx, fun F' v d W' H' e r p q => ⟨F', d, W', eF3.trans e, r, p, q⟩, fun F' σ' sd' W' H' e r sr q => ⟨F', sd', W', eF3.trans e, r, sr, q⟩, nx⟩, XCv.mono eF3 xc, q3⟩
  · have hi2 : i = l.items.length := by omega
    subst hi2
    rw [List.drop_length] at q1
    exact .inl ⟨io.st F1 H1 W1 e1 rl1 ok1, F1, sd1, W1, e0.trans e1, rl1, sr1, q1.2⟩
def chD (z : Str) : List D := z.cps.toList.map fun c => .str ⟨#[c]⟩
def kLi (W : Wd) (d : D) (q : LiD → Prop) : Prop := match d with
  | .str z => q ⟨chD z, none⟩
  | .tup ds => q ⟨ds, none⟩
  | .lst ds => q ⟨ds, none⟩
  | .ptr a => (match W a with
    | some (.lst ds) => q ⟨ds, some (a, .lst ds)⟩
    | _ => False)
  | _ => False
def iSq (t : DE) : DI := fun sd W Q E2 => t sd W (fun d W1 => kLi W1 d fun l => Q l W1) E2
theorem pid_seq {e : Expr} {t : DE} (hK : X.K = S.K) (he : PD X S E e t) : PId X S E tg e (iSq t) := by
  refine ⟨fun pins s σ H F sd W Q2 E2 I rl sr xc h => ?_⟩
  refine thn (he.run pins s σ H F sd W _ E2 I rl sr xc h) fun v s1 ⟨x, H1, F1, d, W1, I1, r1, e1, rl1, p1, q1⟩ => ?_
  have lst : ∀ {a vs l}, x = .ref a → SqL X.K H1 a vs → Q2 l W1 → ItOk S F1 (Itl X.K a) l → wpAny (model X.prog X.w) X.A (pyIter v) (PIE X pins σ tg fun J H' => ∃ F' W' l, Ex F F' ∧ Rel S F' W' H' ∧ ItOk S F' J l ∧ Q2 l W') X.xe s1 := fun {a vs l} ex hq q io => by
    subst ex
    obtain rfl : v = Value.ref a := r1
    obtain ⟨its, rv, p, hz⟩ := I1.list hq
    refine wpAny_pyIter_list p.isList ?_
    refine ⟨s1.heap.objs.size, [s1.heap.objs.size], _, _, H1, rfl, I1.kept (t' := s1.toks) fun b o e => Heap.get?_push_of_some _ e, turn_list a _, ⟨_, Heap.get?_push_size _ rfl, rfl, rfl⟩, fun b hb => ?_, F1, W1, l, e1, rl1, io, q⟩
    have e : b = s1.heap.objs.size := by simpa using hb
    subst e
    exact I1.fpOk (Nat.le_refl _) (I1.hok.fresh (Nat.le_refl _))
  cases p1 with
  | ptr a =>
    have q2 : (match W1 a with | some (.lst ds) => Q2 ⟨ds, some (a, .lst ds)⟩ W1 | _ => False) := q1
    cases e : W1 a with
    | none => rw [e] at q2; exact q2.elim
    | some m =>
      rw [e] at q2
      cases m with
      | lst ds =>
        obtain ⟨_, vs, ea, r⟩ := rl1.obj a _ e
        refine lst rfl (SqL.of ea) q2 ⟨fun i F' H W hi e rl ok => ?_, fun i F' H W x H' hi e rl ok y => ?_, fun F' H W e rl ok => ?_⟩
        · obtain ⟨_, vs, ea, r⟩ := rl.obj a _ ok
          exact ⟨vs, vs[i]'(by rw [r.length]; exact hi), SqL.of ea, List.getElem?_eq_getElem _⟩
        · obtain ⟨_, vs, ea, r⟩ := rl.obj a _ ok
          obtain ⟨rfl, y⟩ := y
          obtain ⟨u, hu, ru⟩ := r.get (List.getElem?_eq_getElem hi)
          have := y vs (SqL.of ea)
          rw [hu] at this
          cases this
          exact ⟨F', _, Ex.refl _, rl, List.getElem?_eq_getElem hi, ru⟩
        · obtain ⟨_, vs, ea, r⟩ := rl.obj a _ ok
          exact ⟨vs, SqL.of ea, Nat.le_of_eq r.length⟩
      | _ => exact q2.elim
  | lst hq r =>
    refine lst rfl (SqL.of (rl1.sub _ _ hq)) q1 ⟨fun i F' H W hi e rl ok => ?_, fun i F' H W x H' hi e rl ok y => ?_, fun F' H W e rl ok => ?_⟩
    · exact ⟨_, _, SqL.of (rl.sub _ _ (e _ _ hq)), List.getElem?_eq_getElem (by rw [r.length]; exact hi)⟩
    · obtain ⟨rfl, y⟩ := y
      obtain ⟨u, hu, ru⟩ := r.get (List.getElem?_eq_getElem hi)
      have := y _ (SqL.of (rl.sub _ _ (e _ _ hq)))
      rw [hu] at this
      cases this
      exact ⟨F', _, Ex.refl _, rl, List.getElem?_eq_getElem hi, ru.mono e⟩
    · exact ⟨_, SqL.of (rl.sub _ _ (e _ _ hq)), Nat.le_of_eq r.length⟩
  | tup hq r =>
    rename_i a vs ds
    obtain rfl : v = Value.ref a := r1
    have sq : ∀ {F' H W}, Ex F1 F' → Rel S F' W H → SqT X.K H a vs := fun e rl => by rw [hK]; exact ex_t rl.sub (ex_t e hq.1)
    obtain ⟨its, rv, p, hz⟩ := I1.tuple (sq (Ex.refl _) rl1)
    refine wpAny_pyIter_tuple (show s1.heap.IsTuple a its.toArray from p) ?_
    refine ⟨s1.heap.objs.size, [s1.heap.objs.size], _, _, H1, rfl, I1.kept (t' := s1.toks) fun b o e => Heap.get?_push_of_some _ e, turn_tuple a _, ⟨_, Heap.get?_push_size _ rfl, rfl, rfl⟩, fun b hb => ?_, F1, W1, ⟨ds, none⟩, e1, rl1, ⟨fun i F' H W hi e rl ok => ?_, fun i F' H W x H' hi e rl ok y => ?_, fun F' H W e rl ok => ?_⟩, q1⟩
    · have e : b = s1.heap.objs.size := by simpa using hb
      subst e
      exact I1.fpOk (Nat.le_refl _) (I1.hok.fresh (Nat.le_refl _))
    · exact ⟨_, _, sq e rl, List.getElem?_eq_getElem (by rw [r.length]; exact hi)⟩
    · obtain ⟨rfl, y⟩ := y
      obtain ⟨u, hu, ru⟩ := r.get (List.getElem?_eq_getElem hi)
      have := y _ (sq e rl)
      rw [hu] at this
      cases this
      exact ⟨F', _, Ex.refl _, rl, List.getElem?_eq_getElem hi, ru.mono e⟩
    · exact ⟨_, sq e rl, Nat.le_of_eq r.length⟩
  | str x =>
    obtain ⟨t, rfl⟩ := r1
    have hl : (chD x).length = x.cps.size := by simp [chD]
    have q2 : ∃ F' W' l, Ex F F' ∧ Rel S F' W' H1 ∧ ItOk S F' (Its x) l ∧ Q2 l W' := by
      refine ⟨F1, W1, ⟨chD x, none⟩, e1, rl1, ⟨fun i F' H W hi e rl ok => ?_, fun i F' H W u H' hi e rl ok y => ?_, fun F' H W e rl ok => ?_⟩, q1⟩
      · show i < x.cps.size
        simpa [hl] using hi
      · obtain ⟨rfl, c, hc, rfl⟩ := y
        refine ⟨F', .str ⟨#[c]⟩, Ex.refl _, rl, ?_, .str _⟩
        have hc' : x.cps.toList[i]? = some c := by simpa using hc
        simp only [chD, List.getElem?_map, hc', Option.map_some]
      · show x.cps.size ≤ (chD x).length
        rw [hl]
        exact Nat.le_refl _
    cases ha : x.cps.all (· < 128)
    · exact wpAny_pyIter_wide ha (pi_one (tk := s1.toks) I1 _ (turn_str _ x t "str_iterator" (.inr rfl)) ⟨_, Heap.get?_push_size _ rfl, rfl, rfl⟩ q2)
    · exact wpAny_pyIter_ascii ha (pi_one (tk := s1.toks) I1 _ (turn_str _ x t "str_ascii_iterator" (.inl rfl)) ⟨_, Heap.get?_push_size _ rfl, rfl, rfl⟩ q2)
  | _ => exact q1.elim
def rngD (lo : Int) (n : Nat) : List D := (List.range n).map fun i => .int (lo + (i : Nat))
theorem rng_ok {F : Hp} (lo : Int) (n : Nat) : ItOk S F (Itr lo n) ⟨rngD lo n, none⟩ := by
  have hl : (rngD lo n).length = n := by simp [rngD]
  refine ⟨fun i F' H W hi e rl ok => ?_, fun i F' H W x H' hi e rl ok y => ?_, fun F' H W e rl ok => ?_⟩
  · show i < n
    simpa [hl] using hi
  · obtain ⟨rfl, rfl⟩ := y
    have hi' : i < n := by simpa [hl] using hi
    exact ⟨F', .int (lo + i), Ex.refl _, rl, by simp [rngD, hi'], .int _⟩
  · show n ≤ (rngD lo n).length
    rw [hl]
    exact Nat.le_refl _
def iRng1d (t : DA) : DI := fun sd W Q E2 => t sd W (fun ds W1 => match ds with
  | [.int j] => -(2 ^ 62) ≤ j ∧ j < 2 ^ 62 ∧ Q ⟨rngD 0 j.toNat, none⟩ W1
  | _ => False) E2
theorem pid_range1 {a : Expr} {t : DA} {p pos : Pos} (ha : PAd X S E [a] t) (hm : X.mg "range" = none) (hg : Gl X "range" := by rfl) (hs : starEach [a] X.env = [(false, eval a X.env)] := by rfl) : PId X S E tg (.Call (.Name "range" p) [a] [] pos) (iRng1d t) := by
  refine ⟨fun pins s σ H F sd W Q2 E2 I rl sr xc h => ?_⟩
  refine (pi_range1 hg hm ha.pa hs).run pins s σ H _ I ⟨F, sd, W, _, E2, rl, sr, fun F1 vs ds W1 H1 e1 r1 p1 q1 => ?_, xc, h⟩
  match ds, q1, p1 with
  | [.int j], q1, p1 =>
    obtain ⟨v, rfl, p⟩ := p1.one
    cases p
    exact ⟨j, rfl, q1.1, q1.2.1, F1, W1, _, e1, r1, rng_ok 0 _, q1.2.2⟩
end
end Mv
end
section
set_option Elab.async false
set_option linter.all false
set_option maxRecDepth 100000
set_option maxHeartbeats 4000000
namespace Mv
open PySem PySem.Spec L2
open Evl (Ex ex_l ex_t ex_rd)
open PyProof.Rows
section
variable {X : Cx} {S : Sy} {E : XS} {k : Nat} {tg : Expr}
def NPc (X : Cx) (S : Sy) (pins : List (Addr × Obj)) (F : Hp) (σ : L2.St) (vs : List Nat) (Q2 : SD → Wd → Prop) (s' : Shared) : Prop :=
  ∃ σ' H' F' sd' W', Inv X pins σ' H' s' ∧ Ex F F' ∧ Rel S F' W' H' ∧ SRel S F' σ' sd' ∧ Q2 sd' W' ∧ wipe σ' vs = wipe σ vs
structure PGc (X : Cx) (S : Sy) (vs : List Nat) (target : Expr) (t : DG) : Prop where
  run : ∀ (pins : List (Addr × Obj)) (s : Shared) (σ : L2.St) (H F : Hp) (sd : SD) (W : Wd) (v : V) (d : D) (u : Value) (Q : SD → Wd → Prop), Inv X pins σ H s → Rel S F W H → SRel S F σ sd → RelV v u → Rp S F v d → t d sd W Q →
    wpAny (model X.prog X.w) X.A (assign target X.env u) (fun _ s' => NPc X S pins F σ vs Q s') X.xe s
structure PGcs (X : Cx) (S : Sy) (vs : List Nat) (ts : List Expr) (t : DGs) : Prop where
  run : ∀ (pins : List (Addr × Obj)) (s : Shared) (σ : L2.St) (H F : Hp) (sd : SD) (W : Wd) (xs : List V) (ds : List D) (us : List Value) (Q : SD → Wd → Prop), Inv X pins σ H s → Rel S F W H → SRel S F σ sd → Vals xs us → Rps S F xs ds → t ds sd W Q →
    wpAny (model X.prog X.w) X.A (assignInOrder ((assignEach ts X.env).map (·.2)) us) (fun _ s' => NPc X S pins F σ vs Q s') X.xe s
theorem wipe_set {v : V} : ∀ {vs : List Nat} {i : Nat} {σ : L2.St}, i ∈ vs → wipe (σ.set i (some v)) vs = wipe σ vs
  | [], _, _, h => by cases h
  | j :: vs, i, σ, h => by
    show (wipe (σ.set i (some v)) vs).set j none = (wipe σ vs).set j none
    by_cases e : i = j
    · subst e
      by_cases hi : i ∈ vs
      · rw [wipe_set hi]
      · have comm : ∀ {vs : List Nat} {σ : L2.St}, i ∉ vs → wipe (σ.set i (some v)) vs = (wipe σ vs).set i (some v) := by
          intro vs
          induction vs with
          | nil => intro σ _; rfl
          | cons a vs ih =>
            intro σ ha
            show (wipe (σ.set i (some v)) vs).set a none = ((wipe σ vs).set a none).set i (some v)
            rw [ih (fun z => ha (List.mem_cons_of_mem _ z)), List.set_comm _ _ (fun z => ha (by rw [z]; exact List.mem_cons_self))]
        rw [comm hi, List.set_set]
    · have hi : i ∈ vs := by
        rcases List.mem_cons.mp h with z | z
        · exact absurd z e
        · exact z
      rw [wipe_set hi]
theorem NPc.back {pins : List (Addr × Obj)} {F F' : Hp} {σ : L2.St} {vs : List Nat} (e : Ex F F') {Q : SD → Wd → Prop} {s' : Shared} (h : NPc X S pins F' σ vs Q s') : NPc X S pins F σ vs Q s' := by
  obtain ⟨σ', H', F2, sd, W, a, b, c⟩ := h
  exact ⟨σ', H', F2, sd, W, a, e.trans b, c⟩
theorem pgc_name {vs : List Nat} {i : Nat} {x : Str} {pos : Pos} (hN : X.N.Nodup) (hm : i ∈ vs := by decide) (hi : X.N[i]? = some x := by rfl) (hx : Loc X.env.scope x := by first | exact Or.inl rfl | exact Or.inr rfl) (hf : X.fn x = true ∨ X.env.scope.names.lookup x = some .local := by first | exact .inl rfl | exact .inr rfl) : PGc X S vs (.Name x pos) (gN i) :=
  ⟨fun pins s σ H F sd W v d u Q I rl sr rv rp h => thn ((pg_name (pos := pos) hN hi hx hf).run pins s σ H v u (fun σ' H' => σ' = σ.set i (some v) ∧ H' = H) I rv ⟨rfl, rfl⟩) fun _ s' ⟨σ', H', I', e1, e2⟩ => by
    subst e1 e2
    exact ⟨_, _, F, _, W, I', Ex.refl _, rl, sr.set rp, h, wipe_set hm⟩⟩
theorem pgcs_nil {vs : List Nat} : PGcs X S vs [] gN0 := ⟨fun pins s σ H F sd W xs ds us Q I rl sr rv rp h => by
  cases rp with
  | nil =>
    cases rv
    exact PyProof.Rows.assignInOrder_nil ⟨σ, H, F, sd, W, I, Ex.refl _, rl, sr, h, rfl⟩
  | cons _ _ => exact h.elim⟩
theorem pgcs_cons {vs : List Nat} {e : Expr} {es : List Expr} {t : DG} {u : DGs} (h1 : PGc X S vs e t) (h2 : PGcs X S vs es u)
    (hs : (assignEach (e :: es) X.env).map (·.2) = assign e X.env :: (assignEach es X.env).map (·.2) := by rfl) : PGcs X S vs (e :: es) (gNs t u) := ⟨fun pins s σ H F sd W xs ds us Q I rl sr rv rp h => by
  cases rp with
  | nil => exact h.elim
  | cons p1 pr =>
    cases rv with
    | cons r1 rr =>
      rw [hs]
      refine PyProof.Rows.assignInOrder_cons (thn (h1.run pins s σ H F sd W _ _ _ _ I rl sr r1 p1 h) fun _ s1 ⟨σ1, H1, F1, sd1, W1, I1, e1, rl1, sr1, q1, w1⟩ => ?_)
      exact thn (h2.run pins s1 σ1 H1 F1 sd1 W1 _ _ _ Q I1 rl1 sr1 rr (pr.mono e1) q1) fun _ s' z => by
        obtain ⟨σ', H', F2, sd, W, a, b, c, d, e, f⟩ := z
        exact ⟨σ', H', F2, sd, W, a, e1.trans b, c, d, e, f.trans w1⟩⟩
theorem pgc_tup {vs : List Nat} {es : List Expr} {k : Nat} {t : DGs} {n : Nat} {pos : Pos} (hc : X.calm = true) (hK : X.K = S.K) (h : PGcs X S vs es t)
    (hn : (assignEach es X.env).length = n := by rfl) (hst : (assignEach es X.env).findIdx? (·.1) = none := by rfl) : PGc X S vs (.Tuple es k pos) (gTp n t) := ⟨fun pins s σ H F sd W v d u Q I rl sr r rp hw => by
  cases rp with
  | tup hq pr =>
    rename_i a xs ds
    obtain ⟨hl, hw⟩ := hw
    cases r
    obtain ⟨its, rv, ht, hz⟩ := I.tuple (by rw [hK]; exact ex_t rl.sub hq.1)
    refine PyProof.Rows.assign_Tuple_tuple (I.ok.hd hc) ht (by simp [hn, ← hl, ← pr.length, rv.length]) hst fun h' hx => ?_
    have I1 : Inv X pins σ H { s with heap := h' } := I.kept (t' := s.toks) fun b o e => hx b o (Nat.ne_of_lt (Heap.lt_size e)) e
    exact h.run pins _ σ H F sd W xs ds _ Q I1 rl sr (by simpa using rv) pr hw
  | _ => exact hw.elim⟩
theorem SRel.wipe {F : Hp} {σ : L2.St} {sd : SD} (r : SRel S F σ sd) : ∀ vs : List Nat, SRel S F (wipe σ vs) (wipeD sd vs)
  | [] => r
  | v :: vs => (SRel.wipe r vs).none v
abbrev EF : XS := fun _ _ _ _ => False
theorem xcF {F : Hp} : XCv S F E2F EF := fun _ _ _ _ _ _ _ _ _ _ _ _ _ _ z => z
def dLc (ti : DI) (g : DG) (tt : DT) (te : DE) (vs : List Nat) : DE := fun sd W Q E2 => ti sd W (fun l W1 => ∀ p, W1 p = none → compD p l.ok g tt te (wipeD sd vs) (fun acc W2 => Q (.lst acc) (cut W2 p)) l.items [] (put W1 p (.lst []))) E2
structure PTsd (X : Cx) (S : Sy) (E : XS) (ifs : List Expr) (t : DT) : Prop where
  run : ∀ (pins : List (Addr × Obj)) (s : Shared) (σ : L2.St) (H F : Hp) (sd : SD) (W : Wd) (Q2 : Bool → Wd → Prop) (E2 : QX), Inv X pins σ H s → Rel S F W H → SRel S F σ sd → XCv S F E2 E → t sd W Q2 E2 →
    wpAny (model X.prog X.w) X.A (forIn ifs true fun c r => if r = true then do let ok ← isTrue c X.env (eval c X.env); pure (ForInStep.yield ok) else pure (ForInStep.yield r)) (TPd X S pins σ F Q2) X.xe s
def dYes : DT := fun _ W Q _ => Q true W
theorem ptsd_nil : PTsd X S E [] dYes := ⟨fun _ _ _ H F sd W _ _ I rl sr xc h => wpAny_tests_nil ⟨H, F, W, I, Ex.refl _, rl, h⟩⟩
theorem ptsd_one {c : Expr} {t : DT} (h : PTd X S E c t) : PTsd X S E [c] t := ⟨fun pins s σ H F sd W Q E2 I rl sr xc hw => wpAny_tests_one (h.run pins s σ H F sd W Q E2 I rl sr xc hw)⟩
theorem PTsd.pts {ifs : List Expr} {t : DT} (h : PTsd X S E ifs t) : PTs X ifs (upT S E t) := ⟨fun pins s σ H Q I q => by
  obtain ⟨F, sd, W, Q2, E2, r, sr, qc, xc, ht⟩ := q
  exact thn (h.run pins s σ H F sd W Q2 E2 I r sr xc ht) fun b s' ⟨H', F', W', a1, a2, a3, a4⟩ => ⟨H', a1, qc F' b W' H' a2 a3 a4⟩⟩
def upGc (S : Sy) (vs : List Nat) (t : DG) : TG := fun x σ H Q => ∃ F sd W d Q2, Rel S F W H ∧ SRel S F σ sd ∧ Rp S F x d ∧ (∀ F' σ' sd' W' H', Ex F F' → Rel S F' W' H' → SRel S F' σ' sd' → wipe σ' vs = wipe σ vs → Q2 sd' W' → Q σ' H') ∧ t d sd W Q2
theorem PGc.pg {vs : List Nat} {t : DG} (h : PGc X S vs tg t) : PG X tg (upGc S vs t) := ⟨fun pins s σ H v u Q I rv ⟨F, sd, W, d, Q2, rl, sr, rp, qc, q⟩ =>
  thn (h.run pins s σ H F sd W v d u Q2 I rl sr rv rp q) fun _ s' ⟨σ', H', F', sd', W', I', e, rl', sr', q', w'⟩ => ⟨σ', H', I', qc F' σ' sd' W' H' e rl' sr' w' q'⟩⟩
theorem set_wipe {a : Nat} {σ : L2.St} : ∀ {vs : List Nat}, a ∈ vs → (wipe σ vs).set a none = wipe σ vs
  | [], h => by cases h
  | b :: vs, h => by
    show ((wipe σ vs).set b none).set a none = (wipe σ vs).set b none
    by_cases e : a = b
    · subst e; rw [List.set_set]
    · have ha : a ∈ vs := by
        rcases List.mem_cons.mp h with z | z
        · exact absurd z e
        · exact z
      rw [List.set_comm _ _ (Ne.symm e), set_wipe ha]
theorem wipe_wipe (σ : L2.St) (vs : List Nat) : wipe (wipe σ vs) vs = wipe σ vs := by
  have key : ∀ (us : List Nat), (∀ u ∈ us, u ∈ vs) → wipe (wipe σ vs) us = wipe σ vs := by
    intro us
    induction us with
    | nil => intro _; rfl
    | cons a us ih =>
      intro h
      show (wipe (wipe σ vs) us).set a none = wipe σ vs
      rw [ih fun u hu => h u (List.mem_cons_of_mem _ hu)]
      exact set_wipe (h a List.mem_cons_self)
  exact key vs fun u hu => hu
abbrev Blk (X : Cx) (scope : Scope) (P : Cx → Prop) : Prop := ∀ (s : Shared) (H : Hp) (C : Addr) (cl : List (Str × Addr)) (fp : List Addr), P (X.blk s H scope (compEnvC scope cl C X.env) fp)
section
variable {elt iter : Expr} {ifs : List Expr} {scope : Scope} {own : List (Str × Nat)} {pos : Pos} {ti : DI} {g : DG} {tt : DT} {te : DE}
theorem lc_read {σ : L2.St} {F : Hp} {sd : SD} {Q : VK} {K : Addr → List D → Wd → Prop} {vs : List Nat} (sr : SRel S F σ sd)
    (hfin : ∀ F' W' H' p acc, Ex F F' → Rel S F' W' H' → W' p = some (.lst acc) → K p acc W' → Q (.ref p) H')
    {l : LiD} {J : It} {F1 : Hp} {W1 : Wd} {H1 : Hp} (e1 : Ex F F1) (rl1 : Rel S F1 W1 H1) (io : ItOk S F1 J l) (q1 : ∀ p, W1 p = none → compD p l.ok g tt te (wipeD sd vs) (K p) l.items [] (put W1 p (.lst []))) :
    ∀ p, H1 p = none → ∃ Wx : Nat → Nat → Hp → Prop, (∃ m, Wx 0 m (upd H1 p (.lst []))) ∧ ∀ i m H, Wx i m H →
  (J.stop i H ∧ Q (.ref p) H) ∨ (J.go i H ∧ ∃ Nx : Hp → Prop, (∀ H', Nx H' → ∃ m', m' < m ∧ Wx (i + 1) m' H') ∧ ∀ x H', J.yld i H x H' → upGc S vs g x (wipe σ vs) H' fun σ2 H2 => wipe σ2 vs = wipe σ vs ∧ upT S EF tt σ2 H2 fun b H3 =>
    if b = true then upE S EF te σ2 H3 fun y H4 => ∃ acc, H4 p = some (.lst acc) ∧ acc.length < sizeLine ∧ Nx (upd H4 p (.lst (acc ++ [y]))) else Nx H3) := by
  intro p hp
  have hW1 : W1 p = none := rl1.nw hp
  have R0 : Rel S F1 (put W1 p (.lst [])) (upd H1 p (.lst [])) := rl1.newW (m := .lst []) hp ⟨[], rfl, .nil⟩
  refine ⟨fun i m Hi => ∃ Fi Wi acc, Ex F1 Fi ∧ Rel S Fi Wi Hi ∧ m = l.items.length - i ∧ i ≤ l.items.length ∧ compD p l.ok g tt te (wipeD sd vs) (K p) (l.items.drop i) acc Wi, ⟨_, F1, _, [], Ex.refl _, R0, rfl, Nat.zero_le _, q1 p hW1⟩, ?_⟩
  rintro i m Hi ⟨Fi, Wi, acc, ei, ri, rfl, hi, qi⟩
  have oki := qi.ok
  by_cases hlt : i < l.items.length
  · refine .inr ⟨io.go i Fi Hi Wi hlt ei ri oki, fun H' => ∃ Fi Wi acc, Ex F1 Fi ∧ Rel S Fi Wi H' ∧ compD p l.ok g tt te (wipeD sd vs) (K p) (l.items.drop (i + 1)) acc Wi, fun H' ⟨Fj, Wj, ac, a, b, c⟩ => ⟨l.items.length - (i + 1), by omega, Fj, Wj, ac, a, b, rfl, hlt, c⟩, fun x H' y => ?_⟩
    obtain ⟨F2, d, e2, rl2, hd, px⟩ := io.yl i Fi Hi Wi x H' hlt ei ri oki y
    rw [drop_of hd] at qi
    obtain ⟨_, qi⟩ := qi
    have e12 : Ex F1 F2 := ei.trans e2
    refine ⟨F2, wipeD sd vs, Wi, d, _, rl2, ((sr.mono (e1.trans e12)).wipe vs), px, fun F3 σ3 sd3 W3 H3 e3 rl3 sr3 w3 q3 => ?_, qi⟩
    refine ⟨w3.trans (wipe_wipe σ vs), F3, sd3, W3, _, E2F, rl3, sr3, fun F4 b W4 H4 e4 rl4 q4 => ?_, xcF, q3⟩
    cases b with
    | false => exact ⟨F4, W4, acc, e12.trans (e3.trans e4), rl4, q4⟩
    | true =>
      rw [if_pos rfl] at q4 ⊢
      refine ⟨F4, sd3, W4, _, E2F, rl4, sr3.mono e4, fun F5 v x5 W5 H5 e5 rl5 p5 ⟨h5, hz, q5⟩ => ?_, xcF, q4⟩
      obtain ⟨_, us, ea, ru⟩ := rl5.obj p _ h5
      refine ⟨us, ea, by rw [ru.length, sizeLine_eq]; omega, F5, put W5 p (.lst (acc ++ [x5])), acc ++ [x5], e12.trans (e3.trans (e4.trans e5)), ?_, q5⟩
      exact rl5.set (m := .lst (acc ++ [x5])) h5 ⟨us ++ [v], rfl, ru.append (.cons p5 .nil)⟩
  · have hi2 : i = l.items.length := by omega
    subst hi2
    rw [List.drop_length] at qi
    exact .inl ⟨io.st Fi Hi Wi ei ri oki, hfin Fi Wi Hi p acc (e1.trans ei) ri qi.2.1 qi.2.2⟩
theorem PId.pi (hi : PId X S E tg iter ti) {H F : Hp} {σ : L2.St} {sd : SD} {W : Wd} {Q2 : LiD → Wd → Prop} {E2 : QX} (rl : Rel S F W H) (sr : SRel S F σ sd) (xc : XCv S F E2 E) (h : ti sd W Q2 E2) :
    PI X tg iter (fun σ' H0 R => σ' = σ ∧ H0 = H ∧ ∀ J H', (∃ F' W' l, Ex F F' ∧ Rel S F' W' H' ∧ ItOk S F' J l ∧ Q2 l W') → R J H') := ⟨fun pins' s' σ' H0 R I' q => by
    obtain ⟨rfl, rfl, q⟩ := q
    refine thn (hi.run pins' s' σ' H0 F sd W _ E2 I' rl sr xc h) fun v s1 z => thn z fun itv s2 z => ?_
    obtain ⟨it, fp, tn, J, H', e, I2, T, t0, fo, r⟩ := z
    exact ⟨it, fp, tn, J, H', e, I2, T, t0, fo, q J H' r⟩⟩
theorem pd_lc (hc : X.calm = true) (hN : X.N.Nodup) (hi : PId X S E tg iter ti) (ok : BlkOk X.N X.env.scope scope own)
    (hg : Blk X scope fun Y => PGc Y S (own.map (·.2)) tg g) (ht : Blk X scope fun Y => PTsd Y S EF ifs tt) (he : Blk X scope fun Y => PD Y S EF elt te) (hs : ∀ x, foldedSetIterable iter X.env x = pure x := by intro _; rfl) :
    PD X S E (.ListComp elt [⟨tg, iter, ifs, 0⟩] scope pos) (dLc ti g tt te (own.map (·.2))) := by
  refine ⟨fun pins s σ H F sd W Q2 E2 I rl sr xc h => ?_⟩
  refine thn ((pe_lc (pos := pos) hc hN (hi.pi rl sr xc h) ok (fun s H C cl fp => (hg s H C cl fp).pg) (fun s H C cl fp => (ht s H C cl fp).pts) (fun s H C cl fp => (he s H C cl fp).pe) hs).run pins s σ H (tkQ S F Q2) I ⟨rfl, rfl, fun J H1 ⟨F1, W1, l, e1, rl1, io, q1⟩ => ?_⟩) fun u s' z => EP.tk z
  refine lc_read (K := fun p acc W2 => Q2 (.lst acc) (cut W2 p)) sr (fun F' W' H' p acc e r hw q => ?_) e1 rl1 io q1
  obtain ⟨F2, e2, r2, p2⟩ := r.frz hw
  exact tkQ_of (e.trans e2) r2 p2 q
theorem psd_setLc {i : Nat} {y : Str} {py spos : Pos} (hc : X.calm = true) (hN : X.N.Nodup) (hsw : swapsWith (.ListComp elt [⟨tg, iter, ifs, 0⟩] scope pos) (some (.Name y py)) spos.line X.env = pure true) (hi : PId X S E tg iter ti) (ok : BlkOk X.N X.env.scope scope own)
    (hg : Blk X scope fun Y => PGc Y S (own.map (·.2)) tg g) (ht : Blk X scope fun Y => PTsd Y S EF ifs tt) (he : Blk X scope fun Y => PD Y S EF elt te) (hy : X.N[i]? = some y := by rfl) (hyl : X.env.scope.names.lookup y = some .local := by rfl) (hs : ∀ x, foldedSetIterable iter X.env x = pure x := by intro _; rfl) :
    PSd X S E (.Assign [.Name y py] (.ListComp elt [⟨tg, iter, ifs, 0⟩] scope pos) spos) (dAsg (dLc ti g tt te (own.map (·.2))) (gN i)) := by
  refine ⟨fun pins s σ H F sd W D2 E2 I rl sr xc h => ?_⟩
  refine thn ((ps_setLc hc hN hy hyl hsw (hi.pi rl sr xc h) ok (fun s H C cl fp => (hg s H C cl fp).pg) (fun s H C cl fp => (ht s H C cl fp).pts) (fun s H C cl fp => (he s H C cl fp).pe) hs).run pins s σ H (tkE S F D2) I ⟨rfl, rfl, fun J H1 ⟨F1, W1, l, e1, rl1, io, q1⟩ => ?_⟩) fun u s' z => SP.tk z
  refine lc_read (Q := fun x H1 => gName i x σ H1 (tkE S F D2).nx) (K := fun p acc W2 => D2.nx (sd.set i (some (.lst acc))) (cut W2 p)) sr (fun F' W' H' p acc e r hw q => ?_) e1 rl1 io q1
  obtain ⟨F2, e2, r2, p2⟩ := r.frz hw
  exact ⟨F2, _, _, e.trans e2, r2, (sr.mono (e.trans e2)).set p2, q⟩
end
end
end Mv
end
section
set_option Elab.async false
set_option linter.all false
set_option maxRecDepth 100000
set_option maxHeartbeats 4000000
namespace Mv
open PySem PySem.SeqAt
open AutoSeq1 (wpAny_loadPart')
open MeetsSeq MeetsSeq2 MeetsSeq3 SeqRoads2
open GQ (FinOf call_here)
section
variable {prog : Program} {w : World} {A : Around} {R : Result → Shared → Prop}
def ListJ (prog : Program) (w : World) (A : Around) (E : Value → Shared → Prop) (l b : Addr) (N : Nat) (I : Nat → Shared → Prop) (J : Shared → Prop) : Prop :=
  ∀ i s, I i s → ∃ (items items2 : Array Value) (n n2 : Nat), s.heap.get? l = some { cls := .type "list", data := .seq items n } ∧ s.heap.get? b = some { cls := .type "list", data := .seq items2 n2 } ∧ items.size = N ∧ items2.size = N ∧
    ∀ (h1 : i < items.size) (h2 : i < items2.size), wpAny (model prog w) A.in1 (eqBool items[i] items2[i]) (fun r s' => (r = true ∧ I (i + 1) s') ∨ (r = false ∧ I i s' ∧ J s')) E s
theorem eq_loopJ (l b : Addr) (N : Nat) (I : Nat → Shared → Prop) (J : Shared → Prop) (hl : ListJ prog w A (fun e s' => R (.error e) s') l b N I J)
    (fin : ∀ s, I N s → R (.ok (.ret (.bool true))) s) (fin0 : ∀ s, J s → R (.ok (.ret (.bool false))) s) (k : Nat) :
    ∀ i : Nat, N - i = k → i ≤ N → ∀ s, I i s →
      wpAny (model prog w) A.in1 (Builtin.«list.__eq__.loop» ⟨[.ref l, .ref b, rawInt i, rawInt 2], []⟩) (FinOf prog w A R) (fun e s' => R (.error e) s') s := by
  induction k with
  | zero =>
    intro i hk hi s h
    obtain ⟨items, items2, n, n2, hl1, hb1, hs1, hs2, _⟩ := hl _ _ h
    have hi' : i = N := by omega
    have hR : R (.ok (.ret (.bool true))) s := fin s (hi' ▸ h)
    obtain ⟨hp, g, d, tk, os⟩ := s
    wp_walk using wpAny_loadPart' hl1, wpAny_loadPart' hb1
    have hi1 : items[((i : Nat) : Int).toNat]? = none := by simp; omega
    have hi2 : items2[((i : Nat) : Int).toNat]? = none := by simp; omega
    rw [hi1, hi2]
    wp_walk using wpAny_loadPart' hl1, wpAny_loadPart' hb1
    show R (.ok (.ret (.bool (items.size == items2.size)))) _
    rw [hs1, hs2]
    simpa using hR
  | succ k ih =>
    intro i hk hi s h
    obtain ⟨items, items2, n, n2, hl1, hb1, hs1, hs2, turn⟩ := hl _ _ h
    have hlt : i < items.size := by omega
    have hlt2 : i < items2.size := by omega
    have ht := turn hlt hlt2
    obtain ⟨hp, g, d, tk, os⟩ := s
    wp_walk using wpAny_loadPart' hl1, wpAny_loadPart' hb1
    have hi1 : items[((i : Nat) : Int).toNat]? = some items[i] := by simp [hlt]
    have hi2 : items2[((i : Nat) : Int).toNat]? = some items2[i] := by simp [hlt2]
    have hc : ((i : Int) + 1) = ((i + 1 : Nat) : Int) := by omega
    rw [hi1, hi2]
    refine wpAny_bind (wpAny_mono ht (fun r s2 h2 => ?_) fun _ _ x => x)
    rcases h2 with ⟨hr, h2⟩ | ⟨hr, h2, hj⟩
    · subst hr
      have hrec := ih (i + 1) (by omega) (by omega) s2 h2
      obtain ⟨hp2, g2, d2, tk2, os2⟩ := s2
      wp_walk
      rw [hc]
      exact ⟨plainId_quiet plain_eq_loop _, codeAny_builtin entry_eq_loop (by
        rw [Around.under_plainId plain_eq_loop _]
        exact hrec)⟩
    · subst hr
      obtain ⟨items3, items4, n3, n4, hl3, hb3, hs3, hs4, _⟩ := hl _ _ h2
      have hf := fin0 s2 hj
      obtain ⟨hp2, g2, d2, tk2, os2⟩ := s2
      wp_walk using wpAny_loadPart' hl3, wpAny_loadPart' hb3
      have e3 : items3[((i : Nat) : Int).toNat]? = some (items3[i]'(by omega)) := by simp
      have e4 : items4[((i : Nat) : Int).toNat]? = some (items4[i]'(by omega)) := by simp
      rw [e3, e4]
      wp_walk
      exact hf
theorem ne_loopJ (l b : Addr) (N : Nat) (I : Nat → Shared → Prop) (J : Shared → Prop) (hl : ListJ prog w A (fun e s' => R (.error e) s') l b N I J)
    (fin : ∀ s, I N s → R (.ok (.ret (.bool false))) s) (fin0 : ∀ s, J s → R (.ok (.ret (.bool true))) s) (k : Nat) :
    ∀ i : Nat, N - i = k → i ≤ N → ∀ s, I i s →
      wpAny (model prog w) A.in1 (Builtin.«list.__eq__.loop» ⟨[.ref l, .ref b, rawInt i, rawInt 3], []⟩) (FinOf prog w A R) (fun e s' => R (.error e) s') s := by
  induction k with
  | zero =>
    intro i hk hi s h
    obtain ⟨items, items2, n, n2, hl1, hb1, hs1, hs2, _⟩ := hl _ _ h
    have hi' : i = N := by omega
    have hR : R (.ok (.ret (.bool false))) s := fin s (hi' ▸ h)
    obtain ⟨hp, g, d, tk, os⟩ := s
    wp_walk using wpAny_loadPart' hl1, wpAny_loadPart' hb1
    have hi1 : items[((i : Nat) : Int).toNat]? = none := by simp; omega
    have hi2 : items2[((i : Nat) : Int).toNat]? = none := by simp; omega
    rw [hi1, hi2]
    wp_walk using wpAny_loadPart' hl1, wpAny_loadPart' hb1
    show R (.ok (.ret (.bool (items.size != items2.size)))) _
    rw [hs1, hs2]
    simpa using hR
  | succ k ih =>
    intro i hk hi s h
    obtain ⟨items, items2, n, n2, hl1, hb1, hs1, hs2, turn⟩ := hl _ _ h
    have hlt : i < items.size := by omega
    have hlt2 : i < items2.size := by omega
    have ht := turn hlt hlt2
    obtain ⟨hp, g, d, tk, os⟩ := s
    wp_walk using wpAny_loadPart' hl1, wpAny_loadPart' hb1
    have hi1 : items[((i : Nat) : Int).toNat]? = some items[i] := by simp [hlt]
    have hi2 : items2[((i : Nat) : Int).toNat]? = some items2[i] := by simp [hlt2]
    have hc : ((i : Int) + 1) = ((i + 1 : Nat) : Int) := by omega
    rw [hi1, hi2]
    refine wpAny_bind (wpAny_mono ht (fun r s2 h2 => ?_) fun _ _ x => x)
    rcases h2 with ⟨hr, h2⟩ | ⟨hr, h2, hj⟩
    · subst hr
      have hrec := ih (i + 1) (by omega) (by omega) s2 h2
      obtain ⟨hp2, g2, d2, tk2, os2⟩ := s2
      wp_walk
      rw [hc]
      exact ⟨plainId_quiet plain_eq_loop _, codeAny_builtin entry_eq_loop (by
        rw [Around.under_plainId plain_eq_loop _]
        exact hrec)⟩
    · subst hr
      obtain ⟨items3, items4, n3, n4, hl3, hb3, hs3, hs4, _⟩ := hl _ _ h2
      have hf := fin0 s2 hj
      obtain ⟨hp2, g2, d2, tk2, os2⟩ := s2
      wp_walk using wpAny_loadPart' hl3, wpAny_loadPart' hb3
      have e3 : items3[((i : Nat) : Int).toNat]? = some (items3[i]'(by omega)) := by simp
      have e4 : items4[((i : Nat) : Int).toNat]? = some (items4[i]'(by omega)) := by simp
      rw [e3, e4]
      wp_walk
      exact hf
theorem list_eqJ (l b : Addr) (N : Nat) (I : Nat → Shared → Prop) (J : Shared → Prop) (hl : ListJ prog w A (fun e s' => R (.error e) s') l b N I J)
    (fin : ∀ s, I N s → R (.ok (.ret (.bool true))) s) (fin0 : ∀ s, J s → R (.ok (.ret (.bool false))) s) {s : Shared} (h : I 0 s) :
    wpAny (model prog w) A.in1 (Builtin.«list.__eq__» ⟨[.ref l, .ref b], []⟩) (FinOf prog w A R) (fun e s' => R (.error e) s') s := by
  obtain ⟨items, items2, n, n2, hl1, hb1, hs1, hs2, _⟩ := hl _ _ h
  have hrec := eq_loopJ (A := A) (R := R) l b N I J hl fin fin0 _ 0 rfl (Nat.zero_le _) s h
  obtain ⟨hp, g, d, tk, os⟩ := s
  have f3 := AutoSeq1.sub_list_list
  have hne : ¬ (items.size != items2.size) = true := by simp [hs1, hs2]
  wp_walk using wpAny_loadPart' hl1, wpAny_loadPart' hb1
  exact ⟨plainId_quiet plain_eq_loop _, codeAny_builtin entry_eq_loop (by
    rw [Around.under_plainId plain_eq_loop _]
    exact hrec)⟩
theorem list_neJ (l b : Addr) (N : Nat) (I : Nat → Shared → Prop) (J : Shared → Prop) (hl : ListJ prog w A (fun e s' => R (.error e) s') l b N I J)
    (fin : ∀ s, I N s → R (.ok (.ret (.bool false))) s) (fin0 : ∀ s, J s → R (.ok (.ret (.bool true))) s) {s : Shared} (h : I 0 s) :
    wpAny (model prog w) A.in1 (Builtin.«list.__ne__» ⟨[.ref l, .ref b], []⟩) (FinOf prog w A R) (fun e s' => R (.error e) s') s := by
  obtain ⟨items, items2, n, n2, hl1, hb1, hs1, hs2, _⟩ := hl _ _ h
  have hrec := ne_loopJ (A := A) (R := R) l b N I J hl fin fin0 _ 0 rfl (Nat.zero_le _) s h
  obtain ⟨hp, g, d, tk, os⟩ := s
  have f3 := AutoSeq1.sub_list_list
  have hne : ¬ (items.size != items2.size) = true := by simp [hs1, hs2]
  wp_walk using wpAny_loadPart' hl1, wpAny_loadPart' hb1
  exact ⟨plainId_quiet plain_eq_loop _, codeAny_builtin entry_eq_loop (by
    rw [Around.under_plainId plain_eq_loop _]
    exact hrec)⟩
theorem list_eqZ {l b : Addr} {items items2 : Array Value} {n n2 : Nat} {s : Shared} (hl1 : s.heap.get? l = some { cls := .type "list", data := .seq items n }) (hb1 : s.heap.get? b = some { cls := .type "list", data := .seq items2 n2 }) (hz : items.size ≠ items2.size)
    (fin0 : R (.ok (.ret (.bool false))) s) : wpAny (model prog w) A.in1 (Builtin.«list.__eq__» ⟨[.ref l, .ref b], []⟩) (FinOf prog w A R) (fun e s' => R (.error e) s') s := by
  obtain ⟨hp, g, d, tk, os⟩ := s
  have f3 := AutoSeq1.sub_list_list
  have hne : (items.size != items2.size) = true := by simp [hz]
  wp_walk using wpAny_loadPart' hl1, wpAny_loadPart' hb1
  exact fin0
theorem list_neZ {l b : Addr} {items items2 : Array Value} {n n2 : Nat} {s : Shared} (hl1 : s.heap.get? l = some { cls := .type "list", data := .seq items n }) (hb1 : s.heap.get? b = some { cls := .type "list", data := .seq items2 n2 }) (hz : items.size ≠ items2.size)
    (fin0 : R (.ok (.ret (.bool true))) s) : wpAny (model prog w) A.in1 (Builtin.«list.__ne__» ⟨[.ref l, .ref b], []⟩) (FinOf prog w A R) (fun e s' => R (.error e) s') s := by
  obtain ⟨hp, g, d, tk, os⟩ := s
  have f3 := AutoSeq1.sub_list_list
  have hne : (items.size != items2.size) = true := by simp [hz]
  wp_walk using wpAny_loadPart' hl1, wpAny_loadPart' hb1
  exact fin0
end
end Mv
end
section
set_option Elab.async false
set_option linter.all false
set_option maxRecDepth 100000
set_option maxHeartbeats 4000000
namespace Mv
open PySem PySem.SeqAt
open AutoSeq1 (wpAny_loadPart')
open MeetsSeq MeetsSeq2 MeetsSeq3 SeqRoads2
open GQ (FinOf call_here)
section
variable {prog : Program} {w : World} {A : Around} {R : Result → Shared → Prop}
theorem tuple_eqJ (l b : Addr) (items items2 : Array Value) (n n2 : Nat) (dd dd2 : Option Addr) (sl sl2 : Array (Option Value)) (I : Nat → Shared → Prop) (J : Shared → Prop)
    (turn : ∀ i (h1 : i < items.size) (h2 : i < items2.size) s, I i s → wpAny (model prog w) A.in1 (eqBool items[i] items2[i]) (fun r s' => (r = true ∧ I (i + 1) s') ∨ (r = false ∧ J s')) (fun e s' => R (.error e) s') s)
    (fin : ∀ s, I (min items.size items2.size) s → R (.ok (.ret (.bool (items.size == items2.size)))) s) (fin0 : ∀ s, J s → R (.ok (.ret (.bool false))) s)
    {s : Shared} (hl1 : s.heap.get? l = some { cls := .type "tuple", dict := dd, data := .seq items n, slots := sl }) (hb1 : s.heap.get? b = some { cls := .type "tuple", dict := dd2, data := .seq items2 n2, slots := sl2 }) (h : I 0 s) :
    wpAny (model prog w) A.in1 (Builtin.«tuple.__eq__» ⟨[.ref l, .ref b], []⟩) (FinOf prog w A R) (fun e s' => R (.error e) s') s := by
  have f2 := AutoSeq1.sub_tuple_tuple
  have hZ : (items.toList.zip items2.toList).length = min items.size items2.size := by simp
  have h0 := h
  obtain ⟨hp, g, d, tk, os⟩ := s
  wp_walk using wpAny_loadPart' hl1, wpAny_loadPart' hb1, wpAny_forIn_list _ (fun rest b s' => (b.1 = none ∧ ∃ i, rest = (items.toList.zip items2.toList).drop i ∧ i ≤ min items.size items2.size ∧ I i s')) _
  case turn =>
    rintro ⟨y, x⟩ rest b s' ⟨hb', i, hz, hi, hI⟩
    have hlt : i < (items.toList.zip items2.toList).length := by
      rcases Nat.lt_or_ge i (items.toList.zip items2.toList).length with h' | h'
      · exact h'
      · rw [List.drop_of_length_le h'] at hz; cases hz
    have h1 : i < items.size := by omega
    have h2 : i < items2.size := by omega
    rw [List.drop_eq_getElem_cons hlt] at hz
    injection hz with hyx hrest
    have hy : y = items[i] := by have := congrArg Prod.fst hyx; simpa using this
    have hx : x = items2[i] := by have := congrArg Prod.snd hyx; simpa using this
    subst hy hx
    refine wpAny_bind (wpAny_mono (turn i h1 h2 s' hI) (fun r s2 q2 => ?_) fun _ _ x => x)
    rcases q2 with ⟨hr, q2⟩ | ⟨hr, q2⟩
    · subst hr
      wp_walk
      exact ⟨rfl, i + 1, hrest, by omega, q2⟩
    · subst hr
      wp_walk
      exact fin0 s2 q2
  case fin =>
    rintro ⟨b1, b2⟩ s' ⟨hb', i, hz, hi, hI⟩
    simp only at hb'
    subst hb'
    have hge : min items.size items2.size ≤ i := by
      rcases Nat.lt_or_ge i (items.toList.zip items2.toList).length with h' | h'
      · rw [List.drop_eq_getElem_cons h'] at hz; cases hz
      · exact hZ ▸ h'
    have hi' : i = min items.size items2.size := by omega
    have hR := fin s' (hi' ▸ hI)
    wp_walk
    simpa [Builtin.Tuple.tupleCompareSizes] using hR
  case h =>
    exact ⟨rfl, 0, rfl, Nat.zero_le _, h0⟩
theorem tuple_neJ (l b : Addr) (items items2 : Array Value) (n n2 : Nat) (dd dd2 : Option Addr) (sl sl2 : Array (Option Value)) (I : Nat → Shared → Prop) (J : Shared → Prop)
    (turn : ∀ i (h1 : i < items.size) (h2 : i < items2.size) s, I i s → wpAny (model prog w) A.in1 (eqBool items[i] items2[i]) (fun r s' => (r = true ∧ I (i + 1) s') ∨ (r = false ∧ J s')) (fun e s' => R (.error e) s') s)
    (fin : ∀ s, I (min items.size items2.size) s → R (.ok (.ret (.bool (items.size != items2.size)))) s) (fin0 : ∀ s, J s → R (.ok (.ret (.bool true))) s)
    {s : Shared} (hl1 : s.heap.get? l = some { cls := .type "tuple", dict := dd, data := .seq items n, slots := sl }) (hb1 : s.heap.get? b = some { cls := .type "tuple", dict := dd2, data := .seq items2 n2, slots := sl2 }) (h : I 0 s) :
    wpAny (model prog w) A.in1 (Builtin.«tuple.__ne__» ⟨[.ref l, .ref b], []⟩) (FinOf prog w A R) (fun e s' => R (.error e) s') s := by
  have f2 := AutoSeq1.sub_tuple_tuple
  have hZ : (items.toList.zip items2.toList).length = min items.size items2.size := by simp
  have h0 := h
  obtain ⟨hp, g, d, tk, os⟩ := s
  wp_walk using wpAny_loadPart' hl1, wpAny_loadPart' hb1, wpAny_forIn_list _ (fun rest b s' => (b.1 = none ∧ ∃ i, rest = (items.toList.zip items2.toList).drop i ∧ i ≤ min items.size items2.size ∧ I i s')) _
  case turn =>
    rintro ⟨y, x⟩ rest b s' ⟨hb', i, hz, hi, hI⟩
    have hlt : i < (items.toList.zip items2.toList).length := by
      rcases Nat.lt_or_ge i (items.toList.zip items2.toList).length with h' | h'
      · exact h'
      · rw [List.drop_of_length_le h'] at hz; cases hz
    have h1 : i < items.size := by omega
    have h2 : i < items2.size := by omega
    rw [List.drop_eq_getElem_cons hlt] at hz
    injection hz with hyx hrest
    have hy : y = items[i] := by have := congrArg Prod.fst hyx; simpa using this
    have hx : x = items2[i] := by have := congrArg Prod.snd hyx; simpa using this
    subst hy hx
    refine wpAny_bind (wpAny_mono (turn i h1 h2 s' hI) (fun r s2 q2 => ?_) fun _ _ x => x)
    rcases q2 with ⟨hr, q2⟩ | ⟨hr, q2⟩
    · subst hr
      wp_walk
      exact ⟨rfl, i + 1, hrest, by omega, q2⟩
    · subst hr
      wp_walk
      exact fin0 s2 q2
  case fin =>
    rintro ⟨b1, b2⟩ s' ⟨hb', i, hz, hi, hI⟩
    simp only at hb'
    subst hb'
    have hge : min items.size items2.size ≤ i := by
      rcases Nat.lt_or_ge i (items.toList.zip items2.toList).length with h' | h'
      · rw [List.drop_eq_getElem_cons h'] at hz; cases hz
      · exact hZ ▸ h'
    have hi' : i = min items.size items2.size := by omega
    have hR := fin s' (hi' ▸ hI)
    wp_walk
    simpa [Builtin.Tuple.tupleCompareSizes] using hR
  case h =>
    exact ⟨rfl, 0, rfl, Nat.zero_le _, h0⟩
end
end Mv
end
section
set_option Elab.async false
set_option linter.all false
set_option maxRecDepth 100000
set_option maxHeartbeats 4000000
namespace Mv
open PySem PySem.Spec L2
open Evl (Ex ex_l ex_t ex_rd)
abbrev EqI := Nat → D → D → Option Bool
def flatO : D → D → Option Bool
  | .non, .non => some true
  | .non, .bl _ => some false
  | .non, .int _ => some false
  | .non, .str _ => some false
  | .bl _, .non => some false
  | .bl a, .bl b => some (a == b)
  | .bl a, .int b => some ((if a then 1 else 0) == b)
  | .bl _, .str _ => some false
  | .int _, .non => some false
  | .int a, .bl b => some (a == (if b then 1 else 0))
  | .int a, .int b => some (a == b)
  | .int _, .str _ => some false
  | .str _, .non => some false
  | .str _, .bl _ => some false
  | .str _, .int _ => some false
  | .str a, .str b => some (a == b)
  | _, _ => none
def ownR : D → Bool
  | .ptr _ => false
  | .ty _ => false
  | .exn _ _ => false
  | .frl _ => false
  | _ => true
mutual
def eqD (q : EqI) : D → D → Option Bool
  | .ins n fs, d => if ownR d = true then q n (.ins n fs) d else none
  | .tup cs, d => (match d with
    | .tup ds => eqDs q cs ds
    | .lst _ => some false
    | .non => some false
    | .bl _ => some false
    | .int _ => some false
    | .str _ => some false
    | .ins n fs => q n (.ins n fs) (.tup cs)
    | _ => none)
  | .lst cs, d => (match d with
    | .lst ds => if cs.length = ds.length then eqDs q cs ds else some false
    | .tup _ => some false
    | .non => some false
    | .bl _ => some false
    | .int _ => some false
    | .str _ => some false
    | .ins n fs => q n (.ins n fs) (.lst cs)
    | _ => none)
  | c, d => (match c, d with
    | .int i, .ins n fs => q n (.ins n fs) (.int i)
    | .non, .ins n fs => q n (.ins n fs) .non
    | .bl b, .ins n fs => q n (.ins n fs) (.bl b)
    | .str z, .ins n fs => q n (.ins n fs) (.str z)
    | .non, .tup _ => some false
    | .non, .lst _ => some false
    | .bl _, .tup _ => some false
    | .bl _, .lst _ => some false
    | .int _, .tup _ => some false
    | .int _, .lst _ => some false
    | .str _, .tup _ => some false
    | .str _, .lst _ => some false
    | c, d => flatO c d)
def eqDs (q : EqI) : List D → List D → Option Bool
  | [], [] => some true
  | c :: cs, d :: ds => (match eqD q c d with
    | some true => eqDs q cs ds
    | some false => some false
    | none => none)
  | _, _ => some false
end
mutual
def D.dp : D → Nat
  | .tup ds => dps ds + 1
  | .lst ds => dps ds + 1
  | _ => 0
def dps : List D → Nat
  | [] => 0
  | d :: ds => max d.dp (dps ds)
end
section
variable {X : Cx} {S : Sy} {pins : List (Addr × Obj)} {σ : L2.St} {H F : Hp} {s : Shared} {W : Wd}
end
section
variable {X : Cx} {S : Sy} {pins : List (Addr × Obj)} {σ : L2.St} {H F : Hp} {s : Shared} {W : Wd}
end
end Mv
end
section
set_option Elab.async false
set_option linter.all false
set_option maxRecDepth 100000
set_option maxHeartbeats 4000000
namespace Mv
open PySem PySem.Spec PySem.W
section
variable {prog : Program} {w : World} {A : Around} {E : Value → Shared → Prop} {s : Shared} {K : Frag} {x C f L : Addr} {ox : Obj} {od : Option Obj} {i : Int} {t : Tok}
theorem ne_K {b tb : Value} {Q : Value → Shared → Prop} (hu : A.units + 1 < cLine) (X : K.In s.heap) (I : InstAt s.heap x ox C od) (hb : Looks (model prog w) s.heap (typeOf b) tb) (hn : notFirst K C tb = true) (hm : mroIn K C (.type "object") = some true)
    (hne : findIn K (.ref C) "__ne__" = some (some (.builtin "object.__ne__"))) (hs : findIn K (.ref C) "__eq__" = some (some (.ref f))) (hf : isFn K (.ref f) = true)
    (h : wpAny (model prog w) A.in1 (call (.ref f) [.ref x, b]) (fun v s' => ∃ k, v = .bool k ∧ Q (.bool (!k)) s') E s) : wpAny (model prog w) A (richCompare .NotEq (.ref x) b) Q E s := by
  have one : wpAny (model prog w) A (tryCompare (.ref x) (cmpInfo .NotEq).2.1 b) (fun r s' => ∃ v, r = some v ∧ Q v s') E s :=
    wpAny_mono (ne_try hu X I hm hne hs hf h) (fun r s' ⟨k, e, q⟩ => ⟨_, e, q⟩) fun _ _ e => e
  unfold richCompare
  simp only [oneThing_ref]
  refine wpAny_holding (wpAny_bind (wpAny_cRoomFor (Nat.lt_of_succ_lt hu) ?_))
  refine wpAny_bind (I.type.here (wpAny_bind (hb.here ?_)))
  split
  · rename_i q
    have e : subIn K tb (.ref C) = some false := by
      rcases Bool.or_eq_true_iff.mp hn with e | e
      · rw [beq_iff_eq.mp e] at q; simp at q
      · exact beq_iff_eq.mp e
    refine wpAny_bind ((looks_subIn X e).here ?_)
    simp only [Bool.false_eq_true, if_false]
    refine wpAny_bind (wpAny_mono one (fun r s' z => ?_) fun _ _ e => e)
    obtain ⟨v, rfl, hq⟩ := z
    exact wpAny_pure hq
  · refine wpAny_bind (wpAny_pure ?_)
    simp only [Bool.false_eq_true, if_false]
    refine wpAny_bind (wpAny_mono one (fun r s' z => ?_) fun _ _ e => e)
    obtain ⟨v, rfl, hq⟩ := z
    exact wpAny_pure hq
theorem ne_intL {Q : Value → Shared → Prop} (hu : A.units + 1 < cLine) (X : K.In s.heap) (I : InstAt s.heap x ox C od) (hp : ox.data = .plain) (hm : mroIn K C (.type "object") = some true)
    (hsub : subIn K (.ref C) (.type "int") = some false) (hne : findIn K (.ref C) "__ne__" = some (some (.builtin "object.__ne__"))) (hs : findIn K (.ref C) "__eq__" = some (some (.ref f))) (hf : isFn K (.ref f) = true)
    (slot : Slot "int" "__ne__" "int.__ne__") (entry : entryFor table "int.__ne__" = some Builtin.«int.__ne__») (args : ∀ a b, argsOk "int.__ne__" ⟨[a, b], []⟩)
    (h : wpAny (model prog w) A.in1 (call (.ref f) [.ref x, .int i t]) (fun v s' => ∃ k, v = .bool k ∧ Q (.bool (!k)) s') E s) : wpAny (model prog w) A (richCompare .NotEq (.int i t) (.ref x)) Q E s := by
  have two : wpAny (model prog w) A (tryCompare (.ref x) (cmpInfo .NotEq).2.2 (.int i t)) (fun r s' => ∃ v, r = some v ∧ Q v s') E s :=
    wpAny_mono (ne_try hu X I hm hne hs hf h) (fun r s' ⟨k, e, q⟩ => ⟨_, e, q⟩) fun _ _ e => e
  have one : wpAny (model prog w) A (tryCompare (.int i t) (cmpInfo .NotEq).2.1 (.ref x)) (fun r s' => r = none ∧ s' = s) E s :=
    wpAny_tryCompare_declines (typeIs_int s i t) slot (dec_call slot entry args dec_ne I hp ⟨rfl, rfl, rfl⟩)
  unfold richCompare
  refine wpAny_holding ?_
  have z : oneThing? .NotEq (.int i t) (.ref x) = none := rfl
  rw [z]
  refine wpAny_bind (wpAny_cRoomFor (Nat.lt_of_succ_lt hu) ?_)
  refine wpAny_bind (wpAny_typeOf (typeIs_int s i t) (wpAny_bind (I.type.here ?_)))
  rw [if_pos (show (Value.type "int" != Value.ref C) = true from by simp)]
  refine wpAny_bind ((looks_subIn X hsub).here ?_)
  simp only [Bool.false_eq_true, if_false, Bool.not_false, if_true]
  refine wpAny_bind (wpAny_mono one (fun r s' hr => ?_) fun _ _ e => e)
  obtain ⟨rfl, rfl⟩ := hr
  dsimp only
  refine wpAny_bind (wpAny_mono two (fun r s' hr => ?_) fun _ _ e => e)
  obtain ⟨v, rfl, q⟩ := hr
  exact wpAny_pure q
end
end Mv
namespace Mv
open PySem PySem.Spec L2 PyProof.Rows
open Evl (Ex ex_l ex_t ex_rd)
section
variable {X : Cx} {S : Sy} {q : EqI} {j : Nat}
def leftTs : List String := ["int", "NoneType", "bool", "str", "tuple", "list"]
structure EqK (S : Sy) (c : Nat) (d : D) : Prop where
  ty : ∃ t, tyD S (fun _ => none) d = some t ∧ PySem.W.notFirst S.K (S.ca c) t = true
  mo : PySem.W.mroIn S.K (S.ca c) (.type "object") = some true
  ne : PySem.W.findIn S.K (.ref (S.ca c)) "__ne__" = some (some (.builtin "object.__ne__"))
  sb : ∀ T, T ∈ leftTs → PySem.W.subIn S.K (.ref (S.ca c)) (.type T) = some false
structure EqO (X : Cx) (S : Sy) (q : EqI) (j : Nat) : Prop where
  hK : X.K = S.K
  ok : ∀ n fs d b, q n (.ins n fs) d = some b → (D.ins n fs).pf = true ∧ d.pf = true ∧ (D.ins n fs = d → b = true)
  me : ∀ n fs d b, q n (.ins n fs) d = some b → ∃ sp2 : DSp, MtD X.prog X.w S X.mg X.base j n "__eq__" 2 [] sp2 ∧ ∀ (W : Wd) (Q : D → Wd → Prop) (E : D → Wd → Prop), Q (.bl b) W → sp2 [.ins n fs, d] W Q E
  fa : ∀ n fs d b, q n (.ins n fs) d = some b → EqK S n d
def Gd (X : Cx) (S : Sy) (pins : List (Addr × Obj)) (σ : L2.St) (F : Hp) (W : Wd) (s' : Shared) : Prop := ∃ H' F', Inv X pins σ H' s' ∧ Ex F F' ∧ Rel S F' W H'
theorem Gd.back {pins : List (Addr × Obj)} {σ : L2.St} {F F' : Hp} {W : Wd} {s' : Shared} (e : Ex F F') (h : Gd X S pins σ F' W s') : Gd X S pins σ F W s' := by
  obtain ⟨H', F2, I, e', r⟩ := h
  exact ⟨H', F2, I, e.trans e', r⟩
theorem takesF {X : Cx} : Takes X (fun _ _ _ _ => False) := fun _ _ ⟨_, _, _, _, _, _, _, _, _, _, _, _, _, _, _, _, w⟩ => w.elim
theorem srel_none {S : Sy} {F : Hp} (σ : L2.St) : SRel S F σ (σ.map fun _ => none) := ⟨by simp, fun i d h => by
  rw [List.getElem?_map] at h
  cases e : σ[i]? with
  | none => rw [e] at h; cases h
  | some v => rw [e] at h; cases h⟩
theorem run_eq (O : EqO X S q j) {A : Around} {pins : List (Addr × Obj)} {s : Shared} {σ : L2.St} {H F : Hp} {W : Wd} {n : Nat} {fs : List (Nat × D)} {d : D} {b : Bool} {a f : Addr} {y : V} {u : Value} (sb : Sub X j A) (I : Inv X pins σ H s) (rl : Rel S F W H)
    (px : Rp S F (.ref a) (.ins n fs)) (ry : RelV y u) (py : Rp S F y d) (h : q n (.ins n fs) d = some b) (mt : Meth X.K (S.ca n) "__eq__" f) :
    wpAny (model X.prog X.w) A (call (.ref f) [.ref a, u]) (fun v s' => v = .bool b ∧ Gd X S pins σ F W s') X.xe s := by
  obtain ⟨sp2, ⟨cl, f', mt', G⟩, hs⟩ := O.me n fs d b h
  rw [← O.hK] at mt'
  have ef : f' = f := by
    have := mt'.at_
    rw [mt.at_] at this
    cases this
    rfl
  subst ef
  have e0 : Env0 X.prog X.w X.K X.mg X.base A X.stack s H := by
    have e := I.env0
    exact ⟨by rw [sb.fr]; exact e.frames, e.mod, e.bs, e.bsz, e.funs, e.frf, e.hok, e.bare⟩
  refine thn (run_at (Q2 := fun d' W' => d' = .bl b ∧ W' = W) (E2 := fun _ _ _ => False) (us := [.ref a, u]) (vs := [.ref a, y]) (ds := [.ins n fs, d]) (E := fun _ _ _ _ => False) O.hK G sb.room e0 takesF I rl (srel_none σ) (fun _ _ _ _ _ _ _ _ _ _ _ _ _ _ z => z) (.cons rfl (.cons ry .nil)) (.cons px (.cons py .nil)) ⟨by simp, by simp, ?_⟩) fun u s' z => ?_
  · exact hs _ _ _ ⟨rfl, rfl⟩
  · obtain ⟨v, H', F', d', W', I', rv, e, rl', rp, rfl, rfl⟩ := z
    cases rp
    cases rv
    exact ⟨rfl, H', F', I', e, rl'⟩
mutual
theorem fnq {pins : List (Addr × Obj)} {σ : L2.St} {H F : Hp} {s : Shared} (O : EqO X S q j) (I : Inv X pins σ H s) (e : Ex F H) : ∀ (c : D) (v : V) (d : D) (b : Bool), Rp S F v c → Rp S F v d → eqD q c d = some b → b = true
  | .ins n fs, v, d, b, r, r', h => by
    unfold eqD at h
    by_cases ho : ownR d = true
    · rw [if_pos ho] at h
      obtain ⟨p1, p2, p3⟩ := O.ok n fs d b h
      exact p3 (Rp.fn O.hK I e r r' p1 p2)
    · rw [if_neg ho] at h; cases h
  | .tup cs, v, d, b, r, r', h => by
    cases r with
    | @tup a vs _ h1 r1 =>
      have k1 : SqT X.K H a vs := by rw [O.hK]; exact ex_t e h1.1
      cases r' with
      | @tup _ vs2 ds h2 r2 =>
        have k2 : SqT X.K H a vs2 := by rw [O.hK]; exact ex_t e h2.1
        have z := I.tuple_inj k1 k2
        subst z
        unfold eqD at h
        exact fnqs O I e cs vs ds b r1 r2 h
      | lst h2 r2 => exact (not_both I k1 (SqL.of (e _ _ h2))).elim
      | @ins _ _ m us gs h2 r2 =>
        have h : q m (.ins m gs) (.tup cs) = some b := by unfold eqD at h; exact h
        obtain ⟨p1, p2, p3⟩ := O.ok _ _ _ b h
        have z := Rp.fn O.hK I e (.ins h2 r2) (.tup h1 r1) p1 p2
        cases z
      | _ => unfold eqD at h; cases h
  | .lst cs, v, d, b, r, r', h => by
    cases r with
    | @lst a vs _ h1 r1 =>
      have k1 : SqL X.K H a vs := SqL.of (e _ _ h1)
      cases r' with
      | @lst _ vs2 ds h2 r2 =>
        have k2 : SqL X.K H a vs2 := SqL.of (e _ _ h2)
        have z := I.list_inj k1 k2
        subst z
        unfold eqD at h
        dsimp only at h
        rw [if_pos (r1.length.symm.trans r2.length)] at h
        exact fnqs O I e cs vs ds b r1 r2 h
      | tup h2 r2 => exact (not_both I (by rw [O.hK]; exact ex_t e h2.1) k1).elim
      | @ins _ _ m us gs h2 r2 =>
        have h : q m (.ins m gs) (.lst cs) = some b := by unfold eqD at h; exact h
        obtain ⟨p1, p2, p3⟩ := O.ok _ _ _ b h
        have z := Rp.fn O.hK I e (.ins h2 r2) (.lst h1 r1) p1 p2
        cases z
      | _ => unfold eqD at h; cases h
  | .non, v, d, b, r, r', h => by
    cases r; cases r'
    simp only [eqD, flatO, Option.some.injEq] at h
    exact h.symm
  | .bl x, v, d, b, r, r', h => by
    cases r; cases r'
    simp only [eqD, flatO, Option.some.injEq] at h
    simpa using h.symm
  | .int x, v, d, b, r, r', h => by
    cases r; cases r'
    simp only [eqD, flatO, Option.some.injEq] at h
    simpa using h.symm
  | .str x, v, d, b, r, r', h => by
    cases r; cases r'
    simp only [eqD, flatO, Option.some.injEq] at h
    simpa using h.symm
  | .ty x, v, d, b, r, r', h => by
    cases r; cases r'
    simp [eqD, flatO] at h
  | .ptr x, v, d, b, r, r', h => by
    cases r
    cases r' <;> simp [eqD, flatO] at h
  | .dK x, v, d, b, r, r', h => by
    cases r
    cases r' <;> simp [eqD, flatO] at h
  | .dT x, v, d, b, r, r', h => by
    cases r
    cases r' <;> simp [eqD, flatO] at h
  | .frl x, v, d, b, r, r', h => by
    cases r
    cases r' <;> simp [eqD, flatO] at h
theorem fnqs {pins : List (Addr × Obj)} {σ : L2.St} {H F : Hp} {s : Shared} (O : EqO X S q j) (I : Inv X pins σ H s) (e : Ex F H) : ∀ (cs : List D) (vs : List V) (ds : List D) (b : Bool), Rps S F vs cs → Rps S F vs ds → eqDs q cs ds = some b → b = true
  | [], _, _, b, .nil, .nil, h => by
    simp only [eqDs, Option.some.injEq] at h
    exact h.symm
  | c :: cs, _, d :: ds, b, .cons r1 t1, .cons r2 t2, h => by
    unfold eqDs at h
    cases hq : eqD q c d with
    | none => rw [hq] at h; cases h
    | some k =>
      have hk := fnq O I e c _ d k r1 r2 hq
      subst hk
      rw [hq] at h
      exact fnqs O I e cs _ ds b t1 t2 h
  | _ :: _, _, [], _, .cons _ _, r2, _ => by cases r2
end
def RcP (X : Cx) (S : Sy) (q : EqI) (j n : Nat) : Prop := ∀ (neg : Bool) (A : Around) (pins : List (Addr × Obj)) (s : Shared) (σ : L2.St) (H F : Hp) (W : Wd) (v u : Value) (x y : V) (c d : D) (b : Bool), c.dp ≤ n → Sub X (j + 1 + n) A → Inv X pins σ H s → Rel S F W H → RelV x v → RelV y u → Rp S F x c → Rp S F y d → eqD q c d = some b →
  wpAny (model X.prog X.w) A (richCompare (if neg = true then .NotEq else .Eq) v u) (fun r s' => r = .bool (if neg = true then !b else b) ∧ Gd X S pins σ F W s') X.xe s
def EqP (X : Cx) (S : Sy) (q : EqI) (j n : Nat) : Prop := ∀ (A : Around) (pins : List (Addr × Obj)) (s : Shared) (σ : L2.St) (H F : Hp) (W : Wd) (v u : Value) (x y : V) (c d : D) (b : Bool), c.dp ≤ n → Sub X (j + 1 + n) A → Inv X pins σ H s → Rel S F W H → RelV x v → RelV y u → Rp S F x c → Rp S F y d → eqD q c d = some b →
  wpAny (model X.prog X.w) A (eqBool v u) (fun r s' => r = b ∧ Gd X S pins σ F W s') X.xe s
theorem relv_fn {x y : V} {v : Value} (h : RelV x v) (h' : RelV y v) : x = y := by
  have h1 : Vals [x] [v] := .cons h .nil
  have h2 : Vals [y] [v] := .cons h' .nil
  have := h1.inj h2
  cases this
  rfl
theorem eqBool_rc {M : Model} {A : Around} {s : Shared} {E : Value → Shared → Prop} {Q : Bool → Shared → Prop} {v u : Value} (hv : ∀ b t, v ≠ .float b t) (hne : v ≠ u) (h : wpAny M A (richCompare .Eq v u) (fun r s' => ∃ b, r = .bool b ∧ Q b s') E s) : wpAny M A (eqBool v u) Q E s := by
  unfold eqBool
  refine wpAny_holding (wpAny_ite_split (fun hab => absurd (eq_of_beq hab) hne) fun _ => ?_)
  cases v <;> first
    | exact absurd rfl (hv _ _)
    | (refine wpAny_bind (wpAny_mono h (fun r s' z => ?_) fun _ _ z => z)
       obtain ⟨b, rfl, q⟩ := z
       exact wpAny_truthy_bool q)
theorem nofloat {S : Sy} {F : Hp} {x : V} {c : D} {v : Value} (px : Rp S F x c) (rx : RelV x v) : ∀ b t, v ≠ .float b t := by
  intro b t e
  subst e
  cases px <;> first
    | (rcases rx with ⟨_, e⟩; cases e; done)
    | (cases rx; done)
theorem eqP_of {n : Nat} (O : EqO X S q j) (h : RcP X S q j n) : EqP X S q j n := by
  intro A pins s σ H F W v u x y c d b hd sb I rl rx ry px py hq
  by_cases e : v = u
  · subst e
    have exy := relv_fn rx ry
    subst exy
    have hb := fnq O I rl.sub c x d b px py hq
    subst hb
    exact SeqAt.EqAt.same v X.prog X.w X.xe _ ⟨rfl, H, F, I, Ex.refl _, rl⟩
  · refine eqBool_rc (nofloat px rx) e (wpAny_mono (h false A pins s σ H F W v u x y c d b hd sb I rl rx ry px py hq) (fun r s' z => ?_) fun _ _ z => z)
    obtain ⟨rfl, g⟩ := z
    exact ⟨b, rfl, rfl, g⟩
def RestI (X : Cx) (S : Sy) (q : EqI) (pins : List (Addr × Obj)) (σ : L2.St) (F : Hp) (W : Wd) (cs ds : List D) (b : Bool) (i : Nat) (s' : Shared) : Prop :=
  Gd X S pins σ F W s' ∧ eqDs q (cs.drop i) (ds.drop i) = some b
theorem turnQ {n : Nat} (h : EqP X S q j n) {A : Around} (sb : Sub X (j + 1 + (n + 1)) A) {pins : List (Addr × Obj)} {σ : L2.St} {F : Hp} {W : Wd} {xs ys : List V} {cs ds : List D} {its its2 : List Value} {b : Bool} (rc : Rps S F xs cs) (rd : Rps S F ys ds) (hdp : dps cs ≤ n) (r : Vals xs its) (r2 : Vals ys its2)
    (i : Nat) (h1 : i < its.toArray.size) (h2 : i < its2.toArray.size) (s' : Shared) (l : RestI X S q pins σ F W cs ds b i s') :
    wpAny (model X.prog X.w) A.in1 (eqBool its.toArray[i] its2.toArray[i]) (fun z s2 => (z = true ∧ RestI X S q pins σ F W cs ds b (i + 1) s2) ∨ (z = false ∧ RestI X S q pins σ F W cs ds b i s2 ∧ b = false)) X.xe s' := by
  obtain ⟨⟨H1, F1, I1, e1, rl1⟩, hq⟩ := l
  have g1 : its[i]? = some its.toArray[i] := by
    have h1' : i < its.length := by simpa using h1
    rw [List.getElem?_eq_getElem h1'] <;> simp
  have g2 : its2[i]? = some its2.toArray[i] := by
    have h2' : i < its2.length := by simpa using h2
    rw [List.getElem?_eq_getElem h2'] <;> simp
  have k1 : i < xs.length := by rw [r.length]; simpa using h1
  have k2 : i < ys.length := by rw [r2.length]; simpa using h2
  have c1 : i < cs.length := by rw [← rc.length]; exact k1
  have c2 : i < ds.length := by rw [← rd.length]; exact k2
  obtain ⟨u, hu, ru⟩ := r.get (List.getElem?_eq_getElem k1)
  obtain ⟨v, hv, rv⟩ := r2.get (List.getElem?_eq_getElem k2)
  rw [g1] at hu
  rw [g2] at hv
  rw [Option.some.inj hu, Option.some.inj hv]
  obtain ⟨x, hx, px⟩ := rc.get (List.getElem?_eq_getElem c1)
  obtain ⟨y, hy, py⟩ := rd.get (List.getElem?_eq_getElem c2)
  rw [List.getElem?_eq_getElem k1] at hx
  rw [List.getElem?_eq_getElem k2] at hy
  rw [Option.some.inj hx] at ru
  rw [Option.some.inj hy] at rv
  have hq0 := hq
  rw [List.drop_eq_getElem_cons c1, List.drop_eq_getElem_cons c2] at hq
  unfold eqDs at hq
  have dle : ∀ {cs : List D} {i : Nat} (hi : i < cs.length), (cs[i]).dp ≤ dps cs := by
    intro cs
    induction cs with
    | nil => intro i hi; simp at hi
    | cons c cs ih =>
      intro i hi
      cases i with
      | zero => show c.dp ≤ max c.dp (dps cs); omega
      | succ i =>
        have := ih (i := i) (by simpa using hi)
        show (cs[i]'(by simpa using hi)).dp ≤ max c.dp (dps cs)
        omega
  cases hk : eqD q cs[i] ds[i] with
  | none => rw [hk] at hq; cases hq
  | some k =>
    rw [hk] at hq
    refine wpAny_mono (h A.in1 pins s' σ H1 F1 W u v x y cs[i] ds[i] k (Nat.le_trans (dle c1) hdp) sb.in1 I1 rl1 ru rv (px.mono e1) (py.mono e1) hk) (fun z s2 ⟨hz, g⟩ => ?_) fun _ _ x => x
    subst hz
    cases z with
    | true => exact .inl ⟨rfl, g.back e1, hq⟩
    | false =>
      have : b = false := by
        have hq' : some false = some b := hq
        cases hq'
        rfl
      exact .inr ⟨rfl, ⟨g.back e1, hq0⟩, this⟩
theorem eqDs_end {cs ds : List D} {b : Bool} : ∀ {m : Nat}, m = min cs.length ds.length → eqDs q (cs.drop m) (ds.drop m) = some b → b = (cs.length == ds.length) := by
  intro m hm h
  rcases Nat.lt_trichotomy cs.length ds.length with hl | hl | hl
  · have e1 : cs.drop m = [] := List.drop_of_length_le (by omega)
    rw [e1, List.drop_eq_getElem_cons (show m < ds.length by omega)] at h
    simp only [eqDs, Option.some.injEq] at h
    rw [← h]
    exact (beq_eq_false_iff_ne.mpr (by omega)).symm
  · have e1 : cs.drop m = [] := List.drop_of_length_le (by omega)
    have e2 : ds.drop m = [] := List.drop_of_length_le (by omega)
    rw [e1, e2] at h
    simp only [eqDs, Option.some.injEq] at h
    rw [← h, hl]
    simp
  · have e2 : ds.drop m = [] := List.drop_of_length_le (by omega)
    rw [e2, List.drop_eq_getElem_cons (show m < cs.length by omega)] at h
    simp only [eqDs, Option.some.injEq] at h
    rw [← h]
    exact (beq_eq_false_iff_ne.mpr (by omega)).symm
open GQ (call_here FinOf)
theorem rc_lists {n : Nat} (O : EqO X S q j) (h : EqP X S q j n) (neg : Bool) {A : Around} (sb : Sub X (j + 1 + (n + 1)) A) {pins : List (Addr × Obj)} {s : Shared} {σ : L2.St} {H F : Hp} {W : Wd} {cs ds : List D} {xs ys : List V} {a a2 : Addr} {b : Bool} (I : Inv X pins σ H s) (rl : Rel S F W H)
    (ha : F a = some (.lst xs)) (hb : F a2 = some (.lst ys)) (rc : Rps S F xs cs) (rd : Rps S F ys ds) (hdp : dps cs ≤ n) (hq : (if cs.length = ds.length then eqDs q cs ds else some false) = some b) :
    wpAny (model X.prog X.w) A (richCompare (if neg = true then .NotEq else .Eq) (.ref a) (.ref a2)) (fun r s' => r = .bool (if neg = true then !b else b) ∧ Gd X S pins σ F W s') X.xe s := by
  obtain ⟨z, its, k, r, e⟩ := I.hok a _ (rl.sub _ _ ha)
  obtain ⟨z2, its2, k2, r2, e2⟩ := I.hok a2 _ (rl.sub _ _ hb)
  have g0 : Gd X S pins σ F W s := ⟨H, F, I, Ex.refl _, rl⟩
  have sz1 : its.toArray.size = cs.length := by rw [List.size_toArray, ← r.length, rc.length]
  have sz2 : its2.toArray.size = ds.length := by rw [List.size_toArray, ← r2.length, rd.length]
  by_cases hl : cs.length = ds.length
  · rw [if_pos hl] at hq
    have hI : RestI X S q pins σ F W cs ds b 0 s := ⟨g0, hq⟩
    have hL : ListJ X.prog X.w A X.xe a a2 cs.length (RestI X S q pins σ F W cs ds b) (fun s' => b = false ∧ Gd X S pins σ F W s') := fun i s' l => by
      obtain ⟨⟨H1, F1, I1, e1, rl1⟩, hq'⟩ := id l
      obtain ⟨z, its, k, r, e⟩ := I1.hok a _ (rl1.sub _ _ (e1 _ _ ha))
      obtain ⟨z2, its2, k2, r2, e2⟩ := I1.hok a2 _ (rl1.sub _ _ (e1 _ _ hb))
      refine ⟨its.toArray, its2.toArray, k, k2, e, e2, by rw [List.size_toArray, ← r.length, rc.length], by rw [List.size_toArray, ← r2.length, rd.length, hl], fun h1 h2 => ?_⟩
      refine wpAny_mono (turnQ h sb rc rd hdp r r2 i h1 h2 s' l) (fun z s2 hz => ?_) fun _ _ x => x
      rcases hz with hz | ⟨h1, h2, h3⟩
      · exact .inl hz
      · exact .inr ⟨h1, h2, h3, h2.1⟩
    have fin : ∀ s', RestI X S q pins σ F W cs ds b cs.length s' → b = true ∧ Gd X S pins σ F W s' := fun s' l => by
      have := eqDs_end (q := q) (m := cs.length) (by omega) l.2
      rw [this]
      exact ⟨by simp [hl], l.1⟩
    cases neg with
    | false =>
      refine wpAny_richCompare_same_room (op := .Eq) ⟨_, e, rfl⟩ ⟨_, e2, rfl⟩ PySem.F.slot_list_eq (call_here PySem.F.slot_list_eq ⟨_, e, rfl⟩ PySem.F.entry_list_eq (PySem.F.args_list_eq_2 _ _) ?_) sb.room.units0
      exact list_eqJ (R := wants (fun v s' => v ≠ .notImplemented ∧ (v = .bool b ∧ Gd X S pins σ F W s')) X.xe) a a2 cs.length _ _ hL (fun s' l => ⟨(fun x => nomatch x), by rw [(fin s' l).1], (fin s' l).2⟩) (fun s' l => ⟨(fun x => nomatch x), by rw [l.1], l.2⟩) hI
    | true =>
      refine wpAny_richCompare_same_room (op := .NotEq) ⟨_, e, rfl⟩ ⟨_, e2, rfl⟩ PySem.F.slot_list_ne (call_here PySem.F.slot_list_ne ⟨_, e, rfl⟩ PySem.F.entry_list_ne (PySem.F.args_list_ne_2 _ _) ?_) sb.room.units0
      exact list_neJ (R := wants (fun v s' => v ≠ .notImplemented ∧ (v = .bool !b ∧ Gd X S pins σ F W s')) X.xe) a a2 cs.length _ _ hL (fun s' l => ⟨(fun x => nomatch x), by rw [(fin s' l).1]; rfl, (fin s' l).2⟩) (fun s' l => ⟨(fun x => nomatch x), by rw [l.1]; rfl, l.2⟩) hI
  · rw [if_neg hl] at hq
    cases hq
    have hz : its.toArray.size ≠ its2.toArray.size := by rw [sz1, sz2]; exact hl
    cases neg with
    | false =>
      refine wpAny_richCompare_same_room (op := .Eq) ⟨_, e, rfl⟩ ⟨_, e2, rfl⟩ PySem.F.slot_list_eq (call_here PySem.F.slot_list_eq ⟨_, e, rfl⟩ PySem.F.entry_list_eq (PySem.F.args_list_eq_2 _ _) ?_) sb.room.units0
      exact list_eqZ (R := wants (fun v s' => v ≠ .notImplemented ∧ (v = .bool false ∧ Gd X S pins σ F W s')) X.xe) e e2 hz ⟨(fun x => nomatch x), rfl, g0⟩
    | true =>
      refine wpAny_richCompare_same_room (op := .NotEq) ⟨_, e, rfl⟩ ⟨_, e2, rfl⟩ PySem.F.slot_list_ne (call_here PySem.F.slot_list_ne ⟨_, e, rfl⟩ PySem.F.entry_list_ne (PySem.F.args_list_ne_2 _ _) ?_) sb.room.units0
      exact list_neZ (R := wants (fun v s' => v ≠ .notImplemented ∧ (v = .bool true ∧ Gd X S pins σ F W s')) X.xe) e e2 hz ⟨(fun x => nomatch x), rfl, g0⟩
theorem rc_tups {n : Nat} (O : EqO X S q j) (h : EqP X S q j n) (neg : Bool) {A : Around} (sb : Sub X (j + 1 + (n + 1)) A) {pins : List (Addr × Obj)} {s : Shared} {σ : L2.St} {H F : Hp} {W : Wd} {cs ds : List D} {xs ys : List V} {a a2 : Addr} {b : Bool} (I : Inv X pins σ H s) (rl : Rel S F W H)
    (ha : SqT S.K F a xs) (hb : SqT S.K F a2 ys) (rc : Rps S F xs cs) (rd : Rps S F ys ds) (hdp : dps cs ≤ n) (hq : eqDs q cs ds = some b) :
    wpAny (model X.prog X.w) A (richCompare (if neg = true then .NotEq else .Eq) (.ref a) (.ref a2)) (fun r s' => r = .bool (if neg = true then !b else b) ∧ Gd X S pins σ F W s') X.xe s := by
  obtain ⟨its, r, ht, z⟩ := I.tuple (by rw [O.hK]; exact ex_t rl.sub ha)
  obtain ⟨its2, r2, ht2, z2⟩ := I.tuple (by rw [O.hK]; exact ex_t rl.sub hb)
  obtain ⟨⟨cls, dd, data, sl⟩, ho, hc, k, hd⟩ := id ht
  obtain ⟨⟨cls2, dd2, data2, sl2⟩, ho2, hc2, k2, hd2⟩ := id ht2
  simp only at hc hd hc2 hd2
  subst hc hd hc2 hd2
  have g0 : Gd X S pins σ F W s := ⟨H, F, I, Ex.refl _, rl⟩
  have sz1 : its.toArray.size = cs.length := by rw [List.size_toArray, ← r.length, rc.length]
  have sz2 : its2.toArray.size = ds.length := by rw [List.size_toArray, ← r2.length, rd.length]
  have hI : RestI X S q pins σ F W cs ds b 0 s := ⟨g0, hq⟩
  have turn : ∀ i (h1 : i < its.toArray.size) (h2 : i < its2.toArray.size) s', RestI X S q pins σ F W cs ds b i s' → wpAny (model X.prog X.w) A.in1 (eqBool its.toArray[i] its2.toArray[i]) (fun z s2 => (z = true ∧ RestI X S q pins σ F W cs ds b (i + 1) s2) ∨ (z = false ∧ (b = false ∧ Gd X S pins σ F W s2))) X.xe s' := fun i h1 h2 s' l =>
    wpAny_mono (turnQ h sb rc rd hdp r r2 i h1 h2 s' l) (fun z s2 hz => hz.elim .inl fun ⟨h1, h2, h3⟩ => .inr ⟨h1, h3, h2.1⟩) fun _ _ x => x
  have fin : ∀ s', RestI X S q pins σ F W cs ds b (min its.toArray.size its2.toArray.size) s' → b = (its.toArray.size == its2.toArray.size) ∧ Gd X S pins σ F W s' := fun s' l => by
    rw [sz1, sz2] at l ⊢
    exact ⟨eqDs_end rfl l.2, l.1⟩
  cases neg with
  | false =>
    refine wpAny_richCompare_same_room (op := .Eq) ⟨_, ho, rfl⟩ ⟨_, ho2, rfl⟩ PySem.F.slot_tuple_eq (call_here PySem.F.slot_tuple_eq ⟨_, ho, rfl⟩ PySem.F.entry_tuple_eq (PySem.F.args_tuple_eq_2 _ _) ?_) sb.room.units0
    exact tuple_eqJ (R := wants (fun v s' => v ≠ .notImplemented ∧ (v = .bool b ∧ Gd X S pins σ F W s')) X.xe) a a2 its.toArray its2.toArray k k2 dd dd2 sl sl2 _ (fun s' => b = false ∧ Gd X S pins σ F W s') turn (fun s' l => ⟨(fun x => nomatch x), by rw [(fin s' l).1], (fin s' l).2⟩) (fun s' l => ⟨(fun x => nomatch x), by rw [l.1], l.2⟩) ho ho2 hI
  | true =>
    refine wpAny_richCompare_same_room (op := .NotEq) ⟨_, ho, rfl⟩ ⟨_, ho2, rfl⟩ PySem.F.slot_tuple_ne (call_here PySem.F.slot_tuple_ne ⟨_, ho, rfl⟩ PySem.F.entry_tuple_ne (PySem.F.args_tuple_ne_2 _ _) ?_) sb.room.units0
    exact tuple_neJ (R := wants (fun v s' => v ≠ .notImplemented ∧ (v = .bool !b ∧ Gd X S pins σ F W s')) X.xe) a a2 its.toArray its2.toArray k k2 dd dd2 sl sl2 _ (fun s' => b = false ∧ Gd X S pins σ F W s') turn (fun s' l => ⟨(fun x => nomatch x), by rw [(fin s' l).1]; rfl, (fin s' l).2⟩) (fun s' l => ⟨(fun x => nomatch x), by rw [l.1]; rfl, l.2⟩) ho ho2 hI
end
end Mv
end
section
set_option Elab.async false
set_option linter.all false
set_option maxRecDepth 100000
set_option maxHeartbeats 4000000
namespace Mv
open PySem PySem.Spec PySem.W
section
variable {prog : Program} {w : World} {A : Around} {E : Value → Shared → Prop} {s : Shared} {K : Frag} {x C f L : Addr} {ox : Obj} {od : Option Obj} {v : Value} {T : String}
open AutoSeq1 (wpAny_loadPart')
theorem cmp_left {Q : Value → Shared → Prop} (hu : A.units < cLine) (X : K.In s.heap) (I : InstAt s.heap x ox C od) (hT : s.TypeIs v T)
    (one : wpAny (model prog w) A (tryCompare v (cmpInfo .Eq).2.1 (.ref x)) (fun r s' => r = none ∧ s' = s) E s) (hsub : subIn K (.ref C) (.type T) = some false)
    (hs : findIn K (.ref C) (cmpInfo .Eq).2.2 = some (some (.ref f))) (hf : isFn K (.ref f) = true)
    (h : wpAny (model prog w) A (call (.ref f) [.ref x, v]) (CmpBack Q) E s) : wpAny (model prog w) A (richCompare .Eq v (.ref x)) Q E s := by
  have two : wpAny (model prog w) A (tryCompare (.ref x) (cmpInfo .Eq).2.2 v) (fun r s' => ∃ v, r = some v ∧ Q v s') E s := by
    unfold tryCompare
    refine wpAny_bind (ifBound_K X I hs hf (wpAny_mono h (fun v s' hv => ?_) fun _ _ e => e))
    cases v <;> first | exact hv.elim | exact wpAny_pure ⟨_, rfl, hv⟩
  unfold richCompare
  refine wpAny_holding ?_
  rw [show oneThing? .Eq v (.ref x) = none from hT.oneThing_none _ _]
  refine wpAny_bind (wpAny_cRoomFor hu ?_)
  refine wpAny_bind (wpAny_typeOf hT (wpAny_bind (I.type.here ?_)))
  rw [if_pos (show (Value.type T != Value.ref C) = true from by simp)]
  refine wpAny_bind ((looks_subIn X hsub).here ?_)
  simp only [Bool.false_eq_true, if_false, Bool.not_false, if_true]
  refine wpAny_bind (wpAny_mono one (fun r s' hr => ?_) fun _ _ e => e)
  obtain ⟨rfl, rfl⟩ := hr
  dsimp only
  refine wpAny_bind (wpAny_mono two (fun r s' hr => ?_) fun _ _ e => e)
  obtain ⟨v, rfl, q⟩ := hr
  exact wpAny_pure q
theorem ne_left {Q : Value → Shared → Prop} (hu : A.units + 1 < cLine) (X : K.In s.heap) (I : InstAt s.heap x ox C od) (hT : s.TypeIs v T) (hm : mroIn K C (.type "object") = some true)
    (one : wpAny (model prog w) A (tryCompare v (cmpInfo .NotEq).2.1 (.ref x)) (fun r s' => r = none ∧ s' = s) E s) (hsub : subIn K (.ref C) (.type T) = some false)
    (hne : findIn K (.ref C) "__ne__" = some (some (.builtin "object.__ne__"))) (hs : findIn K (.ref C) "__eq__" = some (some (.ref f))) (hf : isFn K (.ref f) = true)
    (h : wpAny (model prog w) A.in1 (call (.ref f) [.ref x, v]) (fun v s' => ∃ k, v = .bool k ∧ Q (.bool (!k)) s') E s) : wpAny (model prog w) A (richCompare .NotEq v (.ref x)) Q E s := by
  have two : wpAny (model prog w) A (tryCompare (.ref x) (cmpInfo .NotEq).2.2 v) (fun r s' => ∃ v, r = some v ∧ Q v s') E s :=
    wpAny_mono (ne_try hu X I hm hne hs hf h) (fun r s' ⟨k, e, q⟩ => ⟨_, e, q⟩) fun _ _ e => e
  unfold richCompare
  refine wpAny_holding ?_
  rw [show oneThing? .NotEq v (.ref x) = none from hT.oneThing_none _ _]
  refine wpAny_bind (wpAny_cRoomFor (Nat.lt_of_succ_lt hu) ?_)
  refine wpAny_bind (wpAny_typeOf hT (wpAny_bind (I.type.here ?_)))
  rw [if_pos (show (Value.type T != Value.ref C) = true from by simp)]
  refine wpAny_bind ((looks_subIn X hsub).here ?_)
  simp only [Bool.false_eq_true, if_false, Bool.not_false, if_true]
  refine wpAny_bind (wpAny_mono one (fun r s' hr => ?_) fun _ _ e => e)
  obtain ⟨rfl, rfl⟩ := hr
  dsimp only
  refine wpAny_bind (wpAny_mono two (fun r s' hr => ?_) fun _ _ e => e)
  obtain ⟨v, rfl, q⟩ := hr
  exact wpAny_pure q
theorem LeftK.ty (h : LeftK s v T) : s.TypeIs v T := by
  cases h with
  | non => rfl
  | bl b => rfl
  | str z t => rfl
  | tup h => exact h
  | lst h => exact h
end
end Mv
end
section
set_option Elab.async false
set_option linter.all false
set_option maxRecDepth 100000
set_option maxHeartbeats 4000000
namespace Mv
open PySem PySem.Spec L2 PyProof.Rows
open Evl (Ex ex_l ex_t ex_rd)
section
variable {X : Cx} {S : Sy} {q : EqI} {j : Nat}
theorem own_rd {q : EqI} {n : Nat} {fs : List (Nat × D)} {d : D} {b : Bool} (h : eqD q (.ins n fs) d = some b) : ownR d = true ∧ q n (.ins n fs) d = some b := by
  unfold eqD at h
  by_cases ho : ownR d = true
  · rw [if_pos ho] at h; exact ⟨ho, h⟩
  · rw [if_neg ho] at h; cases h
theorem tyD_W {S : Sy} {W : Wd} {d : D} {t : Value} (ho : ownR d = true) (h : tyD S (fun _ => none) d = some t) : tyD S W d = some t := by
  cases d <;> first | exact h | cases ho
theorem rc_own (O : EqO X S q j) (neg : Bool) {A : Around} (sb : Sub X (j + 1) A) {pins : List (Addr × Obj)} {s : Shared} {σ : L2.St} {H F : Hp} {W : Wd} {n : Nat} {fs : List (Nat × D)} {d : D} {b : Bool} {x y : V} {v u : Value} (I : Inv X pins σ H s) (rl : Rel S F W H)
    (rx : RelV x v) (ry : RelV y u) (px : Rp S F x (.ins n fs)) (py : Rp S F y d) (ho : ownR d = true) (h : q n (.ins n fs) d = some b) :
    wpAny (model X.prog X.w) A (richCompare (if neg = true then .NotEq else .Eq) v u) (fun r s' => r = .bool (if neg = true then !b else b) ∧ Gd X S pins σ F W s') X.xe s := by
  have px0 := px
  cases px with
  | @ins a dx _ vs _ hq r1 =>
    obtain rfl : v = Value.ref a := rx
    obtain ⟨⟨t, ty, hn⟩, mo, ne, hsb⟩ := O.fa n fs d b h
    obtain ⟨_, ⟨cl, f, mt, G⟩, _⟩ := O.me n fs d b h
    rw [← O.hK] at mt
    obtain ⟨mA, J0, _⟩ := ins_get I.hok (rl.sub _ _ hq)
    obtain ⟨od, J, _⟩ := J0.look
    obtain ⟨m0, hFr⟩ := I.fr
    have lk := look_ty (M := model X.prog X.w) O.hK I rl ry py (tyD_W ho ty)
    cases neg with
    | false =>
      refine PySem.W.cmp_K (op := .Eq) sb.room.units0 hFr I.ok.mod.kin J lk (by rw [O.hK]; exact hn) mt.at_ mt.fn ?_
      refine thn (run_eq O (sb.mono (Nat.le_succ j)) I rl px0 ry py h mt) fun r s' z => ?_
      obtain ⟨rfl, g⟩ := z
      exact ⟨rfl, g⟩
    | true =>
      refine ne_K (Nat.lt_of_le_of_lt (by omega) sb.room.units) I.kIn J lk (by rw [O.hK]; exact hn) (by rw [O.hK]; exact mo) (by rw [O.hK]; exact ne) mt.at_ mt.fn ?_
      refine thn (run_eq O sb.in1 I rl px0 ry py h mt) fun r s' z => ?_
      obtain ⟨rfl, g⟩ := z
      exact ⟨b, rfl, rfl, g⟩
theorem rc_intl (O : EqO X S q j) (neg : Bool) {A : Around} (sb : Sub X (j + 1) A) {pins : List (Addr × Obj)} {s : Shared} {σ : L2.St} {H F : Hp} {W : Wd} {n : Nat} {fs : List (Nat × D)} {i : Int} {b : Bool} {y : V} {t : Tok} {u : Value} (I : Inv X pins σ H s) (rl : Rel S F W H)
    (ry : RelV y u) (py : Rp S F y (.ins n fs)) (h : q n (.ins n fs) (.int i) = some b) :
    wpAny (model X.prog X.w) A (richCompare (if neg = true then .NotEq else .Eq) (.int i t) u) (fun r s' => r = .bool (if neg = true then !b else b) ∧ Gd X S pins σ F W s') X.xe s := by
  have py0 := py
  cases py with
  | @ins a dx _ vs _ hq r1 =>
    obtain rfl : u = Value.ref a := ry
    obtain ⟨_, mo, ne, hsb⟩ := O.fa n fs _ b h
    have hsb := hsb "int" (.head _)
    obtain ⟨_, ⟨cl, f, mt, G⟩, _⟩ := O.me n fs _ b h
    rw [← O.hK] at mt
    obtain ⟨mA, J0, _⟩ := ins_get I.hok (rl.sub _ _ hq)
    obtain ⟨od, J, _⟩ := J0.look
    cases neg with
    | false =>
      refine cmp_intL (op := .Eq) sb.room.units0 I.kIn J rfl PySem.F.slot_int_eq PySem.F.entry_int_eq (fun a b => PySem.F.args_int_eq_2 _ _) dec_eq (by rw [O.hK]; exact hsb) mt.at_ mt.fn ?_
      refine thn (run_eq O (sb.mono (Nat.le_succ j)) (y := .int i) I rl py0 ⟨t, rfl⟩ (.int i) h mt) fun r s' z => ?_
      obtain ⟨rfl, g⟩ := z
      exact ⟨rfl, g⟩
    | true =>
      refine ne_intL (Nat.lt_of_le_of_lt (by omega) sb.room.units) I.kIn J rfl (by rw [O.hK]; exact mo) (by rw [O.hK]; exact hsb) (by rw [O.hK]; exact ne) mt.at_ mt.fn PySem.F.slot_int_ne PySem.F.entry_int_ne (fun a b => PySem.F.args_int_ne_2 _ _) ?_
      refine thn (run_eq O sb.in1 (y := .int i) I rl py0 ⟨t, rfl⟩ (.int i) h mt) fun r s' z => ?_
      obtain ⟨rfl, g⟩ := z
      exact ⟨b, rfl, rfl, g⟩
theorem rc_left (O : EqO X S q j) (neg : Bool) {A : Around} (sb : Sub X (j + 1) A) {pins : List (Addr × Obj)} {s : Shared} {σ : L2.St} {H F : Hp} {W : Wd} {n : Nat} {fs : List (Nat × D)} {d : D} {b : Bool} {x y : V} {v u : Value} {T : String} (I : Inv X pins σ H s) (rl : Rel S F W H)
    (rx : RelV x v) (px : Rp S F x d) (ry : RelV y u) (py : Rp S F y (.ins n fs)) (h : q n (.ins n fs) d = some b) (hk : LeftK s v T) (hT : T ∈ leftTs) :
    wpAny (model X.prog X.w) A (richCompare (if neg = true then .NotEq else .Eq) v u) (fun r s' => r = .bool (if neg = true then !b else b) ∧ Gd X S pins σ F W s') X.xe s := by
  have py0 := py
  cases py with
  | @ins a dx _ vs _ hq r1 =>
    obtain rfl : u = Value.ref a := ry
    obtain ⟨_, mo, ne, hsb⟩ := O.fa n fs _ b h
    have hsb := hsb T hT
    obtain ⟨_, ⟨cl, f, mt, G⟩, _⟩ := O.me n fs _ b h
    rw [← O.hK] at mt hsb
    obtain ⟨mA, J0, _⟩ := ins_get I.hok (rl.sub _ _ hq)
    obtain ⟨od, J, _⟩ := J0.look
    have one := hk.one (prog := X.prog) (w := X.w) (A := A) (E := X.xe) neg I.kIn J rfl hsb
    cases neg with
    | false =>
      refine cmp_left sb.room.units0 I.kIn J hk.ty one hsb mt.at_ mt.fn ?_
      refine thn (run_eq O (sb.mono (Nat.le_succ j)) I rl py0 rx px h mt) fun r s' z => ?_
      obtain ⟨rfl, g⟩ := z
      exact ⟨rfl, g⟩
    | true =>
      refine ne_left (Nat.lt_of_le_of_lt (by omega) sb.room.units) I.kIn J hk.ty (by rw [O.hK]; exact mo) one hsb (by rw [O.hK]; exact ne) mt.at_ mt.fn ?_
      refine thn (run_eq O sb.in1 I rl py0 rx px h mt) fun r s' z => ?_
      obtain ⟨rfl, g⟩ := z
      exact ⟨b, rfl, rfl, g⟩
theorem rc_flat {A : Around} {s : Shared} (neg : Bool) {v u : Value} {b : Bool} {prog : Program} {w : World} {E : Value → Shared → Prop} {P : Shared → Prop} (he : SeqAt.RcAt A s v u b) (hn : SeqAt.RcNeAt A s v u (!b)) (g : P s) :
    wpAny (model prog w) A (richCompare (if neg = true then .NotEq else .Eq) v u) (fun r s' => r = .bool (if neg = true then !b else b) ∧ P s') E s := by
  cases neg with
  | false => exact he prog w E _ ⟨rfl, g⟩
  | true => exact hn prog w E _ ⟨rfl, g⟩
open SeqAt
theorem rcP : ∀ n : Nat, EqO X S q j → RcP X S q j n
  | n, O => by
    intro neg A pins s σ H F W v u x y c d b hdp sb I rl rx ry px py hq
    have g0 : Gd X S pins σ F W s := ⟨H, F, I, Ex.refl _, rl⟩
    have hu := sb.room.units0
    have sb1 : Sub X (j + 1) A := sb.mono (by omega)
    -- the heap's lists and tuples
    have lst : ∀ {a vs}, F a = some (.lst vs) → ∃ items, s.heap.IsList a items := fun {a vs} h => by
      obtain ⟨its, rv, p, hz⟩ := I.list (SqL.of (rl.sub _ _ h))
      exact ⟨_, p.isList⟩
    have tup : ∀ {a vs}, TpU S.K F a vs → ∃ items, s.heap.IsTuple a items := fun {a vs} h => by
      obtain ⟨its, rv, p, hz⟩ := I.tuple (by rw [O.hK]; exact ex_t rl.sub h.1)
      exact ⟨_, p⟩
    cases px with
    | @ins a dx m vs fs h1 r1 =>
      obtain ⟨ho, hq⟩ := own_rd hq
      exact rc_own O neg sb1 I rl rx ry (.ins h1 r1) py ho hq
    | @tup a vs cs h1 r1 =>
      obtain rfl : v = Value.ref a := rx
      obtain ⟨its, hi⟩ := tup h1
      cases py with
      | @tup a2 vs2 ds h2 r2 =>
        obtain rfl : u = Value.ref a2 := ry
        have hq' : eqDs q cs ds = some b := by unfold eqD at hq; exact hq
        match n, hdp, sb with
        | n + 1, hdp, sb => exact rc_tups O (eqP_of O (rcP n O)) neg sb I rl h1.1 h2.1 r1 r2 (Nat.le_of_succ_le_succ hdp) hq'
        | 0, hdp, sb => exact absurd hdp (by show ¬ (dps cs + 1 ≤ 0); omega)
      | @lst a2 vs2 ds h2 r2 =>
        obtain rfl : u = Value.ref a2 := ry
        obtain ⟨its2, hi2⟩ := lst h2
        unfold eqD at hq; cases hq
        exact rc_flat neg (.tuple_list hi hi2 hu) (.tuple_list hi hi2 hu) g0
      | non => cases ry; unfold eqD at hq; cases hq; exact rc_flat neg (.tuple_none hi hu) (.tuple_none hi hu) g0
      | bl k => cases ry; unfold eqD at hq; cases hq; exact rc_flat neg (.tuple_bool _ hi hu) (.tuple_bool _ hi hu) g0
      | int k => obtain ⟨t, rfl⟩ := ry; unfold eqD at hq; cases hq; exact rc_flat neg (.tuple_int _ _ hi hu) (.tuple_int _ _ hi hu) g0
      | str k => obtain ⟨t, rfl⟩ := ry; unfold eqD at hq; cases hq; exact rc_flat neg (.tuple_str _ _ hi hu) (.tuple_str _ _ hi hu) g0
      | @ins _ _ m us gs h2 r2 =>
        have hq : q m (.ins m gs) (.tup cs) = some b := by unfold eqD at hq; exact hq
        obtain ⟨o, ho, ht, _⟩ := hi
        exact rc_left O neg sb1 I rl (x := .ref a) rfl (.tup h1 r1) ry (.ins h2 r2) hq (.tup ⟨o, ho, ht⟩) (by decide)
      | _ => unfold eqD at hq; cases hq
    | @lst a vs cs h1 r1 =>
      obtain rfl : v = Value.ref a := rx
      obtain ⟨its, hi⟩ := lst h1
      cases py with
      | @lst a2 vs2 ds h2 r2 =>
        obtain rfl : u = Value.ref a2 := ry
        have hq' : (if cs.length = ds.length then eqDs q cs ds else some false) = some b := by unfold eqD at hq; exact hq
        match n, hdp, sb with
        | n + 1, hdp, sb => exact rc_lists O (eqP_of O (rcP n O)) neg sb I rl h1 h2 r1 r2 (Nat.le_of_succ_le_succ hdp) hq'
        | 0, hdp, sb => exact absurd hdp (by show ¬ (dps cs + 1 ≤ 0); omega)
      | @tup a2 vs2 ds h2 r2 =>
        obtain rfl : u = Value.ref a2 := ry
        obtain ⟨its2, hi2⟩ := tup h2
        unfold eqD at hq; cases hq
        exact rc_flat neg (.list_tuple hi hi2 hu) (.list_tuple hi hi2 hu) g0
      | non => cases ry; unfold eqD at hq; cases hq; exact rc_flat neg (.list_none hi hu) (.list_none hi hu) g0
      | bl k => cases ry; unfold eqD at hq; cases hq; exact rc_flat neg (.list_bool _ hi hu) (.list_bool _ hi hu) g0
      | int k => obtain ⟨t, rfl⟩ := ry; unfold eqD at hq; cases hq; exact rc_flat neg (.list_int _ _ hi hu) (.list_int _ _ hi hu) g0
      | str k => obtain ⟨t, rfl⟩ := ry; unfold eqD at hq; cases hq; exact rc_flat neg (.list_str _ _ hi hu) (.list_str _ _ hi hu) g0
      | @ins _ _ m us gs h2 r2 =>
        have hq : q m (.ins m gs) (.lst cs) = some b := by unfold eqD at hq; exact hq
        obtain ⟨o, ho, ht, _⟩ := hi
        exact rc_left O neg sb1 I rl (x := .ref a) rfl (.lst h1 r1) ry (.ins h2 r2) hq (.lst ⟨o, ho, ht⟩) (by decide)
      | _ => unfold eqD at hq; cases hq
    | non =>
      cases rx
      cases py with
      | non => cases ry; simp only [eqD, flatO] at hq; cases hq; exact rc_flat neg .none_none .none_none g0
      | bl k => cases ry; simp only [eqD, flatO] at hq; cases hq; exact rc_flat neg (.none_bool _) (.none_bool _) g0
      | int k => obtain ⟨t, rfl⟩ := ry; simp only [eqD, flatO] at hq; cases hq; exact rc_flat neg (.none_int _ _) (.none_int _ _) g0
      | str k => obtain ⟨t, rfl⟩ := ry; simp only [eqD, flatO] at hq; cases hq; exact rc_flat neg (.none_str _ _) (.none_str _ _) g0
      | @tup a2 vs2 ds h2 r2 => obtain rfl : u = Value.ref a2 := ry; obtain ⟨its2, hi2⟩ := tup h2; simp only [eqD] at hq; cases hq; exact rc_flat neg (.none_tuple hi2 hu) (.none_tuple hi2 hu) g0
      | @lst a2 vs2 ds h2 r2 => obtain rfl : u = Value.ref a2 := ry; obtain ⟨its2, hi2⟩ := lst h2; simp only [eqD] at hq; cases hq; exact rc_flat neg (.none_list hi2 hu) (.none_list hi2 hu) g0
      | ins h2 r2 => simp only [eqD] at hq; exact rc_left O neg sb1 I rl (x := .non) rfl .non ry (.ins h2 r2) hq .non (by decide)
      | _ => simp [eqD, flatO] at hq
    | bl z =>
      cases rx
      cases py with
      | non => cases ry; simp only [eqD, flatO] at hq; cases hq; exact rc_flat neg (.bool_none _) (.bool_none _) g0
      | bl k => cases ry; simp only [eqD, flatO] at hq; cases hq; exact rc_flat neg (.bool_bool _ _) (.bool_bool _ _) g0
      | int k => obtain ⟨t, rfl⟩ := ry; simp only [eqD, flatO] at hq; cases hq; exact rc_flat neg (.bool_int _ _ _) (.bool_int _ _ _) g0
      | str k => obtain ⟨t, rfl⟩ := ry; simp only [eqD, flatO] at hq; cases hq; exact rc_flat neg (.bool_str _ _ _) (.bool_str _ _ _) g0
      | @tup a2 vs2 ds h2 r2 => obtain rfl : u = Value.ref a2 := ry; obtain ⟨its2, hi2⟩ := tup h2; simp only [eqD] at hq; cases hq; exact rc_flat neg (.bool_tuple _ hi2 hu) (.bool_tuple _ hi2 hu) g0
      | @lst a2 vs2 ds h2 r2 => obtain rfl : u = Value.ref a2 := ry; obtain ⟨its2, hi2⟩ := lst h2; simp only [eqD] at hq; cases hq; exact rc_flat neg (.bool_list _ hi2 hu) (.bool_list _ hi2 hu) g0
      | ins h2 r2 => simp only [eqD] at hq; exact rc_left O neg sb1 I rl (x := .bl z) rfl (.bl z) ry (.ins h2 r2) hq (.bl z) (by decide)
      | _ => simp [eqD, flatO] at hq
    | int z =>
      obtain ⟨t0, rfl⟩ := rx
      cases py with
      | non => cases ry; simp only [eqD, flatO] at hq; cases hq; exact rc_flat neg (.int_none _ _) (.int_none _ _) g0
      | bl k => cases ry; simp only [eqD, flatO] at hq; cases hq; exact rc_flat neg (.int_bool _ _ _) (.int_bool _ _ _) g0
      | int k => obtain ⟨t, rfl⟩ := ry; simp only [eqD, flatO] at hq; cases hq; exact rc_flat neg (.int_int _ _ _ _) (.int_int _ _ _ _) g0
      | str k => obtain ⟨t, rfl⟩ := ry; simp only [eqD, flatO] at hq; cases hq; exact rc_flat neg (.int_str _ _ _ _) (.int_str _ _ _ _) g0
      | @tup a2 vs2 ds h2 r2 => obtain rfl : u = Value.ref a2 := ry; obtain ⟨its2, hi2⟩ := tup h2; simp only [eqD] at hq; cases hq; exact rc_flat neg (.int_tuple _ _ hi2 hu) (.int_tuple _ _ hi2 hu) g0
      | @lst a2 vs2 ds h2 r2 => obtain rfl : u = Value.ref a2 := ry; obtain ⟨its2, hi2⟩ := lst h2; simp only [eqD] at hq; cases hq; exact rc_flat neg (.int_list _ _ hi2 hu) (.int_list _ _ hi2 hu) g0
      | ins h2 r2 => simp only [eqD] at hq; exact rc_intl O neg sb1 I rl ry (.ins h2 r2) hq
      | _ => simp [eqD, flatO] at hq
    | str z =>
      obtain ⟨t0, rfl⟩ := rx
      cases py with
      | non => cases ry; simp only [eqD, flatO] at hq; cases hq; exact rc_flat neg (.str_none _ _) (.str_none _ _) g0
      | bl k => cases ry; simp only [eqD, flatO] at hq; cases hq; exact rc_flat neg (.str_bool _ _ _) (.str_bool _ _ _) g0
      | int k => obtain ⟨t, rfl⟩ := ry; simp only [eqD, flatO] at hq; cases hq; exact rc_flat neg (.str_int _ _ _ _) (.str_int _ _ _ _) g0
      | str k => obtain ⟨t, rfl⟩ := ry; simp only [eqD, flatO] at hq; cases hq; exact rc_flat neg (.str_str _ _ _ _) (.str_str _ _ _ _) g0
      | @tup a2 vs2 ds h2 r2 => obtain rfl : u = Value.ref a2 := ry; obtain ⟨its2, hi2⟩ := tup h2; simp only [eqD] at hq; cases hq; exact rc_flat neg (.str_tuple _ _ hi2 hu) (.str_tuple _ _ hi2 hu) g0
      | @lst a2 vs2 ds h2 r2 => obtain rfl : u = Value.ref a2 := ry; obtain ⟨its2, hi2⟩ := lst h2; simp only [eqD] at hq; cases hq; exact rc_flat neg (.str_list _ _ hi2 hu) (.str_list _ _ hi2 hu) g0
      | ins h2 r2 => simp only [eqD] at hq; exact rc_left O neg sb1 I rl (x := .str z) ⟨t0, rfl⟩ (.str z) ry (.ins h2 r2) hq (.str z t0) (by decide)
      | _ => simp [eqD, flatO] at hq
    | ty z => cases py <;> simp [eqD, flatO] at hq
    | ptr z => cases py <;> simp [eqD, flatO] at hq
    | dK _ _ => cases py <;> simp [eqD, flatO] at hq
    | dT _ _ => cases py <;> simp [eqD, flatO] at hq
    | frl _ _ => cases py <;> simp [eqD, flatO] at hq
    | exn _ _ _ => cases py <;> simp [eqD, flatO] at hq
    | exn0 _ => cases py <;> simp [eqD, flatO] at hq
    | lam _ _ => cases py <;> simp [eqD, flatO] at hq
  termination_by n => n
end
section
variable {X : Cx} {S : Sy} {E : XS} {q : EqI} {j k : Nat}
def rEqQ (q : EqI) (neg : Bool) (n : Nat) : D2 := fun c d _ W Q _ => c.dp ≤ n ∧ kSome (eqD q c d) fun b => Q (.bl (if neg = true then !b else b)) W
theorem od_eqQ {n : Nat} (O : EqO X S q j) (hr : Room k X.A) (hk : j + 1 + n ≤ k) (neg : Bool) : OpD X S E (compareOp (if neg = true then .NotEq else .Eq)) (rEqQ q neg n) := by
  intro pins s σ H F sd W x y c d v u Q2 E2 I rl sr xc rx ry px py h
  obtain ⟨hd, h⟩ := h
  obtain ⟨b, hb, h⟩ := h.inv
  have z := rcP n O neg X.A pins s σ H F W v u x y c d b hd ⟨hr.mono hk, rfl⟩ I rl rx ry px py hb
  have e : compareOp (if neg = true then .NotEq else .Eq) v u = richCompare (if neg = true then .NotEq else .Eq) v u := by cases neg <;> rfl
  rw [e]
  refine thn z fun r s' ⟨hr, H', F', I', e', rl'⟩ => ?_
  subst hr
  exact ⟨.bl _, H', F', .bl _, W, I', rfl, e', rl', .bl _, h⟩
end
end Mv
end
section
set_option Elab.async false
set_option linter.all false
set_option maxRecDepth 100000
set_option maxHeartbeats 4000000
namespace Mv
open PySem PySem.Spec L2
open Evl (Ex ex_l ex_t ex_rd)
open PyProof.Rows
section
variable {X : Cx} {S : Sy} {E : XS} {k n : Nat} {f : Addr} {dds : List D} {sp2 : DSp}
structure SMet (K : PySem.W.Frag) (C : Addr) (m : Str) (p g : Addr) : Prop where
  at_ : PySem.W.findCls K (.ref C) (.type "type") m = some (.get (.builtin "staticmethod.__get__") (.ref p) .none (.ref C))
  rc : ∃ rest, PySem.W.recIn K p "staticmethod" = some (.ref g :: rest)
structure SmD (P : Program) (w : World) (S : Sy) (mg : Str → Option Value) (base : Heap) (k : Nat) (C : Addr) (m : Str) (n : Nat) (dds : List D) (sp2 : DSp) : Prop where
  rd : ClX.CRead S.K C (.type "type")
  ex : ∃ p g, SMet S.K C m p g ∧ FnD P w S mg base k g n dds sp2
theorem SmD.mono {P : Program} {w : World} {mg : Str → Option Value} {base : Heap} {j k : Nat} {C : Addr} {m : Str} (G : SmD P w S mg base j C m n dds sp2) (h : j ≤ k) : SmD P w S mg base k C m n dds sp2 := by
  obtain ⟨a, p, g, b, c⟩ := G
  exact ⟨a, p, g, b, c.mono h⟩
structure CmD (P : Program) (w : World) (S : Sy) (mg : Str → Option Value) (base : Heap) (k : Nat) (C : Addr) (m : Str) (n : Nat) (dds : List D) (sp2 : DSp) : Prop where
  rd : ClX.CRead S.K C (.type "type")
  ex : ∃ p g, ClX.CMet S.K C (.type "type") m p g ∧ FnD P w S mg base k g n dds sp2
theorem CmD.mono {P : Program} {w : World} {mg : Str → Option Value} {base : Heap} {j k : Nat} {C : Addr} {m : Str} (G : CmD P w S mg base j C m n dds sp2) (h : j ≤ k) : CmD P w S mg base k C m n dds sp2 := by
  obtain ⟨a, p, g, b, c⟩ := G
  exact ⟨a, p, g, b, c.mono h⟩
def dSm (C : Addr) (n : Nat) (dds : List D) (sp2 : DSp) (ta : DE) (t : DA) : DE := fun sd W Q E2 => ta sd W (fun d W1 => d = .ptr C ∧ t sd W1 (fun ds W2 => dfl n dds ds fun ds' => sp2 ds' W2 Q (fun x W' => E2 x sd W')) E2) E2
def dCm (C : Addr) (n : Nat) (dds : List D) (sp2 : DSp) (ta : DE) (t : DA) : DE := fun sd W Q E2 => ta sd W (fun d W1 => d = .ptr C ∧ t sd W1 (fun ds W2 => dfl n dds (.ptr C :: ds) fun ds' => sp2 ds' W2 Q (fun x W' => E2 x sd W')) E2) E2
variable {o e : Expr} {es : List Expr} {m : Str} {apos pos : Pos} {ta : DE} {t : DA} {pl : Sem Bool} {C : Addr}
end
section
variable {X : Cx} {S : Sy} {E : XS} {k : Nat}
def dNeg (t : DE) : DE := fun sd W Q E2 => t sd W (fun d W1 => match d with
  | .int i => Q (.int (-i)) W1
  | _ => False) E2
theorem pd_neg {a : Expr} {ta : DE} {pos : Pos} (ha : PD X S E a ta) : PD X S E (.UnaryOp .USub a pos) (dNeg ta) :=
  PE.pd (pe_un un_neg ha.pe) fun σ H F sd W Q2 E2 rl sr xc q => ⟨F, sd, W, _, E2, rl, sr, fun F1 v d W1 H1 e1 r1 p1 q1 => by
    cases p1 <;> first | exact q1.elim | skip
    exact ⟨_, rfl, tkQ_of e1 r1 (.int _) q1⟩, xc, q⟩
def isNon : D → Bool
  | .non => true
  | _ => false
def rIsN (neg : Bool) : D2 := fun c d _ W Q _ => d = .non ∧ Q (.bl (if neg = true then !isNon c else isNon c)) W
def rInS (neg : Bool) : D2 := fun c d _ W Q _ => match c, d with
  | .str i, .str j => Q (.bl (if neg = true then !(!(Builtin.Str.occurrences j i 0 j.length 1).isEmpty) else !(Builtin.Str.occurrences j i 0 j.length 1).isEmpty)) W
  | _, _ => False
theorem od_notInS : OpD X S E (compareOp .NotIn) (rInS true) := OpR.od op_notin_str fun σ H F sd W x y c d Q2 E2 rl sr xc px py q => by
  cases px <;> first | exact q.elim | skip
  cases py <;> first | exact q.elim | skip
  exact ⟨_, _, rfl, rfl, tkQ_of (Ex.refl _) rl (.bl _) q⟩
theorem Rps.set {F : Hp} {v : V} {d : D} (p : Rp S F v d) : ∀ (i : Nat) {vs : List V} {ds : List D}, Rps S F vs ds → Rps S F (vs.set i v) (ds.set i d)
  | _, _, _, .nil => .nil
  | 0, _, _, .cons _ t => .cons p t
  | i + 1, _, _, .cons h t => .cons h (Rps.set p i t)
def gSetL (to ti : DE) : DG := fun d sd W Q => to sd W (fun o W1 => ti sd W1 (fun i W2 => match i with
  | .int k => kLst W2 o fun a ds => kSome (ixN ds.length k) fun j => Q sd (put W2 a (.lst (ds.set j d)))
  | _ => False) E2F) E2F
theorem pgd_setL {o i : Expr} {to ti : DE} {pos : Pos} (ho : PD X S EF o to) (hi : PD X S EF i ti)
    (ha : ∀ v, assign (.Subscript o i pos) X.env v = (do
      let ov ← holding [v] (eval o X.env)
      let iv ← holding [v, ov] (eval i X.env)
      standAt pos
      holding [v, ov, iv] (setItem ov iv v)
      release [v, ov, iv] []) := by intro _; rfl) : PGd X S (.Subscript o i pos) (gSetL to ti) := by
  refine ⟨fun pins s σ H F sd W v d u Q I rl sr rv rp h => ?_⟩
  rw [ha]
  refine wpAny_bind (wpAny_holding (thn (ho.run pins s σ H F sd W _ E2F I rl sr xcF h) fun ov s1 ⟨x, H1, F1, d1, W1, I1, r1, e1, rl1, p1, q1⟩ => ?_))
  refine wpAny_bind (wpAny_holding (thn (hi.run pins s1 σ H1 F1 sd W1 _ E2F I1 rl1 (sr.mono e1) xcF q1) fun iv s2 ⟨y, H2, F2, d2, W2, I2, r2, e2, rl2, p2, q2⟩ => ?_))
  cases p2 <;> first | exact q2.elim | skip
  obtain ⟨a, vs, ds, ex, ea, ru, hw, q2⟩ := kLst.at rl2 (p1.mono e2) q2
  obtain ⟨j, hj, q2⟩ := q2.inv
  subst ex
  have pv := rp.mono (e1.trans e2)
  refine wpAny_bind (wpAny_standAt (wpAny_bind (wpAny_holding (thn (set_list pins s2 σ H2 (.ref a) _ v ov iv u (fun H' => ∃ F' sd' W', Ex F F' ∧ Rel S F' W' H' ∧ SRel S F' σ sd' ∧ Q sd' W') I2 r1 r2 rv ⟨a, vs, _, j, rfl, rfl, ea, by rw [ru.length]; exact hj, F2, sd, _, e1.trans e2, rl2.set (m := .lst (ds.set j d)) hw ⟨_, rfl, Rps.set pv j ru⟩, sr.mono (e1.trans e2), q2⟩) fun _ s3 ⟨H3, I3, F', sd', W', a1, a2, a3, a4⟩ => ?_))))
  exact wpAny_release ⟨σ, H3, F', sd', W', I3, a1, a2, a3, a4⟩
end
end Mv
end
section
set_option Elab.async false
set_option linter.all false
set_option maxRecDepth 100000
set_option maxHeartbeats 4000000
namespace Mv
open PySem PySem.SeqAt
open AutoSeq1 (wpAny_loadPart')
open MeetsSeq MeetsSeq2 MeetsSeq3 SeqRoads2
open GQ (FinOf call_here)
section
variable {prog : Program} {w : World} {A : Around} {R : Result → Shared → Prop}
def InJ (prog : Program) (w : World) (A : Around) (E : Value → Shared → Prop) (l : Addr) (x : Value) (N : Nat) (I : Nat → Shared → Prop) (J : Shared → Prop) : Prop :=
  ∀ i s, I i s → ∃ (items : Array Value) (n : Nat), s.heap.get? l = some { cls := .type "list", data := .seq items n } ∧ items.size = N ∧
    ∀ (h1 : i < items.size), wpAny (model prog w) A.in1 (eqBool items[i] x) (fun r s' => (r = false ∧ I (i + 1) s') ∨ (r = true ∧ J s')) E s
theorem in_loopJ (l : Addr) (x : Value) (N : Nat) (I : Nat → Shared → Prop) (J : Shared → Prop) (hl : InJ prog w A (fun e s' => R (.error e) s') l x N I J)
    (fin : ∀ s, I N s → R (.ok (.ret (.bool false))) s) (fin1 : ∀ s, J s → R (.ok (.ret (.bool true))) s) (k : Nat) :
    ∀ i : Nat, N - i = k → i ≤ N → ∀ s, I i s →
      wpAny (model prog w) A.in1 (Builtin.«list.__contains__.loop» ⟨[.ref l, x, rawInt i], []⟩) (FinOf prog w A R) (fun e s' => R (.error e) s') s := by
  induction k with
  | zero =>
    intro i hk hi s h
    obtain ⟨items, n, hl1, hs1, _⟩ := hl _ _ h
    have hi' : i = N := by omega
    have hR : R (.ok (.ret (.bool false))) s := fin s (hi' ▸ h)
    obtain ⟨hp, g, d, tk, os⟩ := s
    wp_walk using wpAny_loadPart' hl1
    have hi1 : items[((i : Nat) : Int).toNat]? = none := by simp; omega
    rw [hi1]
    wp_walk
    exact hR
  | succ k ih =>
    intro i hk hi s h
    obtain ⟨items, n, hl1, hs1, turn⟩ := hl _ _ h
    have hlt : i < items.size := by omega
    have ht := turn hlt
    obtain ⟨hp, g, d, tk, os⟩ := s
    wp_walk using wpAny_loadPart' hl1
    have hi1 : items[((i : Nat) : Int).toNat]? = some items[i] := by simp [hlt]
    have hc : ((i : Int) + 1) = ((i + 1 : Nat) : Int) := by omega
    rw [hi1]
    refine wpAny_bind (wpAny_mono ht (fun r s2 h2 => ?_) fun _ _ x => x)
    rcases h2 with ⟨hr, h2⟩ | ⟨hr, h2⟩
    · subst hr
      have hrec := ih (i + 1) (by omega) (by omega) s2 h2
      obtain ⟨hp2, g2, d2, tk2, os2⟩ := s2
      wp_walk
      rw [hc]
      exact ⟨plainId_quiet plain_contains_loop _, codeAny_builtin entry_contains_loop (by
        rw [Around.under_plainId plain_contains_loop _]
        exact hrec)⟩
    · subst hr
      have hf := fin1 s2 h2
      obtain ⟨hp2, g2, d2, tk2, os2⟩ := s2
      wp_walk
      exact hf
theorem list_inJ (l : Addr) (x : Value) (N : Nat) (I : Nat → Shared → Prop) (J : Shared → Prop) (hl : InJ prog w A (fun e s' => R (.error e) s') l x N I J)
    (fin : ∀ s, I N s → R (.ok (.ret (.bool false))) s) (fin1 : ∀ s, J s → R (.ok (.ret (.bool true))) s) {s : Shared} (h : I 0 s) :
    wpAny (model prog w) A.in1 (Builtin.«list.__contains__» ⟨[.ref l, x], []⟩) (FinOf prog w A R) (fun e s' => R (.error e) s') s := by
  obtain ⟨items, n, hl1, hs1, _⟩ := hl _ _ h
  have hrec := in_loopJ (A := A) (R := R) l x N I J hl fin fin1 _ 0 rfl (Nat.zero_le _) s h
  obtain ⟨hp, g, d, tk, os⟩ := s
  wp_walk using wpAny_loadPart' hl1
  exact ⟨plainId_quiet plain_contains_loop _, codeAny_builtin entry_contains_loop (by
    rw [Around.under_plainId plain_contains_loop _]
    exact hrec)⟩
theorem tuple_inJ (l : Addr) (items : Array Value) (n : Nat) (dd : Option Addr) (sl : Array (Option Value)) (x : Value) (I : Nat → Shared → Prop) (J : Shared → Prop)
    (turn : ∀ i (h1 : i < items.size) s, I i s → wpAny (model prog w) A.in1 (eqBool items[i] x) (fun r s' => (r = false ∧ I (i + 1) s') ∨ (r = true ∧ J s')) (fun e s' => R (.error e) s') s)
    (fin : ∀ s, I items.size s → R (.ok (.ret (.bool false))) s) (fin1 : ∀ s, J s → R (.ok (.ret (.bool true))) s)
    {s : Shared} (hl : s.heap.get? l = some { cls := .type "tuple", dict := dd, data := .seq items n, slots := sl }) (h : I 0 s) :
    wpAny (model prog w) A.in1 (Builtin.«tuple.__contains__» ⟨[.ref l, x], []⟩) (FinOf prog w A R) (fun e s' => R (.error e) s') s := by
  have h0 := h
  obtain ⟨hp, g, d, tk, os⟩ := s
  wp_walk using wpAny_loadPart' hl, wpAny_forIn_array _ (fun rest b s' => b.1 = none ∧ ∃ i, rest = items.toList.drop i ∧ i ≤ items.size ∧ I i s') _
  case turn =>
    rintro y rest b s' ⟨hb, i, hz, hi, hI⟩
    have hlt : i < items.toList.length := by
      rcases Nat.lt_or_ge i items.toList.length with h' | h'
      · exact h'
      · rw [List.drop_of_length_le h'] at hz; cases hz
    have h1 : i < items.size := by simpa using hlt
    rw [List.drop_eq_getElem_cons hlt] at hz
    injection hz with hy hrest
    have hy : y = items[i] := by simpa using hy
    subst hy
    refine wpAny_bind (wpAny_mono (turn i h1 s' hI) (fun r s2 q2 => ?_) fun _ _ x => x)
    rcases q2 with ⟨hr, q2⟩ | ⟨hr, q2⟩
    · subst hr
      wp_walk
      exact ⟨rfl, i + 1, hrest, by omega, q2⟩
    · subst hr
      wp_walk
      exact fin1 s2 q2
  case fin =>
    rintro ⟨b1, b2⟩ s' ⟨hb, i, hz, hi, hI⟩
    simp only at hb
    subst hb
    have hi' : i = items.size := by
      rcases Nat.lt_or_ge i items.toList.length with h' | h'
      · rw [List.drop_eq_getElem_cons h'] at hz; cases hz
      · have : items.size ≤ i := by simpa using h'
        omega
    have hR := fin s' (hi' ▸ hI)
    wp_walk
    exact hR
  case h =>
    exact ⟨rfl, 0, by simp, Nat.zero_le _, h0⟩
variable {s : Shared} {E : Value → Shared → Prop}
theorem in_code {T id : String} {B : Builtin} {c x : Value} {Q : Value → Shared → Prop} (neg : Bool) (hT : s.TypeIs c T) (slot : Slot T "__contains__" id)
    (entry : entryFor table id = some B) (args : argsOk id ⟨[c, x], []⟩)
    (h : wpAny (model prog w) A.in1 (B ⟨[c, x], []⟩) (FinOf prog w A (wants (fun v s' => ∃ b, v = .bool b ∧ Q (.bool (if neg = true then !b else b)) s') E)) (fun e s' => wants (fun v s' => ∃ b, v = .bool b ∧ Q (.bool (if neg = true then !b else b)) s') E (.error e) s') s) :
    wpAny (model prog w) A (compareOp (if neg = true then .NotIn else .In) x c) Q E s := by
  cases neg with
  | false =>
    show wpAny _ A (do return .bool (← contains c x)) Q E s
    refine wpAny_bind (wpAny_contains_slot hT slot (wpAny_mono (call_here slot hT entry args h) (fun v s' hv => ?_) fun _ _ e => e))
    obtain ⟨b, rfl, hq⟩ := hv
    exact wpAny_truthy_bool (wpAny_pure hq)
  | true =>
    show wpAny _ A (do return .bool (!(← contains c x))) Q E s
    refine wpAny_bind (wpAny_contains_slot hT slot (wpAny_mono (call_here slot hT entry args h) (fun v s' hv => ?_) fun _ _ e => e))
    obtain ⟨b, rfl, hq⟩ := hv
    exact wpAny_truthy_bool (wpAny_pure hq)
end
end Mv
namespace Mv
open PySem PySem.Spec L2 PyProof.Rows
open Evl (Ex ex_l ex_t ex_rd)
section
variable {X : Cx} {S : Sy} {E : XS} {q : EqI} {j k : Nat}
def anyQ (q : EqI) (x : D) : List D → Option Bool
  | [] => some false
  | d :: ds => (match eqD q d x with
    | some true => some true
    | some false => anyQ q x ds
    | none => none)
def rInQ (q : EqI) (neg : Bool) (n : Nat) : D2 := fun c d _ W Q _ => kSeq W d fun ds => dps ds ≤ n ∧ ds.length ≤ 1000000 ∧ kSome (anyQ q c ds) fun b => Q (.bl (if neg = true then !b else b)) W
def RestA (X : Cx) (S : Sy) (q : EqI) (pins : List (Addr × Obj)) (σ : L2.St) (F : Hp) (W : Wd) (x : D) (ds : List D) (b : Bool) (i : Nat) (s' : Shared) : Prop :=
  Gd X S pins σ F W s' ∧ anyQ q x (ds.drop i) = some b
theorem dps_get {cs : List D} {i : Nat} (hi : i < cs.length) : (cs[i]).dp ≤ dps cs := by
  induction cs generalizing i with
  | nil => simp at hi
  | cons c cs ih =>
    cases i with
    | zero => show c.dp ≤ max c.dp (dps cs); omega
    | succ i =>
      have := ih (i := i) (by simpa using hi)
      show (cs[i]'(by simpa using hi)).dp ≤ max c.dp (dps cs)
      omega
theorem turnA {n : Nat} (O : EqO X S q j) {A : Around} (sb : Sub X (j + 1 + n) A) {pins : List (Addr × Obj)} {σ : L2.St} {F : Hp} {W : Wd} {y : V} {x : D} {u : Value} {ys : List V} {ds : List D} {its : List Value} {b : Bool} (rx : RelV y u) (px : Rp S F y x) (hdp : dps ds ≤ n)
    (i : Nat) (s' : Shared) {H1 F1 : Hp} (I1 : Inv X pins σ H1 s') (e1 : Ex F F1) (rl1 : Rel S F1 W H1) (rd : Rps S F1 ys ds) (r : Vals ys its) (h1 : i < its.toArray.size) (hq : anyQ q x (ds.drop i) = some b) :
    wpAny (model X.prog X.w) A (eqBool its.toArray[i] u) (fun z s2 => (z = false ∧ RestA X S q pins σ F W x ds b (i + 1) s2) ∨ (z = true ∧ Gd X S pins σ F W s2 ∧ b = true)) X.xe s' := by
  have g1 : its[i]? = some its.toArray[i] := by
    have h1' : i < its.length := by simpa using h1
    rw [List.getElem?_eq_getElem h1'] <;> simp
  have k1 : i < ys.length := by rw [r.length]; simpa using h1
  have c1 : i < ds.length := by rw [← rd.length]; exact k1
  obtain ⟨v, hv, rv⟩ := r.get (List.getElem?_eq_getElem k1)
  rw [g1] at hv
  rw [Option.some.inj hv]
  obtain ⟨z, hz, pz⟩ := rd.get (List.getElem?_eq_getElem c1)
  rw [List.getElem?_eq_getElem k1] at hz
  rw [Option.some.inj hz] at rv
  rw [List.drop_eq_getElem_cons c1] at hq
  unfold anyQ at hq
  cases hk : eqD q ds[i] x with
  | none => rw [hk] at hq; cases hq
  | some k =>
    rw [hk] at hq
    refine wpAny_mono (eqP_of O (rcP n O) A pins s' σ H1 F1 W v u z y ds[i] x k (Nat.le_trans (dps_get c1) hdp) sb I1 rl1 rv rx pz (px.mono e1) hk) (fun z s2 ⟨hz, g⟩ => ?_) fun _ _ x => x
    subst hz
    cases z with
    | false => exact .inl ⟨rfl, g.back e1, hq⟩
    | true =>
      have hq' : some true = some b := hq
      cases hq'
      exact .inr ⟨rfl, g.back e1, rfl⟩
theorem od_inQ {n : Nat} (O : EqO X S q j) (hr : Room k X.A) (hk : j + 1 + (n + 1) ≤ k) (neg : Bool) : OpD X S E (compareOp (if neg = true then .NotIn else .In)) (rInQ q neg n) := by
  intro pins s σ H F sd W x y c d v u Q2 E2 I rl sr xc rx ry px py h
  have sb : Sub X (j + 1 + (n + 1)) X.A := ⟨hr.mono hk, rfl⟩
  have fin : ∀ (b b' : Bool) s', b' = b → Q2 (.bl (if neg = true then !b else b)) W → Gd X S pins σ F W s' → DP X S pins σ F Q2 (.bool (if neg = true then !b' else b')) s' := fun b b' s' e q ⟨H', F', I', e', rl'⟩ => by
    subst e
    exact ⟨.bl _, H', F', .bl _, W, I', rfl, e', rl', .bl _, q⟩
  have g0 : Gd X S pins σ F W s := ⟨H, F, I, Ex.refl _, rl⟩
  have lst : ∀ {a : Addr} {ds : List D} {b : Bool}, u = .ref a → (∀ F' H', Ex F F' → Rel S F' W H' → ∃ vs, H' a = some (.lst vs) ∧ Rps S F' vs ds) → dps ds ≤ n → anyQ q c ds = some b → Q2 (.bl (if neg = true then !b else b)) W →
      wpAny (model X.prog X.w) X.A (compareOp (if neg = true then .NotIn else .In) v u) (DP X S pins σ F Q2) X.xe s := fun {a ds b} eu hl hdp hq q2 => by
    subst eu
    obtain ⟨vs, ea, r⟩ := hl F H (Ex.refl _) rl
    obtain ⟨z, its, k0, rv, e⟩ := I.hok a _ ea
    refine in_code neg ⟨_, e, rfl⟩ PySem.F.slot_list_contains PySem.F.entry_list_contains (PySem.F.args_list_contains_2 _ _) ?_
    refine list_inJ (R := wants (fun v s' => ∃ b, v = .bool b ∧ DP X S pins σ F Q2 (.bool (if neg = true then !b else b)) s') X.xe) a v ds.length (RestA X S q pins σ F W c ds b) (fun s' => Gd X S pins σ F W s' ∧ b = true) (fun i s' l => ?_) (fun s' l => ⟨false, rfl, fin b false s' ?_ q2 l.1⟩) (fun s' l => ⟨true, rfl, fin b true s' l.2.symm q2 l.1⟩) ⟨g0, hq⟩
    · obtain ⟨⟨H1, F1, I1, e1, rl1⟩, hq'⟩ := l
      obtain ⟨vs, ea, r⟩ := hl F1 H1 e1 rl1
      obtain ⟨z, its, k0, rv, e⟩ := I1.hok a _ ea
      exact ⟨its.toArray, k0, e, by rw [List.size_toArray, ← rv.length, r.length], fun h1 => turnA O sb.in1 rx px hdp i s' I1 e1 rl1 r rv h1 hq'⟩
    · have l2 := l.2
      rw [List.drop_length] at l2
      simp only [anyQ, Option.some.injEq] at l2
      exact l2
  cases py with
  | ptr a =>
    have h2 : (match W a with | some (.lst ds) => dps ds ≤ n ∧ ds.length ≤ 1000000 ∧ kSome (anyQ q c ds) fun b => Q2 (.bl (if neg = true then !b else b)) W | _ => False) := h
    cases e : W a with
    | none => rw [e] at h2; exact h2.elim
    | some m =>
      rw [e] at h2
      cases m with
      | lst ds =>
        obtain ⟨h3, _, h4⟩ := h2
        obtain ⟨b, hb, h4⟩ := h4.inv
        exact lst ry (fun F' H' e' rl' => by obtain ⟨_, vs, ea, r⟩ := rl'.obj a _ e; exact ⟨vs, ea, r⟩) h3 hb h4
      | _ => exact h2.elim
  | lst hq r =>
    obtain ⟨h3, _, h4⟩ := h
    obtain ⟨b, hb, h4⟩ := h4.inv
    exact lst ry (fun F' H' e' rl' => ⟨_, rl'.sub _ _ (e' _ _ hq), r.mono e'⟩) h3 hb h4
  | @tup a vs ds hq r =>
    obtain ⟨h3, _, h4⟩ := h
    obtain ⟨b, hb, h4⟩ := h4.inv
    obtain rfl : u = Value.ref a := ry
    obtain ⟨its, rv, ht, z⟩ := I.tuple (by rw [O.hK]; exact ex_t rl.sub hq.1)
    obtain ⟨⟨cls, dd, data, sl⟩, ho, hc, k0, hd⟩ := id ht
    simp only at hc hd
    subst hc hd
    refine in_code neg ⟨_, ho, rfl⟩ PySem.F.slot_tuple_contains PySem.F.entry_tuple_contains (PySem.F.args_tuple_contains_2 _ _) ?_
    refine tuple_inJ (R := wants (fun v s' => ∃ b, v = .bool b ∧ DP X S pins σ F Q2 (.bool (if neg = true then !b else b)) s') X.xe) a its.toArray k0 dd sl v (RestA X S q pins σ F W c ds b) (fun s' => Gd X S pins σ F W s' ∧ b = true) (fun i h1 s' l => ?_) (fun s' l => ⟨false, rfl, fin b false s' ?_ h4 l.1⟩) (fun s' l => ⟨true, rfl, fin b true s' l.2.symm h4 l.1⟩) ho ⟨g0, hb⟩
    · obtain ⟨⟨H1, F1, I1, e1, rl1⟩, hq'⟩ := l
      exact turnA O sb.in1 rx px h3 i s' I1 e1 rl1 (r.mono e1) rv h1 hq'
    · have l2 := l.2
      have : its.toArray.size = ds.length := by rw [List.size_toArray, ← rv.length, r.length]
      rw [this, List.drop_length] at l2
      simp only [anyQ, Option.some.injEq] at l2
      exact l2
  | _ => exact h.elim
end
end Mv
end
section
set_option Elab.async false
set_option linter.all false
set_option maxRecDepth 100000
set_option maxHeartbeats 4000000
namespace Mv
open PySem PySem.Spec L2
open Evl (Ex ex_l ex_t ex_rd)
open PyProof.Rows
section
variable {X : Cx} {S : Sy} {E : XS} {k : Nat}
def dBM (T : String) (r : DM) (to : DE) (t : DA) : DE := fun sd W Q E2 => to sd W (fun d W1 => tyM T W1 d ∧ t sd W1 (fun ds W2 => r d ds W2 Q) E2) E2
variable {o e : Expr} {es : List Expr} {to : DE} {t : DA} {name : Str} {apos cpos : Pos} {T id : String} {r : DM}
theorem pd_bm (pa : PlainAttrs T) (slot : Slot T name id) (hty : typeOf (.builtin id) = pure (.type "method_descriptor")) (hm : MetD X S id r) (ho : PD X S E o to) (ha : PAd X S E (e :: es) t)
    (hbase : attributeBase o name X.env (eval o X.env) = eval o X.env := by rfl)
    (hfew : ((backTo cpos (starEach (e :: es) X.env)).all (fun x => !x.1) && (backToKw cpos (keywordEach [] X.env)).all (fun x => x.1.isSome)
      && decide ((e :: es).length + ([] : List Keyword).length + (if ([] : List Keyword).isEmpty then 0 else 1) < 30)) = true := by rfl)
    (hline : (apos.endLine == cpos.line) = true := by rfl) (hs : starEach (e :: es) X.env = (false, eval e X.env) :: starEach es X.env := by rfl) (hplain : (backTo cpos (starEach es X.env)).any (·.1) = false := by rfl) :
    PD X S E (.Call (.Attribute o name apos) (e :: es) [] cpos) (dBM T r to t) :=
  PE.pd (pe_bm pa slot hty hm ho.pe ha.pa hbase hfew hline hs hplain) fun σ H F sd W Q2 E2 rl sr xc q => ⟨F, sd, W, _, E2, rl, sr, fun F1 v d W1 H1 e1 r1 p1 ⟨h1, q1⟩ =>
    ⟨h1.v r1 p1, F1, sd, W1, _, E2, r1, sr.mono e1, fun F2 vs ds W2 H2 e2 r2 p2 q2 => ⟨F2, W2, d, ds, Q2, r2, p1.mono e2, p2, fun F3 v d W3 H3 e3 r3 p3 q3 => tkQ_of (e1.trans (e2.trans e3)) r3 p3 q3, q2⟩, XCv.mono e1 xc, q1⟩, xc, q⟩
def mAppend : DM := fun c ds W Q => match ds with
  | [x] => kLst W c fun a xs => xs.length ≤ 1000000 ∧ Q .non (put W a (.lst (xs ++ [x])))
  | _ => False
theorem me_append : MetD X S "list.append" mAppend := MetD.of mt_append fun H F W v vs d ds Q2 Q rl rp rps qc q => by
  match ds, q with
  | [x], q =>
    obtain ⟨u, rfl, p⟩ := rps.one
    obtain ⟨a, us, xs, rfl, ea, ru, hw, hz, q⟩ := kLst.at rl rp q
    exact ⟨a, us, u, rfl, rfl, ea, by rw [ru.length, sizeLine_eq]; omega, qc _ _ _ _ _ (Ex.refl _) (rl.set (m := .lst (xs ++ [x])) hw ⟨_, rfl, ru.append (.cons p .nil)⟩) .non q⟩
theorem pd_append (ho : PD X S E o to) (ha : PAd X S E [e] t) (hbase : attributeBase o "append" X.env (eval o X.env) = eval o X.env := by rfl)
    (hfew : ((backTo cpos (starEach [e] X.env)).all (fun x => !x.1) && (backToKw cpos (keywordEach [] X.env)).all (fun x => x.1.isSome)
      && decide ([e].length + ([] : List Keyword).length + (if ([] : List Keyword).isEmpty then 0 else 1) < 30)) = true := by rfl)
    (hline : (apos.endLine == cpos.line) = true := by rfl) (hs : starEach [e] X.env = (false, eval e X.env) :: starEach [] X.env := by rfl) : PD X S E (.Call (.Attribute o "append" apos) [e] [] cpos) (dBM "list" mAppend to t) :=
  pd_bm PySem.F.plainAttrs_list PySem.F.slot_list_append PySem.F.type_list_append me_append ho ha hbase hfew hline hs
def dFmt (te : DE) : DE := fun sd W Q E2 => te sd W (fun d W1 => match d with
  | .str y => y.length ≤ sizeLine ∧ Q (.str y) W1
  | .int i => i.natAbs.log2 < 1920 ∧ Q (.str (toString i)) W1
  | _ => False) E2
inductive PJd (X : Cx) (S : Sy) (E : XS) : List Expr → List DE → Prop where
  | nil : PJd X S E [] []
  | cons {e : Expr} {t : DE} {es : List Expr} {ts : List DE} (h : PD X S E e t) (r : PJd X S E es ts) : PJd X S E (e :: es) (t :: ts)
end
end Mv
end
section
set_option Elab.async false
set_option linter.all false
set_option maxRecDepth 100000
set_option maxHeartbeats 4000000
namespace Mv
open PySem PySem.Spec L2
open Evl (Ex ex_l ex_t ex_rd)
open PyProof.Rows
section
variable {X : Cx} {S : Sy} {E : XS} {k : Nat} {M MR : Mts}
def rCatLD : D2 := fun c d _ W Q _ => match c, d with
  | .lst a, .lst b => a.length + b.length ≤ 1000000 ∧ Q (.lst (a ++ b)) W
  | _, _ => False
theorem od_catL : OpD X S E (binaryOp .Add) rCatLD := OpR.od op_cat fun σ H F sd W x y c d Q2 E2 rl sr xc px py q => by
  cases px with
  | lst h1 r1 =>
    cases py with
    | lst h2 r2 =>
      exact ⟨_, _, _, _, rfl, rfl, rl.sub _ _ h1, rl.sub _ _ h2, by rw [r1.length, r2.length, sizeLine_eq]; have := q.1; omega, fun p hp => tkQ_of (Ex.new (rl.nf hp)) (rl.newF hp) (.lst upd_same ((r1.append r2).mono (Ex.new (rl.nf hp)))) q.2⟩
    | _ => exact q.elim
  | _ => cases py <;> exact q.elim
def rCatTD : D2 := fun c d _ W Q _ => match c, d with
  | .tup a, .tup b => a ≠ [] ∧ b ≠ [] ∧ a.length + b.length ≤ 1000000 ∧ Q (.tup (a ++ b)) W
  | _, _ => False
theorem od_catT (hK : X.K = S.K) : OpD X S E (binaryOp .Add) rCatTD := OpR.od op_catT fun σ H F sd W x y c d Q2 E2 rl sr xc px py q => by
  cases px with
  | tup h1 r1 =>
    cases py with
    | tup h2 r2 =>
      obtain ⟨n1, n2, hz, q⟩ := q
      refine ⟨_, _, _, _, rfl, rfl, by rw [hK]; exact ex_t rl.sub h1.1, by rw [hK]; exact ex_t rl.sub h2.1, fun e => ?_, by rw [r1.length, r2.length, sizeLine_eq]; omega, fun e => ?_, fun _ p hp => tkQ_of (Ex.new (rl.nf hp)) (rl.newF hp) (.tup (TpU.new upd_same) ((r1.append r2).mono (Ex.new (rl.nf hp)))) q⟩
      · subst e; cases r1; exact n1 rfl
      · subst e; cases r2; exact (n2 rfl).elim
    | _ => exact q.elim
  | _ => cases py <;> exact q.elim
def tAdd (M MR : Mts) : D2 := fun c d sd W Q E2 => match c, d with
  | .int i, .int j => Q (.int (i + j)) W
  | .str i, .str j => i.length + j.length ≤ sizeLine ∧ Q (.str (i ++ j)) W
  | .lst a, .lst b => a.length + b.length ≤ 1000000 ∧ Q (.lst (a ++ b)) W
  | .tup a, .tup b => a ≠ [] ∧ b ≠ [] ∧ a.length + b.length ≤ 1000000 ∧ Q (.tup (a ++ b)) W
  | .int i, d => rOwnR MR isInt (.int i) d sd W Q E2
  | c, d => rOwn M rhsIS c d sd W Q E2
theorem od_add (hK : X.K = S.K) (tk : Takes X E) (hr : Room (k + 1) X.A) (O : OwnOp X S k .Add M MR) : OpD X S E (binaryOp .Add) (tAdd M MR) :=
  ((od_int0 op_add).or (od_catS.or (od_catL.or ((od_catT hK).or ((op_ownR (op := .Add) PySem.F.slot_int_add PySem.F.entry_int_add (fun _ _ => PySem.F.args_int_add_2 _ _) dec_add hK tk hr O.okR rfl O.faR).or (op_own hK tk hr O.ok rfl O.fa)))))).imp fun c d sd W Q E2 q => by
    cases c with
    | int i => cases d with
      | int j => exact .inl ⟨trivial, q⟩
      | _ => exact .inr (.inr (.inr (.inr (.inl q))))
    | str i => cases d with
      | str j => exact .inr (.inl q)
      | _ => exact .inr (.inr (.inr (.inr (.inr q))))
    | lst i => cases d with
      | lst j => exact .inr (.inr (.inl q))
      | _ => exact .inr (.inr (.inr (.inr (.inr q))))
    | tup i => cases d with
      | tup j => exact .inr (.inr (.inr (.inl q)))
      | _ => exact .inr (.inr (.inr (.inr (.inr q))))
    | _ => cases d <;> exact .inr (.inr (.inr (.inr (.inr q))))
def tSub (M MR : Mts) : D2 := fun c d sd W Q E2 => match c, d with
  | .int i, .int j => Q (.int (i - j)) W
  | .int i, d => rOwnR MR isInt (.int i) d sd W Q E2
  | c, d => rOwn M rhsIS c d sd W Q E2
theorem od_sub (hK : X.K = S.K) (tk : Takes X E) (hr : Room (k + 1) X.A) (O : OwnOp X S k .Sub M MR) : OpD X S E (binaryOp .Sub) (tSub M MR) :=
  ((od_int0 op_sub).or ((op_ownR (op := .Sub) PySem.F.slot_int_sub PySem.F.entry_int_sub (fun _ _ => PySem.F.args_int_sub_2 _ _) dec_sub hK tk hr O.okR rfl O.faR).or (op_own hK tk hr O.ok rfl O.fa))).imp fun c d sd W Q E2 q => by
    cases c with
    | int i => cases d with
      | int j => exact .inl ⟨trivial, q⟩
      | _ => exact .inr (.inl q)
    | _ => cases d <;> exact .inr (.inr q)
def rRepD : D2 := fun c d _ W Q _ => match c, d with
  | .lst a, .int n => -(2 ^ 63) ≤ n ∧ n < 2 ^ 63 ∧ a.length * n.toNat ≤ 1000000 ∧ Q (.lst (List.replicate n.toNat a).flatten) W
  | _, _ => False
theorem Rps.rep {F : Hp} {vs : List V} {ds : List D} (r : Rps S F vs ds) : ∀ n : Nat, Rps S F (List.replicate n vs).flatten (List.replicate n ds).flatten
  | 0 => .nil
  | n + 1 => by
    rw [List.replicate_succ, List.replicate_succ, List.flatten_cons, List.flatten_cons]
    exact r.append (Rps.rep r n)
theorem od_rep : OpD X S E (binaryOp .Mult) rRepD := OpR.od op_rep fun σ H F sd W x y c d Q2 E2 rl sr xc px py q => by
  cases px with
  | lst h1 r1 =>
    cases py with
    | int n =>
      obtain ⟨q1, q2, q3, q⟩ := q
      exact ⟨_, _, _, rfl, rfl, rl.sub _ _ h1, q1, q2, by rw [r1.length, sizeLine_eq]; omega, fun p hp => tkQ_of (Ex.new (rl.nf hp)) (rl.newF hp) (.lst upd_same ((Rps.rep r1 _).mono (Ex.new (rl.nf hp)))) q⟩
    | _ => exact q.elim
  | _ => cases py <;> exact q.elim
def tMul (M MR : Mts) : D2 := fun c d sd W Q E2 => match c, d with
  | .int i, .int j => (CMulW i j ∨ CMul i j) ∧ Q (.int (i * j)) W
  | .lst a, .int n => -(2 ^ 63) ≤ n ∧ n < 2 ^ 63 ∧ a.length * n.toNat ≤ 1000000 ∧ Q (.lst (List.replicate n.toNat a).flatten) W
  | .int i, d => rOwnR MR isInt (.int i) d sd W Q E2
  | c, d => rOwn M rhsIS c d sd W Q E2
theorem od_mul (hK : X.K = S.K) (tk : Takes X E) (hr : Room (k + 1) X.A) (O : OwnOp X S k .Mult M MR) : OpD X S E (binaryOp .Mult) (tMul M MR) :=
  ((od_int (opI (C := fun i j => CMulW i j ∨ CMul i j) fun _ _ _ _ _ _ _ hc q => mul_int q (hc.elim CMulW.ok CMul.ok))).or (od_rep.or ((op_ownR (op := .Mult) PySem.F.slot_int_mul PySem.F.entry_int_mul (fun _ _ => PySem.F.args_int_mul_2 _ _) dec_mul hK tk hr O.okR rfl O.faR).or (op_own hK tk hr O.ok rfl O.fa)))).imp fun c d sd W Q E2 q => by
    cases c with
    | int i => cases d with
      | int j => exact .inl q
      | _ => exact .inr (.inr (.inl q))
    | lst i => cases d with
      | int j => exact .inr (.inl q)
      | _ => exact .inr (.inr (.inr q))
    | _ => cases d <;> exact .inr (.inr (.inr q))
def tFdiv (M : Mts) : D2 := fun c d sd W Q E2 => match c, d with
  | .int i, .int j => CDivW i j ∧ Q (.int (i / j)) W
  | c, d => rOwn M rhsIS c d sd W Q E2
theorem od_fdiv (hK : X.K = S.K) (tk : Takes X E) (hr : Room (k + 1) X.A) (O : OwnOp X S k .FloorDiv M .none) : OpD X S E (binaryOp .FloorDiv) (tFdiv M) :=
  ((od_int op_fdivW).or (op_own hK tk hr O.ok rfl O.fa)).imp fun c d sd W Q E2 q => by
    cases c with
    | int i => cases d with
      | int j => exact .inl q
      | _ => exact .inr q
    | _ => cases d <;> exact .inr q
def tMod (M : Mts) : D2 := fun c d sd W Q E2 => match c, d with
  | .int i, .int j => 0 < j ∧ Q (.int (i % j)) W
  | c, d => rOwn M rhsIS c d sd W Q E2
theorem od_mod (hK : X.K = S.K) (tk : Takes X E) (hr : Room (k + 1) X.A) (O : OwnOp X S k .Mod M .none) : OpD X S E (binaryOp .Mod) (tMod M) :=
  ((od_int op_mod).or (op_own hK tk hr O.ok rfl O.fa)).imp fun c d sd W Q E2 q => by
    cases c with
    | int i => cases d with
      | int j => exact .inl q
      | _ => exact .inr q
    | _ => cases d <;> exact .inr q
def tPow : D2 := rInt2 CPow fun i j => .int (i ^ j.toNat)
theorem od_pow : OpD X S E (binaryOp .Pow) tPow := od_int op_pow
def tCm (M MR : Mts) (g : Int → Int → Bool) : D2 := fun c d sd W Q E2 => match c, d with
  | .int i, .int j => Q (.bl (g i j)) W
  | .int i, d => rOwnR MR isInt (.int i) d sd W Q E2
  | c, d => rOwn M rhsIS c d sd W Q E2
theorem tCm_or {g : Int → Int → Bool} {op : CmpOp} (h1 : OpD X S E (compareOp op) (rInt2 (fun _ _ => True) fun i j => .bl (g i j))) (h2 : OpD X S E (compareOp op) (rOwnR MR isInt)) (h3 : OpD X S E (compareOp op) (rOwn M rhsIS)) : OpD X S E (compareOp op) (tCm M MR g) :=
  (h1.or (h2.or h3)).imp fun c d sd W Q E2 q => by
    cases c with
    | int i => cases d with
      | int j => exact .inl ⟨trivial, q⟩
      | _ => exact .inr (.inl q)
    | _ => cases d <;> exact .inr (.inr q)
theorem od_lt (hK : X.K = S.K) (tk : Takes X E) (hr : Room (k + 1) X.A) (O : OwnCm X S k .Lt M MR) : OpD X S E (compareOp .Lt) (tCm M MR fun i j => decide (i < j)) :=
  tCm_or (od_cmp0 op_lt) (op_ownCR (fun _ _ => rfl) PySem.F.slot_int_lt PySem.F.entry_int_lt (fun _ _ => PySem.F.args_int_lt_2 _ _) dec_lt hK tk hr O.okR rfl O.faR) (op_ownC (fun _ _ => rfl) hK tk hr O.ok rfl O.fa)
theorem od_gt (hK : X.K = S.K) (tk : Takes X E) (hr : Room (k + 1) X.A) (O : OwnCm X S k .Gt M MR) : OpD X S E (compareOp .Gt) (tCm M MR fun i j => decide (j < i)) :=
  tCm_or (od_cmp0 op_gt) (op_ownCR (fun _ _ => rfl) PySem.F.slot_int_gt PySem.F.entry_int_gt (fun _ _ => PySem.F.args_int_gt_2 _ _) dec_gt hK tk hr O.okR rfl O.faR) (op_ownC (fun _ _ => rfl) hK tk hr O.ok rfl O.fa)
theorem od_ge (hK : X.K = S.K) (tk : Takes X E) (hr : Room (k + 1) X.A) (O : OwnCm X S k .GtE M MR) : OpD X S E (compareOp .GtE) (tCm M MR fun i j => decide (j ≤ i)) :=
  tCm_or (od_cmp0 op_ge) (op_ownCR (fun _ _ => rfl) PySem.F.slot_int_ge PySem.F.entry_int_ge (fun _ _ => PySem.F.args_int_ge_2 _ _) dec_ge hK tk hr O.okR rfl O.faR) (op_ownC (fun _ _ => rfl) hK tk hr O.ok rfl O.fa)
def tIn (q : EqI) (neg : Bool) (n : Nat) : D2 := fun c d sd W Q E2 => match d with
  | .str _ => rInS neg c d sd W Q E2
  | _ => rInQ q neg n c d sd W Q E2
theorem od_notIn {q : EqI} {j n : Nat} (O : EqO X S q j) (hr : Room k X.A) (hk : j + 1 + (n + 1) ≤ k) : OpD X S E (compareOp .NotIn) (tIn q true n) :=
  (od_notInS.or (od_inQ (n := n) O hr hk true)).imp fun c d sd W Q E2 z => by
    cases d <;> first | exact .inl z | exact .inr z
theorem od_eq {q : EqI} {j n : Nat} (O : EqO X S q j) (hr : Room k X.A) (hk : j + 1 + n ≤ k) : OpD X S E (compareOp .Eq) (rEqQ q false n) := od_eqQ O hr hk false
theorem od_ne {q : EqI} {j n : Nat} (O : EqO X S q j) (hr : Room k X.A) (hk : j + 1 + n ≤ k) : OpD X S E (compareOp .NotEq) (rEqQ q true n) := od_eqQ O hr hk true
def dNegO (M : Mts) (t : DE) : DE := fun sd W Q E2 => t sd W (fun d W1 => match d with
  | .int i => Q (.int (-i)) W1
  | d => kIns W1 d fun c _ => c ∈ M.l ∧ dfl (M.n c) (M.dd c) [d] fun ds' => M.sp c ds' W1 Q (fun x W' => E2 x sd W')) E2
end
open He (ba ga ma eqO eqO_ok)
section
variable {S : Sy}
end
end Mv
end
section
set_option Elab.async false
set_option linter.all false
set_option maxRecDepth 100000
set_option maxHeartbeats 4000000
namespace Mv
open PySem PySem.Spec L2
open Evl (Ex ex_l ex_t ex_rd)
open PyProof.Rows
section
variable {X : Cx} {S : Sy} {E : XS} {k : Nat}
theorem pd_ty {x : Str} {n : String} {pos : Pos} (hm : X.mg x = none) (hg : Gl X x := by rfl) (hv : bootBuiltins x = some (.type n) := by kernel_rfl) (hn : x ≠ "__name__" := by decide) (hd : (x == ("__debug__" : Str)) = false := by decide) : PD X S E (.Name x pos) (dC (.ty n)) :=
  PE.pd (pe_bltn hg hm hv (v := .ty n) rfl hn hd) fun _ _ _ _ _ _ _ r _ _ q => tkQ_of (Ex.refl _) r (.ty _) q
theorem pd_gref {x : Str} {a : Addr} {pos : Pos} (hm : X.mg x = some (.ref a)) (hg : Gl X x := by rfl) (hd : (x == ("__debug__" : Str)) = false := by decide) : PD X S E (.Name x pos) (dC (.ptr a)) :=
  pd_glob (v := .ref a) hg hm rfl (fun _ => .ptr a) hd
def dPar3 (i j l : Nat) (t : DA) : DS := fun D sd W E2 => t sd W (fun ds W1 => match ds with
  | [c, d, e] => D.nx (((sd.set i (some c)).set j (some d)).set l (some e)) W1
  | _ => False) E2
theorem psd_par3 {i j l : Nat} {x y z : Str} {a b c : Expr} {t : DA} {pos px py pz pt : Pos} {kt k2 pt2} (hc : X.calm = true) (hN : X.N.Nodup) (ha : PAd X S E [a, b, c] t) (hi : X.N[i]? = some x := by rfl) (hj : X.N[j]? = some y := by rfl) (hl : X.N[l]? = some z := by rfl) (hij : i ≠ j := by decide) (hil : i ≠ l := by decide) (hjl : j ≠ l := by decide)
    (hx : X.env.scope.names.lookup x = some .local := by rfl) (hy : X.env.scope.names.lookup y = some .local := by rfl) (hz : X.env.scope.names.lookup z = some .local := by rfl)
    (hw : swappedStores [.Tuple [.Name x px, .Name y py, .Name z pz] kt pt] (.Tuple [a, b, c] k2 pt2) X.env = pure (some [x, y, z]) := by rfl)
    (hs : swapsWithSole [.Tuple [.Name x px, .Name y py, .Name z pz] kt pt] (.Tuple [a, b, c] k2 pt2) pos.line X.env = pure false := by rfl) :
    PSd X S E (.Assign [.Tuple [.Name x px, .Name y py, .Name z pz] kt pt] (.Tuple [a, b, c] k2 pt2) pos) (dPar3 i j l t) :=
  PS.pd (ps_par3 hc hN hi hj hl hij hil hjl hx hy hz ha.pa hw hs) fun σ H F sd W D2 E2 rl sr xc h => ⟨F, sd, W, _, E2, rl, sr, fun F1 vs ds W1 H1 e1 r1 p1 q1 => by
    match ds, q1, p1 with
    | [c, d, e], q1, .cons p1 (.cons p2 (.cons p3 .nil)) =>
      exact ⟨_, _, _, rfl, F1, _, W1, e1, r1, (((sr.mono e1).set p1).set p2).set p3, q1⟩, xc, h⟩
end
theorem mem_lk {α β : Type} [BEq α] [LawfulBEq α] {a : α} {b : β} : ∀ {l : List (α × β)}, l.lookup a = some b → (a, b) ∈ l
  | [], h => by cases h
  | (x, y) :: l, h => by
    simp only [List.lookup] at h
    split at h
    · rename_i e
      cases h
      rw [eq_of_beq e]
      exact List.mem_cons_self
    · exact List.mem_cons_of_mem _ (mem_lk h)
def fldN : List Str := (["parts", "alone", "at", "below", "best", "book", "bounds", "budget", "can_fit", "columns", "cost_scale", "costs", "done", "feeding", "firsts", "frame", "giver", "goal", "head", "kept_book", "kept_done", "kept_firsts", "kept_sums", "key", "lap", "last", "limit", "limits", "line", "line_prices", "lines", "low", "most", "moves", "name", "number", "open_column", "order", "own_book", "own_budget", "own_firsts", "pair", "pair_prices", "pairs", "part", "question", "rails", "row", "rows", "scales", "share", "shares", "start", "steps", "sums", "tail", "taker", "text", "times", "unit", "unknowns", "usable", "used", "value", "weights", "what", "word", "years", "MOVES", "WORD", "all_limits", "bottom", "got", "many", "own", "top", "width"] : List String).map Str.ofString
def tabN (i : Nat) : Str := if h : i < fldN.length then fldN[i] else ⟨#[0, i]⟩
theorem tab_ne {l : List Str} (hl : l.all (fun s => s.cps[0]? != some 0) = true) {i : Nat} (h : i < l.length) (j : Nat) : l[i] ≠ (⟨#[0, j]⟩ : Str) := by
  intro e
  have := List.all_eq_true.mp hl l[i] (List.getElem_mem h)
  rw [e] at this
  simp at this
def tab : Tab where
  nm := tabN
  inj := fun i j h => by
    have hl : fldN.all (fun s => s.cps[0]? != some 0) = true := by decide +kernel
    have nd : fldN.Nodup := by decide +kernel
    unfold tabN at h
    by_cases hi : i < fldN.length
    · by_cases hj : j < fldN.length
      · rw [dif_pos hi, dif_pos hj] at h
        exact (List.getElem_inj nd).mp h
      · rw [dif_pos hi, dif_neg hj] at h
        exact absurd h (tab_ne hl hi j)
    · by_cases hj : j < fldN.length
      · rw [dif_neg hi, dif_pos hj] at h
        exact absurd h.symm (tab_ne hl hj i)
      · rw [dif_neg hi, dif_neg hj] at h
        have := congrArg (fun s : Str => s.cps[1]?) h
        simpa using this
open He (ga ma)
theorem caK_inj {cn : Cn} {K : PySem.W.Frag} (h : cnB cn K = true) (i j : Nat) (e : caK cn K i = caK cn K j) : i = j := by
  obtain ⟨h1, h⟩ := He.ba h
  obtain ⟨h2, h3⟩ := He.ba h
  have h1 := of_decide_eq_true h1
  have lt : ∀ {i x}, cn.lookup i = some x → ga K x < 1099511627776 := fun {i x} hx => of_decide_eq_true (List.all_eq_true.mp h3 (i, x) (mem_lk hx))
  unfold caK at e
  cases hi : cn.lookup i with
  | none =>
    cases hj : cn.lookup j with
    | none => rw [hi, hj] at e; simpa using e
    | some y =>
      rw [hi, hj] at e
      have l1 : (ga K y : Nat) < 1099511627776 := lt hj
      have e1 : (1099511627776 + i : Nat) = (ga K y : Nat) := e
      have l2 : (1099511627776 + i : Nat) < 1099511627776 := by rw [e1]; exact l1
      exact absurd l2 (by omega)
  | some x =>
    cases hj : cn.lookup j with
    | none =>
      rw [hi, hj] at e
      have l1 : (ga K x : Nat) < 1099511627776 := lt hi
      have e1 : (ga K x : Nat) = (1099511627776 + j : Nat) := e
      have l2 : (1099511627776 + j : Nat) < 1099511627776 := by rw [← e1]; exact l1
      exact absurd l2 (by omega)
    | some y =>
      rw [hi, hj] at e
      simp only at e
      have m1 := mem_lk hi
      have m2 := mem_lk hj
      have : (i, x) = (j, y) := by
        obtain ⟨a, ha, ea⟩ := List.mem_iff_getElem.mp m1
        obtain ⟨b, hb, eb⟩ := List.mem_iff_getElem.mp m2
        have : a = b := by
          refine (List.getElem_inj (h₀ := by simpa using ha) (h₁ := by simpa using hb) h1).mp ?_
          simp only [List.getElem_map, ea, eb]
          exact e
        subst this
        rw [ea] at eb
        exact eb
      exact congrArg Prod.fst this
def syK (cn : Cn) (cl : List Nat) (K : PySem.W.Frag) (h : cnB cn K = true) (T : List (Addr × Str) := []) : Sy := ⟨K, tab, caK cn K, caK_inj h, cl, T⟩
open He5 (DefA wf fnA)
section
variable {mf : List (PySem.W.Frag → Bool)} {fn : List DefA} {K : PySem.W.Frag}
theorem SaysM.fact (c : SaysM mf fn K) (i : Nat) {f : PySem.W.Frag → Bool} (h : mf[i]? = some f := by rfl) : f K = true := by
  have c1 := (He.ba (show ((mf.all fun f => f K) && fn.all fun d => d.ok K) = true from congrArg (fun z : He.AlD => z.1) c)).1
  exact List.all_eq_true.mp c1 f (List.mem_of_getElem? h)
theorem SaysM.def_ (c : SaysM mf fn K) (i : Nat) {d : DefA} (h : fn[i]? = some d := by rfl) : ∃ fd, L2.FunD K d.name d.qual d.params d.body d.scope (d.dvs K) (d.kws K) (d.at_ K) fd := by
  have c2 := (He.ba (show ((mf.all fun f => f K) && fn.all fun d => d.ok K) = true from congrArg (fun z : He.AlD => z.1) c)).2
  have e : fn.map (fun d => fnA K (d.at_ K)) = fn.map DefA.val := congrArg (fun z : He.AlD => z.2) c
  have e2 : (fn.map fun d => fnA K (d.at_ K))[i]? = (fn.map DefA.val)[i]? := by rw [e]
  rw [List.getElem?_map, List.getElem?_map, h] at e2
  exact DefA.funD (Option.some.inj e2) (List.all_eq_true.mp c2 d (List.mem_of_getElem? h))
end
section
variable {K : PySem.W.Frag}
end
theorem fnD_mk {P : Program} {w : World} {S : Sy} {mg : Str → Option Value} {base : Heap} {x qual : Str} {params : Arguments} {body : List Stmt} {scope : Scope} {kws : List (Str × V)} {f : Addr} {fd : FuncData} {ps : List Str} {k : Nat} {sp2 : DSp}
    (Fd : FunD S.K x qual params body scope [] kws f fd) (F : FnOk P w S.K mg base (L2.CX P w) k f fd ps (upSp S sp2))
    (hb : ∀ (kV doc pm : Value) (an : Option Addr) (cdv ct : Value) (us : List Value), us.length = ps.length → bindArgs (PySem.W.fnOf x qual params body scope .none kV doc pm an cdv ct) ⟨us, []⟩ = pure (ps.zip us)) : FnD P w S mg base k f ps.length [] sp2 :=
  ⟨⟨fd, ps, [], F, rfl, fun _ => .nil, fun j hj => ⟨[], by simp only [List.drop_nil]; exact .nil, Fd.bindsN hb⟩⟩, Fd.kp⟩
end Mv
end
section
set_option Elab.async false
set_option linter.all false
set_option maxRecDepth 100000
set_option maxHeartbeats 4000000
namespace Mv
open PySem PySem.Spec L2
open Evl (Ex ex_l ex_t ex_rd)
open PyProof.Rows PySem.Calls
section
variable {prog : Program} {w : World} {A : Around} {E : Value → Shared → Prop} {s : Shared} {K : PySem.W.Frag} {x C f : Addr} {ox : Obj} {od : Option Obj}
end
section
variable {X : Cx} {S : Sy} {E : XS} {k : Nat}
def isOwn (W : Wd) (d : D) : Bool := match d with
  | .ins _ _ => true
  | .ptr a => (match W a with
    | some (.ins _ _) => true
    | _ => false)
  | _ => false
def dB1 (M : Mts) (post : D → Option D) (r : DC) (te : DE) : DE := fun sd W Q E2 => te sd W (fun d W1 => if isOwn W1 d = true then kIns W1 d fun c _ => c ∈ M.l ∧ dfl (M.n c) (M.dd c) [d] fun ds' => M.sp c ds' W1 (fun y W2 => kSome (post y) fun z => Q z W2) (fun x W' => E2 x sd W') else r [d] W1 Q) E2
abbrev G1 (M : Mts) (post : D → Option D) (r : DC) (Q2 : QD) (E2 : QX) (sd : SD) (ds : List D) (W1 : Wd) : Prop := match ds with
  | [d] => if isOwn W1 d = true then kIns W1 d fun c _ => c ∈ M.l ∧ dfl (M.n c) (M.dd c) [d] fun ds' => M.sp c ds' W1 (fun y W2 => kSome (post y) fun z => Q2 z W2) (fun x W' => E2 x sd W') else r [d] W1 Q2
  | _ => False
end
end Mv
end
section
set_option Elab.async false
set_option linter.all false
set_option maxRecDepth 100000
set_option maxHeartbeats 4000000
namespace Mv
open PySem PySem.Spec L2
def partsD (q : Rat) : D := .tup [.int q.num, .int q.den]
def amt (q : Rat) : D := .ins 0 [(0, partsD q)]
def Bg (i : Int) : Prop := i.natAbs < 2 ^ 8990
def qN : EqI := fun _ _ _ => none
abbrev mt1 (n : Nat) (sp : Sy → DSp) (S : Sy) : Mts := ⟨[0], fun _ => n, fun _ => [], fun _ => sp S⟩
def a_parts (S : Sy) : Ats := ⟨[0], [], fun _ _ _ _ _ => False⟩
end Mv
end
section
set_option Elab.async false
set_option linter.all false
set_option maxRecDepth 100000
set_option maxHeartbeats 4000000
namespace Mv
open PySem PySem.Spec L2
section
variable {D : DEnds} {sd : SD} {W : Wd} {Q : QD} {E : QX} {QA : List Mv.D → Wd → Prop} {QB : Bool → Wd → Prop} {QS : SD → Wd → Prop} {S : Sy}
theorem dSeq_e {t u : DS} : dSeq t u D sd W E = t { D with nx := fun sd' W' => u D sd' W' E } sd W E := rfl
theorem dNext_e : dNext D sd W E = D.nx sd W := rfl
theorem dBreak_e : dBreak D sd W E = D.bk sd W := rfl
theorem dCont_e : dCont D sd W E = D.ct sd W := rfl
theorem dNever_e : dNever D sd W E = False := rfl
theorem dRet_e {t : DE} : dRet t D sd W E = t sd W D.rt E := rfl
theorem dRetN_e : dRetN D sd W E = D.rt .non W := rfl
theorem dDrop_e {t : DE} : dDrop t D sd W E = t sd W (fun _ W1 => D.nx sd W1) E := rfl
theorem dIfS_e {c : DT} {t u : DS} : dIfS c t u D sd W E = c sd W (fun b W1 => if b = true then t D sd W1 E else u D sd W1 E) E := rfl
theorem dAsg_e {t : DE} {g : DG} : dAsg t g D sd W E = t sd W (fun d W1 => g d sd W1 D.nx) E := rfl
theorem dPar_e {i j : Nat} {t : DA} : dPar i j t D sd W E = t sd W (fun ds W1 => match ds with
  | [c, d] => D.nx ((sd.set i (some c)).set j (some d)) W1
  | _ => False) E := rfl
theorem dPar3_e {i j l : Nat} {t : DA} : dPar3 i j l t D sd W E = t sd W (fun ds W1 => match ds with
  | [c, d, e] => D.nx (((sd.set i (some c)).set j (some d)).set l (some e)) W1
  | _ => False) E := rfl
theorem gN_e {i : Nat} {d : Mv.D} : gN i d sd W QS = QS (sd.set i (some d)) W := rfl
theorem gTp_e {n : Nat} {t : DGs} {ds : List Mv.D} : gTp n t (.tup ds) sd W QS = (ds.length = n ∧ t ds sd W QS) := rfl
theorem gNs_e {t : DG} {u : DGs} {d : Mv.D} {r : List Mv.D} : gNs t u (d :: r) sd W QS = t d sd W (fun sd' W' => u r sd' W' QS) := rfl
theorem gN0_e : gN0 [] sd W QS = QS sd W := rfl
theorem dVar_e {i : Nat} : dVar i sd W Q E = ∃ d, sd[i]? = some (some d) ∧ Q d W := rfl
theorem dC_e {d : Mv.D} : dC d sd W Q E = Q d W := rfl
theorem dCB_e {r : DC} {t : DA} : dCB r t sd W Q E = t sd W (fun ds W1 => r ds W1 Q) E := rfl
theorem dCons_e {t : DE} {u : DA} : dCons t u sd W QA E = t sd W (fun d W1 => u sd W1 (fun ds W2 => QA (d :: ds) W2) E) E := rfl
theorem dNil_e : dNil sd W QA E = QA [] W := rfl
theorem dTup_e {t : DA} : dTup t sd W Q E = t sd W (fun ds W1 => ds.length ≤ 1000 ∧ Q (.tup ds) W1) E := rfl
theorem dLst_e {t : DA} : dLst t sd W Q E = t sd W (fun ds W1 => ds.length ≤ 1000 ∧ Q (.lst ds) W1) E := rfl
theorem dLstM_e {t : DA} : dLstM t sd W Q E = t sd W (fun ds W1 => ds.length ≤ 1000 ∧ ∀ p, W1 p = none → Q (.ptr p) (put W1 p (.lst ds))) E := rfl
theorem dOp_e {r : D2} {a b : DE} : dOp r a b sd W Q E = a sd W (fun c W1 => b sd W1 (fun d W2 => r c d sd W2 Q E) E) E := rfl
theorem dTst_e {t : DE} : dTst t sd W QB E = t sd W (fun d W1 => kTru W1 d fun b => QB b W1) E := rfl
theorem dTbl_e {t : DE} : dTbl t sd W QB E = t sd W (fun d W1 => kBl d fun b => QB b W1) E := rfl
theorem dNot_e {t : DT} : dNot t sd W QB E = t sd W (fun b W1 => QB (!b) W1) E := rfl
theorem dAnd_e {t u : DT} : dAnd t u sd W QB E = t sd W (fun b W1 => if b = true then u sd W1 QB E else QB false W1) E := rfl
theorem dOr_e {t u : DT} : dOr t u sd W QB E = t sd W (fun b W1 => if b = true then QB true W1 else u sd W1 QB E) E := rfl
theorem dAndV_e {t u : DE} : dAndV t u sd W Q E = t sd W (fun d W1 => kBl d fun b => if b = true then u sd W1 Q E else Q (.bl false) W1) E := rfl
theorem dOrV_e {t u : DE} : dOrV t u sd W Q E = t sd W (fun d W1 => kBl d fun b => if b = true then Q (.bl true) W1 else u sd W1 Q E) E := rfl
theorem dNotV_e {t : DE} : dNotV t sd W Q E = t sd W (fun d W1 => kTru W1 d fun b => Q (.bl (!b)) W1) E := rfl
theorem dIf_e {c : DT} {t u : DE} : dIf c t u sd W Q E = c sd W (fun b W1 => if b = true then t sd W1 Q E else u sd W1 Q E) E := rfl
theorem dCall_e {n : Nat} {dd : List Mv.D} {sp : DSp} {t : DA} : dCall n dd sp t sd W Q E = t sd W (fun ds W1 => dfl n dd ds fun ds' => sp ds' W1 Q (fun d W' => E d sd W')) E := rfl
theorem dSm_e {C : Addr} {n : Nat} {dd : List Mv.D} {sp : DSp} {ta : DE} {t : DA} : dSm C n dd sp ta t sd W Q E = ta sd W (fun d W1 => d = .ptr C ∧ t sd W1 (fun ds W2 => dfl n dd ds fun ds' => sp ds' W2 Q (fun x W' => E x sd W')) E) E := rfl
theorem dCm_e {C : Addr} {n : Nat} {dd : List Mv.D} {sp : DSp} {ta : DE} {t : DA} : dCm C n dd sp ta t sd W Q E = ta sd W (fun d W1 => d = .ptr C ∧ t sd W1 (fun ds W2 => dfl n dd (.ptr C :: ds) fun ds' => sp ds' W2 Q (fun x W' => E x sd W')) E) E := rfl
theorem dMeth_e {M : Mts} {ta : DE} {t : DA} : dMeth M ta t sd W Q E = ta sd W (fun d W1 => kIns W1 d fun c _ => c ∈ M.l ∧ t sd W1 (fun ds W2 => dfl (M.n c) (M.dd c) (d :: ds) fun ds' => M.sp c ds' W2 Q (fun x W' => E x sd W')) E) E := rfl
theorem dfl_e0 {n : Nat} {ds : List Mv.D} {k : List Mv.D → Prop} : dfl n [] ds k = (ds.length ≤ n ∧ n ≤ ds.length + 0 ∧ k (ds ++ [])) := by simp [dfl]
theorem dAttr_e {M : Ats} {i : Nat} {ta : DE} : dAttr M i ta sd W Q E = ta sd W (fun d W1 => kIns W1 d fun c fs => (c ∈ M.fl ∧ match fs.lookup i with
  | some x => Q x W1
  | none => False) ∨ (c ∈ M.pr ∧ M.sp c [d] W1 Q (fun _ _ => False))) E := rfl
theorem dFor_e {ti : DI} {g : DG} {tb : DS} : dFor ti g tb D sd W E = ti sd W (fun l W1 => loopD l.ok g tb D E l.items sd W1) E := rfl
theorem iSq_e {t : DE} {QL : LiD → Wd → Prop} : iSq t sd W QL E = t sd W (fun d W1 => kLi W1 d fun l => QL l W1) E := rfl
theorem iRng1_e {t : DA} {QL : LiD → Wd → Prop} : iRng1d t sd W QL E = t sd W (fun ds W1 => match ds with
  | [.int j] => -(2 ^ 62) ≤ j ∧ j < 2 ^ 62 ∧ QL ⟨rngD 0 j.toNat, none⟩ W1
  | _ => False) E := rfl
theorem dNeg_e {t : DE} : dNeg t sd W Q E = t sd W (fun d W1 => match d with
  | .int i => Q (.int (-i)) W1
  | _ => False) E := rfl
theorem dNegO_e {M : Mts} {t : DE} : dNegO M t sd W Q E = t sd W (fun d W1 => match d with
  | .int i => Q (.int (-i)) W1
  | d => kIns W1 d fun c _ => c ∈ M.l ∧ dfl (M.n c) (M.dd c) [d] fun ds' => M.sp c ds' W1 Q (fun x W' => E x sd W')) E := rfl
theorem dFld_e {l : List Nat} {i : Nat} {ta t : DE} : dFld l i ta t D sd W E = t sd W (fun y W1 => ta sd W1 (fun d W2 => match d with
  | .ptr a => (match W2 a with
    | some (.ins c fs) => c ∈ l ∧ fs.length ≤ 100 ∧ D.nx sd (put W2 a (.ins c (putN i y fs)))
    | _ => False)
  | _ => False) E) E := rfl
theorem dLc_e {ti : DI} {g : DG} {tt : DT} {te : DE} {vs : List Nat} : dLc ti g tt te vs sd W Q E = ti sd W (fun l W1 => ∀ p, W1 p = none → compD p l.ok g tt te (wipeD sd vs) (fun acc W2 => Q (.lst acc) (cut W2 p)) l.items [] (put W1 p (.lst []))) E := rfl
theorem dBM_e {T : String} {r : DM} {to : DE} {t : DA} : dBM T r to t sd W Q E = to sd W (fun d W1 => tyM T W1 d ∧ t sd W1 (fun ds W2 => r d ds W2 Q) E) E := rfl
theorem dFmt_e {t : DE} : dFmt t sd W Q E = t sd W (fun d W1 => match d with
  | .str y => y.length ≤ sizeLine ∧ Q (.str y) W1
  | .int i => i.natAbs.log2 < 1920 ∧ Q (.str (toString i)) W1
  | _ => False) E := rfl
theorem dB1_e {M : Mts} {post : Mv.D → Option Mv.D} {r : DC} {t : DE} : dB1 M post r t sd W Q E = t sd W (fun d W1 => if isOwn W1 d = true then kIns W1 d fun c _ => c ∈ M.l ∧ dfl (M.n c) (M.dd c) [d] fun ds' => M.sp c ds' W1 (fun y W2 => kSome (post y) fun z => Q z W2) (fun x W' => E x sd W') else r [d] W1 Q) E := rfl
theorem dSl_e {te : DE} {tl th : DO} : dSl te tl th sd W Q E = te sd W (fun c W1 => tl sd W1 (fun lo W2 => th sd W2 (fun hi W3 => match c with
  | .str z => z.length ≤ sizeLine ∧ Q (.str (cutS z lo hi)) W3
  | .lst ds => Q (.lst (cutD ds lo hi)) W3
  | .frl ds => Q (.lst (cutD ds lo hi)) W3
  | .tup ds => ¬ (HT.sIx ds.length 0 lo = 0 ∧ HT.sIx ds.length ds.length hi = ds.length) ∧ Q (.tup (cutD ds lo hi)) W3
  | .ptr a => (match W3 a with
    | some (.lst ds) => Q (.lst (cutD ds lo hi)) W3
    | _ => False)
  | _ => False) E) E) E := rfl
theorem dPart_e {t : DE} {QO : Option Int → Wd → Prop} : dPart t sd W QO E = t sd W (fun d W1 => match d with
  | .int i => QO (some i) W1
  | _ => False) E := rfl
theorem dNoPart_e {QO : Option Int → Wd → Prop} : dNoPart sd W QO E = QO none W := rfl
theorem gSetL_e {to ti : DE} {d : Mv.D} : gSetL to ti d sd W QS = to sd W (fun o W1 => ti sd W1 (fun i W2 => match i with
  | .int k => kLst W2 o fun a ds => kSome (ixN ds.length k) fun j => QS sd (put W2 a (.lst (ds.set j d)))
  | _ => False) E2F) E2F := rfl
theorem tMul_ii {M MR : Mts} {a b : Int} : Mv.tMul M MR (.int a) (.int b) sd W Q E = ((CMulW a b ∨ CMul a b) ∧ Q (.int (a * b)) W) := rfl
theorem tAdd_ii {M MR : Mts} {a b : Int} : Mv.tAdd M MR (.int a) (.int b) sd W Q E = Q (.int (a + b)) W := rfl
theorem tSub_ii {M MR : Mts} {a b : Int} : Mv.tSub M MR (.int a) (.int b) sd W Q E = Q (.int (a - b)) W := rfl
theorem tFdiv_ii {M : Mts} {a b : Int} : tFdiv M (.int a) (.int b) sd W Q E = (CDivW a b ∧ Q (.int (a / b)) W) := rfl
theorem tMod_ii {M : Mts} {a b : Int} : tMod M (.int a) (.int b) sd W Q E = (0 < b ∧ Q (.int (a % b)) W) := rfl
theorem tPow_ii {a b : Int} : tPow (.int a) (.int b) sd W Q E = (CPow a b ∧ Q (.int (a ^ b.toNat)) W) := rfl
theorem tCm_ii {M MR : Mts} {g : Int → Int → Bool} {a b : Int} : tCm M MR g (.int a) (.int b) sd W Q E = Q (.bl (g a b)) W := rfl
theorem kIns_amt {p : Rat} {k : Nat → List (Nat × Mv.D) → Prop} : kIns W (amt p) k = k 0 [(0, partsD p)] := rfl
theorem rdA {p : Rat} {r : SD} : dAttr (a_parts S) 0 (dVar 0) (some (amt p) :: r) W Q E = Q (partsD p) W := by
  simp [dAttr_e, dVar_e, kIns_amt, a_parts, List.lookup]
theorem rdP0 {p : Rat} {r : SD} : dOp tIx (dAttr (a_parts S) 0 (dVar 0)) (dC (.int 0)) (some (amt p) :: r) W Q E = Q (.int p.num) W := by
  rw [dOp_e, rdA]
  rfl
theorem rdP1 {p : Rat} {r : SD} : dOp tIx (dAttr (a_parts S) 0 (dVar 0)) (dC (.int 1)) (some (amt p) :: r) W Q E = Q (.int p.den) W := by
  rw [dOp_e, rdA]
  rfl
theorem rdV0 {x y : Option Mv.D} {p : Rat} {r : SD} : dOp tIx (dVar 2) (dC (.int 0)) (x :: y :: some (partsD p) :: r) W Q E = Q (.int p.num) W := by
  simp only [dOp_e, dVar_e, List.getElem?_cons_succ, List.getElem?_cons_zero, Option.some.injEq, exists_eq_left', dC_e]
  rfl
theorem rdV1 {x y : Option Mv.D} {p : Rat} {r : SD} : dOp tIx (dVar 2) (dC (.int 1)) (x :: y :: some (partsD p) :: r) W Q E = Q (.int p.den) W := by
  simp only [dOp_e, dVar_e, List.getElem?_cons_succ, List.getElem?_cons_zero, Option.some.injEq, exists_eq_left', dC_e]
  rfl
theorem dOpMul_e {M MR : Mts} {a b : DE} : dOp (Mv.tMul M MR) a b sd W Q E = a sd W (fun c W1 => b sd W1 (fun d W2 => (Mv.tMul M MR) c d sd W2 Q E) E) E := rfl
theorem dOpAdd_e {M MR : Mts} {a b : DE} : dOp (Mv.tAdd M MR) a b sd W Q E = a sd W (fun c W1 => b sd W1 (fun d W2 => (Mv.tAdd M MR) c d sd W2 Q E) E) E := rfl
theorem dOpSub_e {M MR : Mts} {a b : DE} : dOp (Mv.tSub M MR) a b sd W Q E = a sd W (fun c W1 => b sd W1 (fun d W2 => (Mv.tSub M MR) c d sd W2 Q E) E) E := rfl
theorem dOpFdv_e {M : Mts} {a b : DE} : dOp (tFdiv M) a b sd W Q E = a sd W (fun c W1 => b sd W1 (fun d W2 => (tFdiv M) c d sd W2 Q E) E) E := rfl
theorem dOpMod_e {M : Mts} {a b : DE} : dOp (tMod M) a b sd W Q E = a sd W (fun c W1 => b sd W1 (fun d W2 => (tMod M) c d sd W2 Q E) E) E := rfl
theorem dOpPow_e  {a b : DE} : dOp (tPow) a b sd W Q E = a sd W (fun c W1 => b sd W1 (fun d W2 => (tPow) c d sd W2 Q E) E) E := rfl
theorem dOpCm_e {M MR : Mts} {g : Int → Int → Bool} {a b : DE} : dOp (tCm M MR g) a b sd W Q E = a sd W (fun c W1 => b sd W1 (fun d W2 => (tCm M MR g) c d sd W2 Q E) E) E := rfl
theorem dOpEq_e {q : EqI} {n : Bool} {m : Nat} {a b : DE} : dOp (rEqQ q n m) a b sd W Q E = a sd W (fun c W1 => b sd W1 (fun d W2 => (rEqQ q n m) c d sd W2 Q E) E) E := rfl
theorem dOpIn_e {q : EqI} {n : Bool} {m : Nat} {a b : DE} : dOp (tIn q n m) a b sd W Q E = a sd W (fun c W1 => b sd W1 (fun d W2 => (tIn q n m) c d sd W2 Q E) E) E := rfl
theorem dOpIs_e {n : Bool} {a b : DE} : dOp (rIsN n) a b sd W Q E = a sd W (fun c W1 => b sd W1 (fun d W2 => (rIsN n) c d sd W2 Q E) E) E := rfl
theorem rIsN_f {c : Mv.D} : rIsN false c .non sd W Q E = Q (.bl (isNon c)) W := by simp [rIsN]
theorem rIsN_t {c : Mv.D} : rIsN true c .non sd W Q E = Q (.bl (!isNon c)) W := by simp [rIsN]
theorem isNon_non : isNon .non = true := rfl
theorem isNon_int {i : Int} : isNon (.int i) = false := rfl
theorem isNon_str {i : Str} : isNon (.str i) = false := rfl
theorem isNon_tup {l : List Mv.D} : isNon (.tup l) = false := rfl
theorem isNon_lst {l : List Mv.D} : isNon (.lst l) = false := rfl
theorem isNon_parts {p : Rat} : isNon (partsD p) = false := rfl
theorem isNon_amt {p : Rat} : isNon (amt p) = false := rfl
end
def rdE := And.intro @dSeq_e (And.intro @dNext_e (And.intro @dBreak_e (And.intro @dCont_e (And.intro @dNever_e (And.intro @dRet_e (And.intro @dRetN_e (And.intro @dDrop_e (And.intro @dIfS_e (And.intro @dAsg_e (And.intro @dPar_e (And.intro @dPar3_e (And.intro @gN_e (And.intro @gTp_e (And.intro @gNs_e (And.intro @gN0_e (And.intro @dVar_e (And.intro @dC_e (And.intro @dCB_e (And.intro @dCons_e (And.intro @dNil_e (And.intro @dTup_e (And.intro @dLst_e (And.intro @dLstM_e (And.intro @dOpMul_e (And.intro @dOpAdd_e (And.intro @dOpSub_e (And.intro @dOpFdv_e (And.intro @dOpMod_e (And.intro @dOpPow_e (And.intro @dOpCm_e (And.intro @dOpEq_e (And.intro @dOpIn_e (And.intro @dOpIs_e (And.intro @dTst_e (And.intro @dTbl_e (And.intro @dNot_e (And.intro @dAnd_e (And.intro @dOr_e (And.intro @dAndV_e (And.intro @dOrV_e (And.intro @dNotV_e (And.intro @dIf_e (And.intro @dCall_e (And.intro @dSm_e (And.intro @dCm_e (And.intro @dFor_e (And.intro @iSq_e (And.intro @iRng1_e (And.intro @dNeg_e (And.intro @dFld_e (And.intro @dLc_e (And.intro @dBM_e (And.intro @dFmt_e (And.intro @dSl_e (And.intro @dPart_e (And.intro @dNoPart_e (And.intro @dfl_e0 (And.intro @tMul_ii (And.intro @tAdd_ii (And.intro @tSub_ii (And.intro @tFdiv_ii (And.intro @tMod_ii (And.intro @tPow_ii (And.intro @tCm_ii (And.intro @rdP0 (And.intro @rdP1 (And.intro @rdV0 (And.intro @rdV1 (@rdA)))))))))))))))))))))))))))))))))))))))))))))))))))))))))))))))))))))
def rdQ := And.intro @rIsN_f (And.intro @rIsN_t (And.intro @isNon_non (And.intro @isNon_int (And.intro @isNon_str (And.intro @isNon_tup (And.intro @isNon_lst (And.intro @isNon_parts (And.intro @isNon_amt (And.intro @List.map_cons.{0,0} (And.intro @List.map_nil.{0,0} (And.intro @List.length_cons.{0} (And.intro @List.length_nil.{0} (And.intro @List.cons_append.{0} (And.intro @List.nil_append.{0} (And.intro @List.getElem?_cons_zero.{0} (And.intro @List.getElem?_cons_succ.{0} (And.intro @Nat.zero_add (And.intro @Nat.add_zero (And.intro @Nat.sub_self (And.intro @Nat.sub_zero (And.intro @List.set_cons_zero.{0} (And.intro @List.set_cons_succ.{0} (And.intro @List.append_nil.{0} (And.intro @List.drop_zero.{0} (And.intro @Option.some.injEq.{0} (And.intro @exists_eq_left'.{1} (And.intro @exists_eq_left.{1} (And.intro @true_and (And.intro @and_true (And.intro @if_true.{1} (And.intro @if_false.{1} (And.intro @Bool.false_eq_true (And.intro @Bool.not_true (And.intro @Bool.not_false (And.intro @ite_true.{1} (And.intro @ite_false.{1} (@Nat.le_refl)))))))))))))))))))))))))))))))))))))
end Mv
end
section
set_option Elab.async false
set_option linter.all false
set_option maxRecDepth 100000
set_option maxHeartbeats 4000000
namespace Mv
open PySem PySem.Spec L2 PyProof.Rows
def penM (cs : List Int) (k g : Int) : M := .lst [.lst (cs.map D.int), .int k, .int g]
def PenAt (W : Wd) (p : Addr) (cs : List Int) (k g : Int) : Prop := W p = some (penM cs k g) ∧ cs.length ≤ 63 ∧ 0 ≤ k ∧ k ≤ 100000
def spPen (n : Nat) (post : List D → (D → Prop) → Prop) : DSp := fun ds W Q _ => match ds with
  | .ptr p :: r => ∃ cs k g, PenAt W p cs k g ∧ k + n ≤ 100000 ∧ post r fun d => ∀ k' g' : Int, k ≤ k' → k' ≤ k + n → Q d (put W p (penM cs k' g'))
  | _ => False
def sp__law_pen (S : Sy) : DSp := fun ds W Q _ => ∃ ns : List Int, ds = [.frl (ns.map D.int)] ∧ ∀ p cs, W p = none → cs.length ≤ 63 → Q (.ptr p) (put W p (penM cs 0 0))
def sp__law_draw (S : Sy) : DSp := spPen 1 fun r q => match r with
  | [.int many] => 0 < many ∧ Bg many ∧ ∀ x : Int, 0 ≤ x → x < many → q (.int x)
  | _ => False
def sp__law_pick (S : Sy) : DSp := spPen 1 fun r q => match r with
  | [.lst xs] => xs ≠ [] ∧ xs.length ≤ 1000000 ∧ ∀ x, x ∈ xs → q x
  | [.tup xs] => xs ≠ [] ∧ xs.length ≤ 1000000 ∧ ∀ x, x ∈ xs → q x
  | _ => False
theorem rps_ints {S : Sy} {F : Hp} : ∀ ns : List Int, Rps S F (ns.map V.int) (ns.map D.int)
  | [] => .nil
  | n :: ns => .cons (.int n) (rps_ints ns)
def strip (H : Hp) : Hp := fun b => match H b with
  | some (.tbl _) => none
  | o => o
theorem strip_sub {H : Hp} {b : Addr} {o : HO} (h : strip H b = some o) : H b = some o := by
  unfold strip at h
  split at h
  · cases h
  · exact h
theorem strip_nt {H : Hp} (b : Addr) (ps : Array Value) : strip H b ≠ some (.tbl ps) := fun h => by
  have e := strip_sub h
  unfold strip at h
  rw [e] at h
  cases h
theorem strip_at {H : Hp} {b : Addr} {o : HO} (h : H b = some o) (n : ∀ ps, o ≠ .tbl ps) : strip H b = some o := by
  unfold strip
  rw [h]
  split
  · rename_i ps e
    exact absurd (Option.some.inj e) (n ps)
  · rfl
theorem strip_l {K : PySem.W.Frag} {H : Hp} {a : Addr} {xs : List V} (h : SqL K H a xs) : SqL K (strip H) a xs := by
  rcases h with (h | ⟨o, h⟩) | h
  · exact .inl (.inl (strip_at h fun _ z => (by cases z)))
  · exact .inl (.inr ⟨o, strip_at h fun _ z => (by cases z)⟩)
  · exact .inr h
end Mv
end
section
set_option Elab.async false
set_option linter.all false
set_option maxRecDepth 100000
set_option maxHeartbeats 4000000
namespace Mv
open PySem PySem.Spec L2 PyProof.Rows
theorem Qt.deeper {A : Around} (h : Qt A) (e : Env) : Qt (A.deeper e) := by
  unfold Qt at *
  simp only [Around.deeper]
  exact h
theorem FnG.mono {P : Program} {w : World} {K : PySem.W.Frag} {mg : Str → Option Value} {base : Heap} {j k : Nat} {f : Addr} {fd : FuncData} {ps : List Str} {sp : Sp} (F : FnG P w K mg base j f fd ps sp) (h : j ≤ k) : FnG P w K mg base k f fd ps sp :=
  ⟨F.len, fun A outer s H ar us vs Q E g hr => F.go A outer s H ar us vs Q E g (hr.mono h)⟩
theorem fnG_of {P : Program} {w : World} {S : Sy} {mg : Str → Option Value} {base : Heap} {x qual : Str} {params : Arguments} {body : List Stmt} {scope : Scope} {dvs : List V} {kws : List (Str × V)} {f : Addr} {fd : FuncData} {N ps : List Str} {k : Nat} {sp2 : DSp} {t : DS}
    (Fd : FunD S.K x qual params body scope dvs kws f fd) (Sc : FnScope N ps scope) (len : ∀ ds W Q E, sp2 ds W Q E → ds.length = ps.length)
    (hbody : ∀ (cdv : Value) (A : Around) (outer : List Env) (s : Shared) (H : Hp) (E : XK), Qt A → Room k (A.deeper (envOfC qual scope s.heap.objs.size f cdv)) →
      Takes (cxOf (L2.CX P w) P w S.K mg base N qual scope f cdv A outer s H E) (fun cls d _ H => E cls d H) → PBd (cxOf (L2.CX P w) P w S.K mg base N qual scope f cdv A outer s H E) S (fun cls d _ H => E cls d H) body t)
    (hD : ∀ ds W Q2 E2, sp2 ds W Q2 E2 → t { nx := fun _ W => Q2 .non W, rt := Q2 } (startD N ds) W (fun x _ W => E2 x W)) : FnG P w S.K mg base (k + 1) f fd ps (upSp S sp2) := by
  obtain ⟨oc, od, dV, kV, doc, pm, an, cdv, ct, osl, rfl, there, hasCode, _, _⟩ := Fd.ex
  have same : ∀ vs H Q E, upSp S sp2 vs H Q E → vs.length = ps.length := by
    rintro vs H Q E ⟨F, W, ds, Q2, E2, _, rp, _, _, q⟩
    exact rp.length.trans (len _ _ _ _ q)
  constructor
  · exact same
  intro A outer s H ar us vs Q E gd room at0 bnd rel pr
  have lv := same _ _ _ _ pr
  have kept : ∀ b o, base.get? b = some o → s.heap.get? b = some o := fun b o z => (at0.bs b o z).1
  have inK : S.K.In s.heap := at0.mod.kin.keeps kept
  have noLim : s.heap.NoLimit := at0.mod.nolimit.keeps kept
  refine codeAny_call_function room.depth (inK _ _ there) rfl Sc.co Sc.gen rfl (PySem.W.codeRec_of inK hasCode) (bnd _ _ _ _ ?_)
  refine wpAny_newFunctionEnv_cells Sc.kind (fun y hy => ?_) fun env e1 s1 made => ?_
  · have own := (List.of_mem_zip (show (y.1, y.2) ∈ ps.zip us from hy)).1
    rcases Sc.par y.1 own with z | z
    · exact Or.inl z
    · exact Or.inr ⟨z, PySem.W.cellsFrom_some _ _ _ (Or.inl z)⟩
  · rw [e1] at made ⊢
    refine ⟨noLim.keeps made.toInCall.keep, codeAny_func ?_⟩
    have begun : Inv (cxOf (L2.CX P w) P w S.K mg base N qual scope f cdv A outer s H E) [] (start N vs) H s1 := inv_start Sc room.hd at0 lv rel made
    have tk : Takes (cxOf (L2.CX P w) P w S.K mg base N qual scope f cdv A outer s H E) (fun cls d _ H => E cls d H) := takes_of rfl rfl rfl rfl
    obtain ⟨F, W, ds, Q2, E2, rl, rp, qc, xc, q⟩ := pr
    have done := (hbody cdv A outer s H E gd (room.deeper _) tk).pss.run [] s1 (start N vs) H { nx := fun _ H' => Q .non H', rt := Q } begun
      ⟨F, startD N ds, W, _, _, rl, start_rel rp, ⟨fun F' σ' sd' W' H' e r sr q => qc F' .non .non W' H' e r .non q, fun F' v d W' H' e r p q => qc F' v d W' H' e r p q, fun _ _ _ _ _ _ _ _ z => (z : False).elim, fun _ _ _ _ _ _ _ _ z => (z : False).elim⟩,
        fun F' dx vs c fs σ' sd' W' H' e r sr hx rf q => xc F' dx vs c fs W' H' e r hx rf q, hD ds W Q2 E2 q⟩
    refine wpAny_mono done (fun fl s' z => ?_) fun _ _ z => z
    match fl, z with
    | .ret u, ⟨v, _, H', J, rv, q⟩ => exact ⟨v, H', J.os, J.bare, J.base, J.hok, rv, q⟩
    | .next, ⟨_, H', J, q⟩ => exact ⟨.non, H', J.os, J.bare, J.base, J.hok, rfl, q⟩
    | .brk, ⟨_, _, _, q⟩ => exact q.elim
    | .cont, ⟨_, _, _, q⟩ => exact q.elim
theorem no_dict {h : Heap} {H : Hp} {a b : Addr} {vs : List Value} {o : Obj} {es : Array DictEntry} {n : Nat} (ha : h.get? a = some { cls := .type "list", data := .seq vs.toArray }) (one : ∀ b, H b ≠ none → b = a) (e : h.get? b = some o) (d : o.data = .dict es n) : H b = none := by
  refine Classical.byContradiction fun z => ?_
  have := one b z
  rw [this, ha] at e
  rw [← Option.some.inj e] at d
  cases d
theorem law_go {P : Program} {w : World} {K : PySem.W.Frag} {mg mb : Str → Option Value} {k : Nat} {fa a : Addr} {fd : FuncData} {x : Str} {sp : Sp} {s : Shared} {vs : List Value} {ns : List Int}
    (kin : K.In s.heap) (gl : s.heap.Ns mainGlobals mg) (bl : s.heap.Ns builtinsNs mb) (bb : ∀ x : Str, x ≠ "__name__" → mb x = bootBuiltins x) (lim : s.heap.NoLimit) (gens : s.gens = #[])
    (ha : s.heap.get? a = some { cls := .type "list", data := .seq vs.toArray }) (hi : IntsAre vs ns) (hl : ns.length ≤ sizeLine) (room : Room k callerA)
    (F : ∀ base : Heap, K.In base → base.Ns mainGlobals mg → FnG P w K mg base k fa fd [x] sp) (bnd : ∀ (s : Shared) (u : Value), BindsTo s fd ⟨[u], []⟩ [(x, u)])
    (hsp : ∀ H : Hp, SqL K H a (ns.map V.int) → sp [.ref a] H (fun v _ => v = .bl true) fun _ _ _ => False) :
    codeAny (model P w) callerA (.call (.ref fa) ⟨[.ref a], []⟩) (fun r s' => r = .ok (.ret (.bool true)) ∧ OldK s.heap s'.heap ∧ s'.os = s.os ∧ AllBare s'.gens) s := by
  have rv := vals_ints hi
  obtain ⟨H, only, sq, hok, one, hK⟩ : ∃ H : Hp, (∀ b, H b = none ∨ ∃ o xs, H b = some (.frz o (.lst xs))) ∧ SqL K H a (ns.map V.int) ∧ HOk P w H s.heap ∧ (∀ b, H b ≠ none → b = a) ∧ (H a ≠ none → K.lookup a = none) := by
    cases hk : K.lookup a with
    | some o =>
      have e := kin a o hk
      rw [ha] at e
      cases e
      exact ⟨fun _ => none, fun _ => Or.inl rfl, Or.inr ⟨_, vs.toArray, _, hk, rfl, rfl, rfl, by rw [List.size_toArray, hi.length]; exact hl, by simpa using rv⟩, fun b u z => (by cases (show (none : Option HO) = some u from z)), fun b z => absurd rfl z, fun z => absurd rfl z⟩
    | none =>
      have at1 : (fun b => if b = a then some (HO.frz { cls := .type "list", data := .seq vs.toArray } (.lst (ns.map V.int))) else none) a = some (HO.frz { cls := .type "list", data := .seq vs.toArray } (.lst (ns.map V.int))) := if_pos rfl
      refine ⟨fun b => if b = a then some (.frz { cls := .type "list", data := .seq vs.toArray } (.lst (ns.map V.int))) else none, fun b => ?_, Or.inl (Or.inr ⟨_, at1⟩), fun b u z => ?_, fun b z => ?_, fun _ => rfl⟩
      · by_cases hb : b = a
        · exact Or.inr ⟨_, _, if_pos hb⟩
        · exact Or.inl (if_neg hb)
      · by_cases hb : b = a
        · subst hb
          have z' := at1.symm.trans z
          cases z'
          exact ⟨ha, by rw [List.length_map]; exact hl, vs, _, rv, ha⟩
        · have z' := (if_neg hb).symm.trans z
          cases z'
      · refine Classical.byContradiction fun hb => ?_
        exact z (if_neg hb)
  have low : ∀ {b : Addr} {o : Obj}, s.heap.get? b = some o → H b = none → (hidT s.heap H).get? b = some o := fun e n => hidT_get e n
  have lowN : ∀ {b : Addr} {m : Str → Option Value}, s.heap.Ns b m → (hidT s.heap H).Ns b m := by
    rintro b m ⟨o, es, n, e, d, r⟩
    exact ⟨o, es, n, low e (no_dict ha one e d), d, r⟩
  have lowK : K.In (hidT s.heap H) := fun b o e => by
    refine low (kin b o e) (Classical.byContradiction fun z => ?_)
    have eb := one b z
    subst eb
    rw [hK z] at e
    cases e
  obtain ⟨mc, l1, l2⟩ := lim
  have env : Env0 P w K mg (hidT s.heap H) callerA [] s H :=
    ⟨rfl, ⟨lowK, lowN gl, ⟨mb, lowN bl, bb⟩, ⟨mc, lowN l1, l2⟩⟩, fun b o e => of_hidT e, Nat.le_of_eq (hidT_size _ _), trivial, fun b hb => absurd (show b ∈ ([] : List Addr) from hb) (by simp), hok, .of_eq gens⟩
  refine codeAny_mono ((F _ lowK (lowN gl)).go callerA [] s H ⟨[.ref a], []⟩ [.ref a] [.ref a] _ _ rfl room env (bnd s (.ref a)) (.cons rfl .nil) (hsp H sq)) fun r s' z => ?_
  match r, z with
  | .error e, z =>
    obtain ⟨_, _, _, _, _, _, _, _, _, _, _, _, w⟩ := z
    exact w.elim
  | .ok (.ret u), ⟨v, H', os, bare, un, hok', rel, q⟩ =>
    have q : v = .bl true := q
    subst q
    have rel : u = Value.bool true := rel
    subst rel
    refine ⟨rfl, OldK.of_keep fun b o e => ?_, os, bare⟩
    rcases only b with z | ⟨ob, xs, z⟩
    · exact un.keep b o e z (fun z => absurd (show b ∈ ([] : List Addr) from z) (by simp)) (by simp)
    · have g1 := (hok b _ z).1
      have g2 := (hok' b _ (un.frzs b ob _ z)).1
      rw [e] at g1
      cases g1
      exact g2
theorem walk_goM {l : PySem.W.OpenLaw} {n k : Nat} {q : Program} {loose : List Str} {XP : (Str → Option Value) → Heap → Prop} {YP : World → Heap → Prop} {d : DefRec} {x : Str}
    (hn : l.most = some n) (hn2 : n ≤ sizeLine) (hdf : d.params.defaults = []) (hr : Room k callerA)
    (F : ∀ (w : World) (mg : Str → Option Value) (fa : Addr) (h : Heap), YP w h → h.Ns mainGlobals mg → mg d.name = some (.ref fa) →
      ∃ (K : PySem.W.Frag) (fd : FuncData) (sp : Sp), K.In h ∧ (∀ (s : Shared) (u : Value), BindsTo s fd ⟨[u], []⟩ [(x, u)]) ∧
        (∀ (H : Hp) (a : Addr) (ns : List Int), ns.length ≤ n → SqL K H a (ns.map V.int) → sp [.ref a] H (fun v _ => v = .bl true) fun _ _ _ => False) ∧
        ∀ base : Heap, K.In base → base.Ns mainGlobals mg → FnG l.prog w K mg base k fa fd [x] sp) :
    PySem.W.WalkO q loose XP YP l.row.toRowW d [] (fun f vs => PySem.call f vs) := by
  refine Att.attach_callB hn hdf fun w s₀ s₁ mg mb fa o pm cd doc a vs ns G Y ho hd hcd hmg hobj hints hlen hbits hg => ?_
  obtain ⟨K, fd, sp, KX, hb, hsp, hF⟩ := F w mg fa _ Y G.T.g hmg
  exact law_go KX G.T.g G.T.b G.T.builtins G.T.nolimit hg hobj hints (Nat.le_trans hlen hn2) hr hF hb fun H hS => hsp H a ns hlen hS
end Mv
end
section
set_option Elab.async false
set_option linter.all false
set_option maxRecDepth 100000
set_option maxHeartbeats 4000000
namespace Mv
open PySem PySem.Spec L2 PyProof.Rows
open Evl (Ex ex_l ex_t ex_rd)
mutual
def pyD : D → Option PyData
  | .non => some .none
  | .bl b => some (.bool b)
  | .int i => some (.int i)
  | .str s => some (.str s)
  | .tup ds => (pyDs ds).map .tuple
  | .lst ds => (pyDs ds).map .list
  | _ => none
def pyDs : List D → Option (List PyData)
  | [] => some []
  | d :: ds => (match pyD d, pyDs ds with
    | some x, some xs => some (x :: xs)
    | _, _ => none)
end
section
variable {X : Cx} {S : Sy} {pins : List (Addr × Obj)} {σ : L2.St} {H F : Hp} {W : Wd} {s : Shared}
theorem list_data {X : Cx} {pins : List (Addr × Obj)} {σ : L2.St} {H : Hp} {s : Shared} {a : Addr} {vs : List V} (I : Inv X pins σ H s) (h : H a = some (.lst vs)) : ∃ (its : List Value) (o : Obj) (n : Nat), Vals vs its ∧ s.heap.get? a = some o ∧ o.cls = .type "list" ∧ o.data = .seq its.toArray n := by
  obtain ⟨_, its, n, r, e⟩ := I.hok a _ h
  exact ⟨its, _, n, r, e, rfl, rfl⟩
mutual
theorem rp_reads (hK : X.K = S.K) (I : Inv X pins σ H s) (rl : Rel S F W H) : ∀ {v : V} {d : D} {u : Value} {p : PyData}, Rp S F v d → RelV v u → pyD d = some p → p.hasDict = false ∧ ∃ as, Reads s.heap u p as
  | _, _, _, _, .non, r, e => by cases e; cases r; exact ⟨rfl, _, .none⟩
  | _, _, _, _, .bl b, r, e => by cases e; cases r; exact ⟨rfl, _, .bool b⟩
  | _, _, _, _, .int i, r, e => by cases e; obtain ⟨t, rfl⟩ := r; exact ⟨rfl, _, .int i t⟩
  | _, _, _, _, .str i, r, e => by cases e; obtain ⟨t, rfl⟩ := r; exact ⟨rfl, _, .str i t⟩
  | _, _, _, _, .ty n, r, e => by cases e
  | _, _, _, _, .ptr n, r, e => by cases e
  | _, _, _, _, .frl _ _, r, e => by cases e
  | _, _, _, _, .dK _ _, r, e => by cases e
  | _, _, _, _, .dT _ _, r, e => by cases e
  | _, _, _, _, .ins _ _, r, e => by cases e
  | _, _, _, _, .tup (ds := ds) hq rs, r, e => by
    have r : _ = Value.ref _ := r
    subst r
    cases hx : pyDs ds with
    | none => simp only [pyD, hx] at e; cases e
    | some xs =>
      simp only [pyD, hx] at e
      cases e
      obtain ⟨its, rv, ⟨o, e1, e2, n, e3⟩, _⟩ := I.tuple (by rw [hK]; exact ex_t rl.sub hq.1)
      obtain ⟨nd, as, ra⟩ := rps_reads hK I rl rs rv hx
      refine ⟨by simp only [PyData.hasDict]; exact nd, as, ?_⟩
      refine .tuple e1 e2 e3 ?_
      simpa using ra
  | _, _, _, _, .lst (a := aa) (ds := ds) hq rs, r, e => by
    have r : _ = Value.ref _ := r
    subst r
    cases hx : pyDs ds with
    | none => simp only [pyD, hx] at e; cases e
    | some xs =>
      simp only [pyD, hx] at e
      cases e
      obtain ⟨its, o, n, rv, e1, e2, e3⟩ := list_data I (rl.sub _ _ hq)
      obtain ⟨nd, as, ra⟩ := rps_reads hK I rl rs rv hx
      refine ⟨by simp only [PyData.hasDict]; exact nd, aa :: as, ?_⟩
      refine .list e1 e2 e3 ?_
      simpa using ra
theorem rps_reads (hK : X.K = S.K) (I : Inv X pins σ H s) (rl : Rel S F W H) : ∀ {vs : List V} {ds : List D} {us : List Value} {ps : List PyData}, Rps S F vs ds → Vals vs us → pyDs ds = some ps → PyData.hasDictAll ps = false ∧ ∃ as, ReadsAll s.heap us ps as
  | _, _, _, _, .nil, r, e => by cases e; cases r; exact ⟨rfl, _, .nil⟩
  | _, _, _, _, .cons (d := d) (ds := ds) q qs, r, e => by
    cases hd : pyD d with
    | none => simp only [pyDs, hd] at e; cases e
    | some x =>
      cases hds : pyDs ds with
      | none => simp only [pyDs, hd, hds] at e; cases e
      | some xs =>
        simp only [pyDs, hd, hds] at e
        cases e
        cases r with
        | cons r rs =>
          obtain ⟨n1, as, r1⟩ := rp_reads hK I rl q r hd
          obtain ⟨n2, bs, r2⟩ := rps_reads hK I rl qs rs hds
          refine ⟨by simp only [PyData.hasDictAll, n1, n2]; rfl, as ++ bs, .cons r1 r2⟩
end
end
end Mv
end
section
set_option Elab.async false
set_option linter.all false
set_option maxRecDepth 100000
set_option maxHeartbeats 4000000
namespace Mv
open PySem PySem.Spec L2 PyProof.Rows
open Evl (Ex ex_l ex_t ex_rd)
mutual
def pyE : D → Option PyData
  | .non => some .none
  | .bl b => some (.bool b)
  | .int i => some (.int i)
  | .str s => some (.str s)
  | .tup ds => (pyEs ds).map .tuple
  | .lst ds => (pyEs ds).map .list
  | .dK kvs => (pyEk kvs).map .dict
  | _ => none
def pyEs : List D → Option (List PyData)
  | [] => some []
  | d :: ds => (match pyE d, pyEs ds with
    | some x, some xs => some (x :: xs)
    | _, _ => none)
def pyEk : List (Key × D) → Option (List (PyData × PyData))
  | [] => some []
  | (k, d) :: ds => (match pyE d, pyEk ds with
    | some x, some xs => some ((match k with | .inl i => .int i | .inr s => .str s, x) :: xs)
    | _, _ => none)
end
section
variable {X : Cx} {S : Sy} {pins : List (Addr × Obj)} {σ : L2.St} {H F : Hp} {W : Wd} {s : Shared}
def SmOk (K : PySem.W.Frag) : Prop := ∃ o, K.lookup sysModules = some o ∧ o.cls = .type "dict"
theorem smB_ok {K : PySem.W.Frag} (h : smB K = true) : SmOk K := by
  unfold smB at h
  split at h
  · rename_i o ho
    split at h
    · rename_i n hn
      exact ⟨o, ho, by rw [hn, beq_iff_eq.mp h]⟩
    · cases h
  · cases h
theorem lst_low (hK : X.K = S.K) (hm : SmOk S.K) (I : Inv X pins σ H s) {a : Addr} {vs : List V} (h : H a = some (.lst vs)) : sysModules ≠ a := fun z => by
  obtain ⟨o, h1, h2⟩ := hm
  obtain ⟨_, o2, _, _, e1, e2, _⟩ := list_data I h
  rw [← hK] at h1
  have e3 := I.kIn _ _ h1
  rw [z, e1] at e3
  rw [← Option.some.inj e3, e2] at h2
  exact absurd (Value.type.inj h2) (by decide)
mutual
theorem rp_readsE (hK : X.K = S.K) (hm : SmOk S.K) (I : Inv X pins σ H s) (rl : Rel S F W H) : ∀ {v : V} {d : D} {u : Value} {p : PyData}, Rp S F v d → RelV v u → pyE d = some p → ∃ as, sysModules ∉ as ∧ Reads s.heap u p as
  | _, _, _, _, .non, r, e => by cases e; cases r; exact ⟨[], List.not_mem_nil, .none⟩
  | _, _, _, _, .bl b, r, e => by cases e; cases r; exact ⟨[], List.not_mem_nil, .bool b⟩
  | _, _, _, _, .int i, r, e => by cases e; obtain ⟨t, rfl⟩ := r; exact ⟨[], List.not_mem_nil, .int i t⟩
  | _, _, _, _, .str i, r, e => by cases e; obtain ⟨t, rfl⟩ := r; exact ⟨[], List.not_mem_nil, .str i t⟩
  | _, _, _, _, .ty n, r, e => by cases e
  | _, _, _, _, .ptr n, r, e => by cases e
  | _, _, _, _, .frl _ _, r, e => by cases e
  | _, _, _, _, .dT _ _, r, e => by cases e
  | _, _, _, _, .ins _ _, r, e => by cases e
  | _, _, _, _, .exn _ _ _, r, e => by cases e
  | _, _, _, _, .exn0 _, r, e => by cases e
  | _, _, _, _, .lam _ _, r, e => by cases e
  | _, _, _, _, .dK (a := a) (vs := vs) (ds := ds) hF rk, r, e => by
    have r : _ = Value.ref _ := r
    subst r
    cases hx : pyEk ds with
    | none => simp only [pyE, hx] at e; cases e
    | some xs =>
      simp only [pyE, hx] at e
      cases e
      obtain ⟨_, lo, ws, kv, o, es, ep, g1, g2, g3, _, g5, _⟩ := dk_rd I.hok (.inr ⟨_, rl.sub _ _ hF⟩)
      obtain ⟨as, bs, n1, n2, r1, r2⟩ := rpk_readsE hK hm I rl rk kv g5 hx
      refine ⟨a :: as ++ bs, fun z => ?_, .dict g1 g2.1 g3 r1 r2⟩
      rcases List.mem_append.mp z with z | z
      · rcases List.mem_cons.mp z with z | z
        · rw [z] at lo
          simp at lo
        · exact n1 z
      · exact n2 z
  | _, _, _, _, .tup (ds := ds) hq rs, r, e => by
    have r : _ = Value.ref _ := r
    subst r
    cases hx : pyEs ds with
    | none => simp only [pyE, hx] at e; cases e
    | some xs =>
      simp only [pyE, hx] at e
      cases e
      obtain ⟨its, rv, ⟨o, e1, e2, n, e3⟩, _⟩ := I.tuple (by rw [hK]; exact ex_t rl.sub hq.1)
      obtain ⟨as, nd, ra⟩ := rps_readsE hK hm I rl rs rv hx
      exact ⟨as, nd, .tuple e1 e2 e3 (by simpa using ra)⟩
  | _, _, _, _, .lst (a := aa) (ds := ds) hq rs, r, e => by
    have r : _ = Value.ref _ := r
    subst r
    cases hx : pyEs ds with
    | none => simp only [pyE, hx] at e; cases e
    | some xs =>
      simp only [pyE, hx] at e
      cases e
      obtain ⟨its, o, n, rv, e1, e2, e3⟩ := list_data I (rl.sub _ _ hq)
      obtain ⟨as, nd, ra⟩ := rps_readsE hK hm I rl rs rv hx
      refine ⟨aa :: as, fun z => ?_, .list e1 e2 e3 (by simpa using ra)⟩
      rcases List.mem_cons.mp z with z | z
      · exact lst_low hK hm I (rl.sub _ _ hq) z
      · exact nd z
theorem rps_readsE (hK : X.K = S.K) (hm : SmOk S.K) (I : Inv X pins σ H s) (rl : Rel S F W H) : ∀ {vs : List V} {ds : List D} {us : List Value} {ps : List PyData}, Rps S F vs ds → Vals vs us → pyEs ds = some ps → ∃ as, sysModules ∉ as ∧ ReadsAll s.heap us ps as
  | _, _, _, _, .nil, r, e => by cases e; cases r; exact ⟨[], List.not_mem_nil, .nil⟩
  | _, _, _, _, .cons (d := d) (ds := ds) q qs, r, e => by
    cases hd : pyE d with
    | none => simp only [pyEs, hd] at e; cases e
    | some x =>
      cases hds : pyEs ds with
      | none => simp only [pyEs, hd, hds] at e; cases e
      | some xs =>
        simp only [pyEs, hd, hds] at e
        cases e
        cases r with
        | cons r rs =>
          obtain ⟨as, n1, r1⟩ := rp_readsE hK hm I rl q r hd
          obtain ⟨bs, n2, r2⟩ := rps_readsE hK hm I rl qs rs hds
          exact ⟨as ++ bs, fun z => (List.mem_append.mp z).elim n1 n2, .cons r1 r2⟩
theorem rpk_readsE (hK : X.K = S.K) (hm : SmOk S.K) (I : Inv X pins σ H s) (rl : Rel S F W H) : ∀ {vs : List (Key × V)} {ds : List (Key × D)} {ws : List (Key × Value)} {es : List DictEntry} {ps : List (PyData × PyData)}, Rpk S F vs ds → KV vs ws → Pairs (mixKind X.prog X.w) es ws → pyEk ds = some ps →
    ∃ as bs, sysModules ∉ as ∧ sysModules ∉ bs ∧ ReadsAll s.heap (es.map (·.key)) (ps.map (·.1)) as ∧ ReadsAll s.heap (es.map (·.val)) (ps.map (·.2)) bs
  | _, _, _, _, _, .nil, kv, pr, e => by
    cases kv
    cases pr
    cases e
    exact ⟨[], [], List.not_mem_nil, List.not_mem_nil, .nil, .nil⟩
  | _, _, _, _, _, .cons (k := k) (d := d) (ds := ds) q qs, kv, pr, e => by
    cases hd : pyE d with
    | none => simp only [pyEk, hd] at e; cases e
    | some x =>
      cases hds : pyEk ds with
      | none => simp only [pyEk, hd, hds] at e; cases e
      | some xs =>
        simp only [pyEk, hd, hds] at e
        cases e
        cases kv with
        | @cons _ b _ l2 h1 h2 =>
          cases pr with
          | @cons en _ es _ i1 i2 i3 =>
            obtain ⟨k1, r1⟩ := h1
            have k1 : k = b.1 := k1
            obtain ⟨as, n1, ra⟩ := rp_readsE hK hm I rl q r1 hd
            obtain ⟨cs, bs, n3, n2, rc, rb⟩ := rpk_readsE hK hm I rl qs h2 i3 hds
            have hk : keyIs k en.key = true := by rw [k1]; exact i1
            have ra : Reads s.heap en.val x as := by rw [i2]; exact ra
            rcases keyIs_shape hk with ⟨i, t, rfl, e2⟩ | ⟨y, t, rfl, e2⟩
            · exact ⟨[] ++ cs, as ++ bs, by simpa using n3, fun z => (List.mem_append.mp z).elim n1 n2, .cons (by show Reads s.heap en.key (.int i) []; rw [e2]; exact .int i t) rc, .cons ra rb⟩
            · exact ⟨[] ++ cs, as ++ bs, by simpa using n3, fun z => (List.mem_append.mp z).elim n1 n2, .cons (by show Reads s.heap en.key (.str y) []; rw [e2]; exact .str y t) rc, .cons ra rb⟩
end
def rReprE : DC := fun ds W Q => match ds with
  | [d] => kSome (pyE d) fun p => p.showable = true ∧ p.shown.length ≤ sizeLine ∧ p.depth ≤ 60 ∧ Q (.str p.shown) W
  | _ => False
theorem cl_reprE {k : Nat} (hK : X.K = S.K) (hm : SmOk S.K) (g : Qt X.A) (hr : Room k X.A) : CalD X S (.builtin "repr") rReprE := by
  intro pins s σ H vs us Q I rv ⟨F, W, ds, Q2, rl, rp, qc, q⟩
  match ds, q with
  | [d], q =>
    obtain ⟨p, hp, hs, hz, hd, q⟩ := q.inv
    obtain ⟨v, rfl, rq⟩ := rp.one
    cases rv with
    | cons r1 r2 =>
      cases r2
      rename_i u
      have un := hr.un
      obtain ⟨as, nd, rd⟩ := rp_readsE hK hm I rl rq r1 hp
      have fin : ∀ {a : Addr} {p : PyData} (r : Reads s.heap (.ref a) p as), p.showable = true → p.shown.length ≤ sizeLine → p.depth ≤ 60 → Q2 (.str p.shown) W →
          wpAny (model X.prog X.w) X.A (call (.builtin "repr") [.ref a]) (EP X pins σ Q) X.xe s := fun r hs hz hd q =>
        repr_of_reads' r hs (fun _ => nd) g (by omega) (fun _ _ e => e) (fun h' t tk hk => ⟨.str _, H, I.kept hk, ⟨_, rfl⟩, qc F _ _ W H (fun _ _ h => h) rl (.str _) q⟩) hz
      cases rd with
      | none => exact P.repr_of_none ⟨.str _, H, I.tok _, ⟨_, rfl⟩, qc F _ _ W H (fun _ _ h => h) rl (.str _) q⟩
      | bool b => exact P.repr_of_bool ⟨.str _, H, I.tok _, ⟨_, rfl⟩, qc F _ _ W H (fun _ _ h => h) rl (.str _) q⟩
      | int i t => exact P.repr_of_int (by simpa [PyData.showable] using hs) ⟨.str _, H, I.tok _, ⟨_, rfl⟩, qc F _ _ W H (fun _ _ h => h) rl (.str _) q⟩
      | str x t => exact P.repr_of_str ⟨.str _, H, I.tok _, ⟨_, rfl⟩, qc F _ _ W H (fun _ _ h => h) rl (.str _) q⟩ hz
      | list h1 h2 h3 h4 => exact fin (.list h1 h2 h3 h4) hs hz hd q
      | tuple h1 h2 h3 h4 => exact fin (.tuple h1 h2 h3 h4) hs hz hd q
      | dict h1 h2 h3 h4 h5 => exact fin (.dict h1 h2 h3 h4 h5) hs hz hd q
end
section
open He5 (DefA)
end
def sp_lawN (S : Sy) : DSp := fun ds W Q _ => ∃ ns : List Int, ds = [.frl (ns.map D.int)] ∧ ns.length ≤ 63 ∧ ∀ W', Q (.bl true) W'
theorem law_startN {S : Sy} {H : Hp} {a : Addr} {ns : List Int} (hl : ns.length ≤ 63) (hS : SqL S.K H a (ns.map V.int)) (hT : LamX.Tabs S.T H := by intro _ h; cases h) : upSp S (sp_lawN S) [.ref a] H (fun v _ => v = .bl true) (fun _ _ _ => False) := by
  refine ⟨strip H, fun _ => none, [.frl (ns.map D.int)], fun d _ => d = .bl true, fun _ _ => False, ⟨fun _ _ h => strip_sub h, fun _ _ h => (by cases h), hT, strip_nt⟩, .cons (.frl (strip_l hS) (rps_ints ns)) .nil, fun F' v d W' H' e r p q => ?_, fun _ _ _ _ _ _ _ _ _ _ _ z => z, ns, rfl, hl, fun _ => rfl⟩
  subst q
  cases p
  rfl
theorem len_lawN (S : Sy) : ∀ ds W Q E, sp_lawN S ds W Q E → ds.length = 1 := fun ds W Q E h => by
  obtain ⟨_, rfl, _⟩ := h
  rfl
end Mv
end
section
set_option Elab.async false
set_option linter.all false
set_option maxRecDepth 100000
set_option maxHeartbeats 4000000
namespace Mv
open PySem PySem.Spec L2 PyProof.Rows
def GoAt (P : Program) (w : World) (K : PySem.W.Frag) (mg : Str → Option Value) (base : Heap) (A : Around) (f : Addr) (fd : FuncData) (ps : List Str) (sp : Sp) : Prop :=
  ∀ (outer : List Env) (s : Shared) (H : Hp) (ar : Args) (us : List Value) (vs : List V) (Q : VK) (E : XK), Env0 P w K mg base A outer s H → BindsTo s fd ar (ps.zip us) → Vals vs us → sp vs H Q E →
    codeAny (model P w) A (.call (.ref f) ar) (CR (L2.CX P w) outer P w H s Q E) s
structure FnDG (P : Program) (w : World) (S : Sy) (mg : Str → Option Value) (base : Heap) (k : Nat) (f : Addr) (n : Nat) (dds : List D) (sp2 : DSp) : Prop where
  ex : ∃ (fd : FuncData) (ps : List Str) (dvs : List V), FnG P w S.K mg base k f fd ps (upSp S sp2) ∧ ps.length = n ∧ (∀ F, Rps S F dvs dds) ∧ ∀ j, j ≤ dds.length → ∃ dv, Vals (dvs.drop j) dv ∧ Binds S.K fd ps dv
  kp : PySem.W.keepIn S.K (.ref f) = true
theorem FnDG.mono {P : Program} {w : World} {S : Sy} {mg : Str → Option Value} {base : Heap} {j k : Nat} {f : Addr} {n : Nat} {dds : List D} {sp2 : DSp} (G : FnDG P w S mg base j f n dds sp2) (h : j ≤ k) : FnDG P w S mg base k f n dds sp2 := by
  obtain ⟨⟨fd, ps, dvs, a, b, c, d⟩, e⟩ := G
  exact ⟨⟨fd, ps, dvs, a.mono h, b, c, d⟩, e⟩
section
variable {X : Cx} {S : Sy} {E : XS} {k : Nat} {f : Addr} {n : Nat} {dds : List D} {sp2 : DSp}
theorem run_go {A : Around} {fd : FuncData} {ps : List Str} {ar : Args} {pins : List (Addr × Obj)} {s : Shared} {σ : L2.St} {H F : Hp} {sd : SD} {W : Wd} {us : List Value} {vs : List V} {ds : List D} {Q2 : QD} {E2 : QX} (hK : X.K = S.K) (G : GoAt X.prog X.w S.K X.mg X.base A f fd ps (upSp S sp2))
    (e0 : Env0 X.prog X.w X.K X.mg X.base A X.stack s H) (tk : Takes X E) (bn : BindsTo s fd ar (ps.zip us))
    (I : Inv X pins σ H s) (rl : Rel S F W H) (sr : SRel S F σ sd) (xc : XCv S F E2 E) (r : Vals vs us) (rp : Rps S F vs ds) (h : sp2 ds W Q2 (fun d W' => E2 d sd W')) :
    codeAny (model X.prog X.w) A (.call (.ref f) ar) (fun r s' => match r with
      | .ok (.ret u) => DP X S pins σ F Q2 u s'
      | .ok _ => False
      | .error e => X.xe e s') s := by
  have hsp : upSp S sp2 vs H (tkQ S F Q2) (WE E σ) :=
    ⟨F, W, _, Q2, _, rl, rp, tkQ_cv, fun F' dx vs c fs W' H' e rl' hx rf q => xc F' dx vs c fs σ sd W' H' e rl' (sr.mono e) hx rf q, h⟩
  rw [hK] at e0
  refine codeAny_mono (G X.stack s H ar us vs _ (WE E σ) e0 bn r hsp) fun r s' hq => ?_
  match r, hq with
  | .error e, hq => exact passAt tk σ pins H s e s' I hq
  | .ok (.ret u), hq => exact EP.tk (I.after hq)
theorem call_go {A : Around} {us : List Value} {kw : List (Str × Value)} {D : Value → Shared → Prop} {Z : Value → Shared → Prop} {s : Shared} (h : codeAny (model X.prog X.w) A (.call (.ref f) ⟨us, kw⟩) (fun r s' => match r with
      | .ok (.ret u) => D u s'
      | .ok _ => False
      | .error e => Z e s') s) : wpAny (model X.prog X.w) A (call (.ref f) us kw) D Z s := by
  refine wpAny_call (codeAny_mono h fun r s' z => ?_)
  match r, z with
  | .error e, z => exact z
  | .ok (.ret u), z => exact z
theorem run_atG {A : Around} {pins : List (Addr × Obj)} {s : Shared} {σ : L2.St} {H F : Hp} {sd : SD} {W : Wd} {us : List Value} {vs : List V} {ds : List D} {Q2 : QD} {E2 : QX} (hK : X.K = S.K) (G : FnDG X.prog X.w S X.mg X.base k f n dds sp2) (gd : Qt A) (hr : Room k A) (e0 : Env0 X.prog X.w X.K X.mg X.base A X.stack s H) (tk : Takes X E)
    (I : Inv X pins σ H s) (rl : Rel S F W H) (sr : SRel S F σ sd) (xc : XCv S F E2 E) (r : Vals vs us) (rp : Rps S F vs ds) (h : dfl n dds ds fun ds' => sp2 ds' W Q2 (fun d W' => E2 d sd W')) :
    wpAny (model X.prog X.w) A (call (.ref f) us) (DP X S pins σ F Q2) X.xe s := by
  obtain ⟨⟨fd, ps, dvs, Fn, hn, hdd, hbd⟩, kp⟩ := G
  obtain ⟨h1, h2, h⟩ := h
  obtain ⟨dv, rv, hb⟩ := hbd (dds.length - (n - ds.length)) (by omega)
  have r2 : Vals (vs ++ dvs.drop (dds.length - (n - ds.length))) (us ++ dv) := r.append rv
  have ldv : dvs.length = dds.length := (hdd F).length
  have lvs : vs.length = ds.length := rp.length
  have hl : (us ++ dv).length = ps.length := by
    rw [← r2.length, List.length_append, List.length_drop, hn, lvs, ldv]
    omega
  have kin : S.K.In s.heap := by rw [← hK]; exact I.kIn
  exact call_go (run_go (ar := ⟨us, []⟩) hK (fun outer s H ar us vs Q E e0 bn r sp => Fn.go A outer s H ar us vs Q E gd hr e0 bn r sp) e0 tk (hb s us kin hl) I rl sr xc r2 (rp.append ((hdd F).drop _)) h)
theorem pd_callG {x : Str} {p pos : Pos} {e : Expr} {es : List Expr} {t : DA} (hK : X.K = S.K) (tk : Takes X E) (gd : Qt X.A) (hr : Room k X.A) (G : FnDG X.prog X.w S X.mg X.base k f n dds sp2) (hm : X.mg x = some (.ref f)) (ha : PAd X S E (e :: es) t) (hg : Gl X x := by rfl)
    (hdb : (x == ("__debug__" : Str)) = false := by decide) (he : starEach (e :: es) X.env = (false, eval e X.env) :: starEach es X.env := by rfl) (hpl : (backTo pos (starEach es X.env)).any (·.1) = false := by rfl) :
    PD X S E (.Call (.Name x p) (e :: es) [] pos) (dCall n dds sp2 t) := by
  refine ⟨fun pins s σ H F sd W Q2 E2 I rl sr xc h => ?_⟩
  refine wpAny_Call_Name_kw (ld_glob I hg hm ?_ hdb)
  refine PySem.W.callWith_K (h₀ := X.base) I.ok.mod.kin (by rw [hK]; exact G.kp) (thn (ha.run pos pins s σ H F sd W _ E2 I rl sr xc h) fun us s1 ⟨vs, H1, F1, ds, W1, I1, r, e1, rl1, rp, q⟩ => ⟨I1.kIn, ?_⟩) he hpl
  exact thn (run_atG hK G gd hr I1.env0 tk I1 rl1 (sr.mono e1) (XCv.mono e1 xc) r rp q) fun u s' z => z.back e1
def pk {α : Type} (d : α) (l : List Nat) (xs : List α) : List α := l.map fun i => xs.getD i d
theorem vals_at : ∀ {vs : List V} {us : List Value} (i : Nat), Vals vs us → RelV (vs.getD i .non) (us.getD i .none)
  | _, _, _, .nil => rfl
  | _, _, 0, .cons r _ => r
  | _, _, i + 1, .cons _ t => vals_at i t
theorem rps_at {F : Hp} : ∀ {vs : List V} {ds : List D} (i : Nat), Rps S F vs ds → Rp S F (vs.getD i .non) (ds.getD i .non)
  | _, _, _, .nil => .non
  | _, _, 0, .cons r _ => r
  | _, _, i + 1, .cons _ t => rps_at i t
theorem vals_pk {vs : List V} {us : List Value} (r : Vals vs us) : ∀ l : List Nat, Vals (pk .non l vs) (pk .none l us)
  | [] => .nil
  | i :: l => .cons (vals_at i r) (vals_pk r l)
theorem rps_pk {F : Hp} {vs : List V} {ds : List D} (r : Rps S F vs ds) : ∀ l : List Nat, Rps S F (pk .non l vs) (pk .non l ds)
  | [] => .nil
  | i :: l => .cons (rps_at i r) (rps_pk r l)
structure PKd (X : Cx) (S : Sy) (E : XS) (kws : List Keyword) (t : DA) : Prop where
  run : ∀ (pos : Pos) (pins : List (Addr × Obj)) (s : Shared) (σ : L2.St) (H F : Hp) (sd : SD) (W : Wd) (Q2 : List D → Wd → Prop) (E2 : QX), Inv X pins σ H s → Rel S F W H → SRel S F σ sd → XCv S F E2 E → t sd W Q2 E2 →
    wpAny (model X.prog X.w) X.A (evalAll ((backToKw pos (keywordEach kws X.env)).map (·.2))) (APd X S pins σ F Q2) X.xe s
theorem pkd_nil : PKd X S E [] dNil := ⟨fun pos pins s σ H F sd W Q2 E2 I rl sr xc h => wpAny_evalAll_nil ⟨[], H, F, [], W, I, .nil, fun _ _ z => z, rl, .nil, h⟩⟩
theorem pkd_cons {nm : Option Str} {e : Expr} {kpos : Pos} {kws : List Keyword} {te : DE} {t : DA} (ha : PD X S E e te) (hr : PKd X S E kws t) : PKd X S E (⟨nm, e, kpos⟩ :: kws) (dCons te t) := by
  refine ⟨fun pos pins s σ H F sd W Q2 E2 I rl sr xc h => ?_⟩
  show wpAny _ _ (evalAll ((do let v ← eval e X.env; standAt pos; pure v) :: (backToKw pos (keywordEach kws X.env)).map (·.2))) _ _ s
  refine wpAny_evalAll_cons (wpAny_bind (thn (ha.run pins s σ H F sd W _ E2 I rl sr xc h) fun u s1 ⟨x, H1, F1, d, W1, I1, r1, e1, rl1, p1, q1⟩ => wpAny_bind (wpAny_standAt (wpAny_pure ?_))))
  exact thn (hr.run pos pins s1 σ H1 F1 sd W1 _ E2 I1 rl1 (sr.mono e1) (XCv.mono e1 xc) q1) fun us s2 ⟨xs, H2, F2, ds, W2, I2, r2, e2, rl2, p2, q2⟩ => ⟨x :: xs, H2, F2, d :: ds, W2, I2, .cons r1 r2, e1.trans e2, rl2, .cons (p1.mono e2) p2, q2⟩
structure KwD (P : Program) (w : World) (S : Sy) (mg : Str → Option Value) (base : Heap) (k : Nat) (f : Addr) (n : Nat) (ks : List Str) (l : List Nat) (sp2 : DSp) : Prop where
  ex : ∃ (fd : FuncData) (ps : List Str), FnOk P w S.K mg base (L2.CX P w) k f fd ps (upSp S sp2) ∧ ∀ (s : Shared) (us ws : List Value), S.K.In s.heap → us.length = n → ws.length = ks.length → BindsTo s fd ⟨us, ks.zip ws⟩ (ps.zip (pk .none l (us ++ ws)))
  kp : PySem.W.keepIn S.K (.ref f) = true
theorem KwD.mono {P : Program} {w : World} {S : Sy} {mg : Str → Option Value} {base : Heap} {j k : Nat} {f : Addr} {n : Nat} {ks : List Str} {l : List Nat} {sp2 : DSp} (G : KwD P w S mg base j f n ks l sp2) (h : j ≤ k) : KwD P w S mg base k f n ks l sp2 := by
  obtain ⟨⟨fd, ps, a, b⟩, e⟩ := G
  exact ⟨⟨fd, ps, a.mono h, b⟩, e⟩
def kwd (n m : Nat) (l : List Nat) (ds zs : List D) (q : List D → Prop) : Prop := ds.length = n ∧ zs.length = m ∧ q (pk .non l (ds ++ zs))
structure SmK (P : Program) (w : World) (S : Sy) (mg : Str → Option Value) (base : Heap) (k : Nat) (C : Addr) (m : Str) (ks : List Str) (l : List Nat) (sp2 : DSp) : Prop where
  rd : ClX.CRead S.K C (.type "type")
  ex : ∃ p g, SMet S.K C m p g ∧ KwD P w S mg base k g 0 ks l sp2
theorem SmK.mono {P : Program} {w : World} {mg : Str → Option Value} {base : Heap} {j k : Nat} {C : Addr} {m : Str} {ks : List Str} {l : List Nat} (G : SmK P w S mg base j C m ks l sp2) (h : j ≤ k) : SmK P w S mg base k C m ks l sp2 := by
  obtain ⟨a, p, g, b, c⟩ := G
  exact ⟨a, p, g, b, c.mono h⟩
structure MtK (P : Program) (w : World) (S : Sy) (mg : Str → Option Value) (base : Heap) (k c : Nat) (m : Str) (ks : List Str) (l : List Nat) (sp2 : DSp) : Prop where
  cl : Cls S.K (S.ca c)
  ex : ∃ f, Meth S.K (S.ca c) m f ∧ KwD P w S mg base k f 1 ks l sp2
structure MkK (P : Program) (w : World) (S : Sy) (mg : Str → Option Value) (base : Heap) (k c : Nat) (ks : List Str) (l : List Nat) (sp2 : DSp) : Prop where
  ex : ∃ f, Mk S.K (S.ca c) f ∧ KwD P w S mg base k f 1 ks l sp2
theorem MkK.mono {P : Program} {w : World} {mg : Str → Option Value} {base : Heap} {j k c : Nat} {ks : List Str} {l : List Nat} (G : MkK P w S mg base j c ks l sp2) (h : j ≤ k) : MkK P w S mg base k c ks l sp2 := by
  obtain ⟨f, b, c⟩ := G
  exact ⟨f, b, c.mono h⟩
end
end Mv
end
section
set_option Elab.async false
set_option linter.all false
set_option maxRecDepth 100000
set_option maxHeartbeats 4000000
namespace Mv
open PySem PySem.Spec L2 PyProof.Rows
theorem fnDG_mk {P : Program} {w : World} {S : Sy} {mg : Str → Option Value} {base : Heap} {x qual : Str} {params : Arguments} {body : List Stmt} {scope : Scope} {kws : List (Str × V)} {f : Addr} {fd : FuncData} {ps : List Str} {k : Nat} {sp2 : DSp}
    (Fd : FunD S.K x qual params body scope [] kws f fd) (F : FnG P w S.K mg base k f fd ps (upSp S sp2))
    (hb : ∀ (kV doc pm : Value) (an : Option Addr) (cdv ct : Value) (us : List Value), us.length = ps.length → bindArgs (PySem.W.fnOf x qual params body scope .none kV doc pm an cdv ct) ⟨us, []⟩ = pure (ps.zip us)) : FnDG P w S mg base k f ps.length [] sp2 :=
  ⟨⟨fd, ps, [], F, rfl, fun _ => .nil, fun j hj => ⟨[], by simp only [List.drop_nil]; exact .nil, Fd.bindsN hb⟩⟩, Fd.kp⟩
end Mv
end
section
set_option Elab.async false
set_option linter.all false
set_option maxRecDepth 100000
set_option maxHeartbeats 4000000
namespace Mv
open PySem PySem.Spec L2 PyProof.Rows
open Evl (Ex ex_l ex_t ex_rd)
open He (ga ma)
theorem oexB_ok {K : PySem.W.Frag} {C : Addr} (h : oexB K C = true) : OexC K C := by
  obtain ⟨h1, h⟩ := He.ba h
  obtain ⟨h2, h⟩ := He.ba h
  obtain ⟨h3, h⟩ := He.ba h
  obtain ⟨h4, h5⟩ := He.ba h
  refine ⟨?_, He.eqO_ok h2, of_decide_eq_true h3, of_decide_eq_true h4, h5⟩
  unfold oexCB at h1
  split at h1
  · rename_i dd cd sl ho
    split at h1
    · rename_i C' bm k0 k1 k2 k3 n k5 hm hs
      obtain ⟨e1, h1⟩ := He.ba h1
      obtain ⟨e2, h1⟩ := He.ba h1
      obtain ⟨e3, h1⟩ := He.ba h1
      obtain ⟨e4, e5⟩ := He.ba h1
      have e1 := beq_iff_eq.mp e1
      have e2 := beq_iff_eq.mp e2
      subst e1 e2
      obtain ⟨nm, bs, mro, ns, qn, hd, sn, sub, ab, col, del⟩ := cd
      simp only [Bool.not_eq_true'] at hm e3 e4
      subst hm e3 e4
      obtain ⟨l⟩ := sl
      have hs : l = _ := hs
      subst hs
      exact ⟨nm, qn, ns, bs, bm, sn, sub, ab, col, dd, k0, k1, k2, k3, k5, ho, e5⟩
    · cases h1
  · cases h1
theorem excCB_ok {K : PySem.W.Frag} {D : Addr} (h : excCB K D = true) : ExcC K D ∧ (PySem.W.clsIn K D).isSome = true ∧ XfC K D := by
  obtain ⟨h1, h⟩ := He.ba h
  obtain ⟨h2, h⟩ := He.ba h
  obtain ⟨h3, h⟩ := He.ba h
  obtain ⟨h4, h⟩ := He.ba h
  obtain ⟨h5, h6⟩ := He.ba h
  have x := xfB_ok h1
  exact ⟨⟨x.ga, x.gg, x.exC, x.hdC, He.eqO_ok h2, He.eqO_ok h3, of_decide_eq_true h4, of_decide_eq_true h5⟩, h6, x⟩
def kExn (d : D) (k : Nat → List (Nat × D) → Prop) : Prop := match d with
  | .exn c fs => k c fs
  | _ => False
section
variable {X : Cx} {S : Sy} {E : XS} {k : Nat}
def ExAt (H : Hp) (a C : Addr) (vs : List (Str × V)) : Prop := (∃ dx, H a = some (exK a C dx) ∧ H dx = some (.xd vs)) ∨ (H a = some (exN a C) ∧ vs = [])
theorem kExn.at_ {H F : Hp} {W : Wd} {v : V} {d : D} {q : Nat → List (Nat × D) → Prop} (rl : Rel S F W H) (rp : Rp S F v d) (h : kExn d q) : ∃ a vs c fs, v = .ref a ∧ ExAt H a (S.ca c) vs ∧ Rpf S F vs fs ∧ q c fs := by
  cases rp with
  | exn h1 h2 r => exact ⟨_, _, _, _, rfl, .inl ⟨_, rl.sub _ _ h1, rl.sub _ _ h2⟩, r, h⟩
  | exn0 h1 => exact ⟨_, _, _, _, rfl, .inr ⟨rl.sub _ _ h1, rfl⟩, .nil, h⟩
  | _ => exact h.elim
theorem exn_inst {P : Program} {w : World} {H : Hp} {h : Heap} {a C dx : Addr} {vs : List (Str × V)} (hok : HOk P w H h) (ha : H a = some (exK a C dx)) (hd : H dx = some (.xd vs)) :
    ∃ (oe od : Obj) (mA : Str → Option Value), PySem.W.InstAt h a oe C (some od) ∧ (∀ f, RelO (vs.lookup f) (mA f)) ∧ ∀ n, PySem.W.lookIn n od = some (mA n) := by
  obtain ⟨⟨oe, ov, e1, e2, e3, e4⟩, _⟩ := (show ObjOk P w H h a (exK a C dx) from hok a _ ha)
  obtain ⟨mA, hns, hr⟩ := (show ObjOk P w H h dx (.xd vs) from hok dx _ hd)
  obtain ⟨od, ho, hl⟩ := lookIn_ns hns
  exact ⟨oe, od, mA, ⟨e1, e2, by unfold PySem.W.notCls; rw [e4] <;> rfl, by rw [e3]; exact ho⟩, hr, hl⟩
theorem ExAt.inst {P : Program} {w : World} {H : Hp} {h : Heap} {a C : Addr} {vs : List (Str × V)} (e : ExAt H a C vs) (hok : HOk P w H h) : ∃ (oe : Obj) (od : Option Obj), PySem.W.InstAt h a oe C od := by
  rcases e with ⟨dx, ha, hd⟩ | ⟨ha, _⟩
  · obtain ⟨oe, od, _, J, _⟩ := exn_inst hok ha hd
    exact ⟨oe, _, J⟩
  · obtain ⟨⟨oe, ov, e1, e2, e3, e4⟩, _⟩ := (show ObjOk P w H h a (exN a C) from hok a _ ha)
    exact ⟨oe, none, ⟨e1, e2, by unfold PySem.W.notCls; rw [e4] <;> rfl, by rw [e3]; exact True.intro⟩⟩
def dXat (l : List Nat) (i : Nat) (ta : DE) : DE := fun sd W Q E2 => ta sd W (fun d W1 => kExn d fun c fs => c ∈ l ∧ match fs.lookup i with
  | some x => Q x W1
  | none => False) E2
theorem pd_xat {l : List Nat} {i : Nat} {n : Str} {e : Expr} {ta : DE} {pos : Pos} (hK : X.K = S.K) (hl : ∀ c, c ∈ l → XfC S.K (S.ca c) ∧ PySem.W.findIn S.K (.ref (S.ca c)) n = some none) (hn : S.t.nm i = n) (he : PD X S E e ta) (hb : attributeBase e n X.env (eval e X.env) = eval e X.env := by rfl) :
    PD X S E (.Attribute e n pos) (dXat l i ta) := by
  refine ⟨fun pins s σ H F sd W Q2 E2 I rl sr xc h => ?_⟩
  refine attr_of hb (thn (he.run pins s σ H F sd W _ E2 I rl sr xc h) fun u s1 ⟨x, H1, F1, d, W1, I1, rx, e1, rl1, rp, q⟩ => ?_)
  obtain ⟨a, vs, c, fs, ex, ea, rf, hc, q⟩ := kExn.at_ rl1 rp q
  subst ex
  obtain rfl : u = Value.ref a := rx
  obtain ⟨T, hno⟩ := hl c hc
  rw [← hK] at T hno
  rcases ea with ⟨dx, ea, ed⟩ | ⟨_, ev⟩
  case inr =>
    subst ev
    cases rf
    exact q.elim
  obtain ⟨oe, od, mA, J, hr, hlk⟩ := exn_inst I1.hok ea ed
  cases el : fs.lookup i with
  | none => rw [el] at q; exact q.elim
  | some y =>
    rw [el] at q
    obtain ⟨v, h1, h2⟩ := rf.look el
    rw [hn] at h1
    obtain ⟨u, hu, ru⟩ := RelO.some_of (v := v) (o := mA n) (by rw [← h1]; exact hr n)
    exact HandSPX.exc_get I1.kIn J T.ga T.gg T.exC (PySem.W.findObj_own T.hdC hno rfl (by rw [hlk, hu])) (handed_of ru) ⟨v, H1, F1, y, W1, I1.tok _, ru, e1, rl1, h2, q⟩
def rIsX (u : D) (f : Nat → Option Bool) : DC := fun ds W Q => match ds with
  | [x, c] => c = u ∧ kExn x fun n _ => kSome (f n) fun b => Q (.bl b) W
  | _ => False
structure IsxF (S : Sy) (C : Addr) (f : Nat → Option Bool) : Prop where
  ok : ∀ n b, f n = some b → ExcC S.K (S.ca n) ∧ (PySem.W.clsIn S.K (S.ca n)).isSome = true ∧ PySem.W.kitOne S.K (.ref (S.ca n)) (.ref C) = some b
theorem cl_isX {C : Addr} {f : Nat → Option Bool} (hK : X.K = S.K) (hf : IsxF S C f) : CalD X S (.builtin "isinstance") (rIsX (.ptr C) f) := by
  intro pins s σ H vs us Q I rv ⟨F, W, ds, Q2, rl, rp, qc, q⟩
  match ds, q with
  | [x, c], q =>
    obtain ⟨rfl, q⟩ := q
    obtain ⟨v1, v2, rfl, p1, p2⟩ := rp.two
    obtain ⟨a, xs, n, fs, rfl, ea, rf, q⟩ := kExn.at_ rl p1 q
    obtain ⟨b, hb, q⟩ := q.inv
    obtain ⟨T, hc, kt⟩ := hf.ok n b hb
    rw [← hK] at T hc kt
    cases p2
    cases rv with
    | cons r1 rr =>
      cases rr with
      | cons r2 rr =>
        cases rr
        obtain rfl : _ = Value.ref a := r1
        obtain rfl : _ = Value.ref C := r2
        obtain ⟨oe, od, J⟩ := ea.inst I.hok
        exact PySem.W.kia_one (PySem.W.kitx_exc hc T.hg T.hk T.hs T.ha T.hn T.ht T.hm) I.kIn J kt (fun z => nomatch z) fun tk => ⟨.bl b, H, I.kept (t' := tk) fun _ _ z => z, rfl, qc F _ _ W H (fun _ _ h => h) rl (.bl _) q⟩
end
end Mv
end
section
set_option Elab.async false
set_option linter.all false
set_option maxRecDepth 100000
set_option maxHeartbeats 4000000
namespace Mv
open PySem PySem.Spec L2 PyProof.Rows
open Evl (Ex ex_l ex_t ex_rd)
def exSp1 (C : Addr) (f : Str) : Sp := fun vs H Q _ => ∃ a y, vs = [.ref a, y] ∧ H a = some (exo a C none) ∧ ∀ dx, H dx = none → dx ≠ a → Q .non (upd (upd H dx (exd dx [(f, y)])) a (exo a C (some dx)))
def exSp2 (C : Addr) (f g : Str) : Sp := fun vs H Q _ => ∃ a y z, vs = [.ref a, y, z] ∧ H a = some (exo a C none) ∧ ∀ dx, H dx = none → dx ≠ a → Q .non (upd (upd (upd H dx (exd dx [(f, y)])) a (exo a C (some dx))) dx (exd dx [(g, z), (f, y)]))
def exSp (C : Addr) : List Str → Sp
  | [f] => exSp1 C f
  | [f, g] => exSp2 C f g
  | _ => fun _ _ _ _ => False
theorem exinit1 {P : Program} {w : World} {K : PySem.W.Frag} {mg : Str → Option Value} {base : Heap} {x qual : Str} {params : Arguments} {scope : Scope} {kws : List (Str × V)} {I : Addr} {fd : FuncData} {C : Addr} {f s0 p1 : Str} {po pv pa ps_ : Pos}
    (Fd : FunD K x qual params [.Assign [.Attribute (.Name s0 po) f pa] (.Name p1 pv) ps_] scope [] kws I fd) (Sc : FnScope [s0, p1] [s0, p1] scope) (T : OexC K C) (hno : PySem.W.findIn K (.ref C) f = some none)
    (v0 : Vis scope s0) (v1 : Vis scope p1) (d0 : (s0 == ("__debug__" : Str)) = false) (c0 : (s0 == ("__classdict__" : Str)) = false) (d1 : (p1 == ("__debug__" : Str)) = false) (c1 : (p1 == ("__classdict__" : Str)) = false) : FnOk P w K mg base (L2.CX P w) 2 I fd [s0, p1] (exSp1 C f) := by
  refine Fd.ok (k := 1) Sc (fun vs H Q E h => ?_) (fun cdv A outer s H vs Q E hr h => ?_)
  · obtain ⟨a, y, rfl, _⟩ := h
    rfl
  · obtain ⟨a, y, rfl, ea, q⟩ := h
    refine ⟨_, pss_one (ps_ost (pe_var (i := 0) rfl v0 d0 c0) (pe_var (i := 1) rfl v1 d1 c1)), ?_⟩
    exact ⟨y, rfl, .ref a, rfl, a, C, rfl, T, hno, .inl ⟨ea, fun dx n ne => q dx n ne⟩⟩
theorem exinit2 {P : Program} {w : World} {K : PySem.W.Frag} {mg : Str → Option Value} {base : Heap} {x qual : Str} {params : Arguments} {scope : Scope} {kws : List (Str × V)} {I : Addr} {fd : FuncData} {C : Addr} {f g s0 p1 p2 : Str} {po pv pa ps_ qo qv qa qs_ : Pos}
    (Fd : FunD K x qual params [.Assign [.Attribute (.Name s0 po) f pa] (.Name p1 pv) ps_, .Assign [.Attribute (.Name s0 qo) g qa] (.Name p2 qv) qs_] scope [] kws I fd) (Sc : FnScope [s0, p1, p2] [s0, p1, p2] scope) (T : OexC K C) (hno : PySem.W.findIn K (.ref C) f = some none) (hno2 : PySem.W.findIn K (.ref C) g = some none)
    (v0 : Vis scope s0) (v1 : Vis scope p1) (v2 : Vis scope p2) (d0 : (s0 == ("__debug__" : Str)) = false) (c0 : (s0 == ("__classdict__" : Str)) = false) (d1 : (p1 == ("__debug__" : Str)) = false) (c1 : (p1 == ("__classdict__" : Str)) = false) (d2 : (p2 == ("__debug__" : Str)) = false) (c2 : (p2 == ("__classdict__" : Str)) = false) :
    FnOk P w K mg base (L2.CX P w) 2 I fd [s0, p1, p2] (exSp2 C f g) := by
  refine Fd.ok (k := 1) Sc (fun vs H Q E h => ?_) (fun cdv A outer s H vs Q E hr h => ?_)
  · obtain ⟨a, y, z, rfl, _⟩ := h
    rfl
  · obtain ⟨a, y, z, rfl, ea, q⟩ := h
    refine ⟨_, pss_cons (ps_ost (pe_var (i := 0) rfl v0 d0 c0) (pe_var (i := 1) rfl v1 d1 c1)) (pss_one (ps_ost (pe_var (i := 0) rfl v0 d0 c0) (pe_var (i := 2) rfl v2 d2 c2))), ?_⟩
    refine ⟨y, rfl, .ref a, rfl, a, C, rfl, T, hno, .inl ⟨ea, fun dx n ne => ?_⟩⟩
    refine ⟨z, rfl, .ref a, rfl, a, C, rfl, T, hno2, .inr ⟨dx, [(f, y)], upd_same, ?_, by show 1 ≤ 900; decide, q dx n ne⟩⟩
    rw [upd_ne ne, upd_same]
structure RsD (P : Program) (w : World) (S : Sy) (mg : Str → Option Value) (base : Heap) (k c : Nat) (ns : List Nat) : Prop where
  oex : OexC S.K (S.ca c)
  ex : ∃ (fI : Addr) (fd : FuncData) (ps : List Str), PySem.W.findIn S.K (.ref (S.ca c)) "__init__" = some (some (.ref fI)) ∧ PySem.W.typeIn S.K (.ref fI) = some (.type "function") ∧
    FnOk P w S.K mg base (L2.CX P w) k fI fd ps (exSp (S.ca c) (ns.map S.t.nm)) ∧ Binds S.K fd ps []
theorem RsD.mono {P : Program} {w : World} {S : Sy} {mg : Str → Option Value} {base : Heap} {j k c : Nat} {ns : List Nat} (R : RsD P w S mg base j c ns) (h : j ≤ k) : RsD P w S mg base k c ns := by
  obtain ⟨a, fI, fd, ps, b, c, d, e⟩ := R
  exact ⟨a, fI, fd, ps, b, c, d.mono h, e⟩
def rsF : List Nat → List D → Option (List (Nat × D))
  | [i], [x] => some [(i, x)]
  | [i, j], [x, y] => some [(j, y), (i, x)]
  | _, _ => none
section
variable {X : Cx} {S : Sy} {E : XS} {k : Nat}
theorem heap_1 {H : Hp} {a d : Addr} {o1 o2 o3 o4 : HO} (ha : H a = none) (ne : d ≠ a) : upd (del (upd (upd (upd H a o1) d o2) a o3) a) d o4 = upd H d o4 := by
  funext b
  by_cases e : b = d
  · rw [e, upd_same, upd_same]
  · rw [upd_ne e, upd_ne e]
    by_cases e2 : b = a
    · rw [e2, del_same, ha]
    · rw [del_ne e2, upd_ne e2, upd_ne e, upd_ne e2]
theorem heap_2 {H : Hp} {a d : Addr} {o1 o2 o3 o4 o5 : HO} (ha : H a = none) (ne : d ≠ a) : upd (del (upd (upd (upd (upd H a o1) d o2) a o3) d o5) a) d o4 = upd H d o4 := by
  funext b
  by_cases e : b = d
  · rw [e, upd_same, upd_same]
  · rw [upd_ne e, upd_ne e]
    by_cases e2 : b = a
    · rw [e2, del_same, ha]
    · rw [del_ne e2, upd_ne e, upd_ne e2, upd_ne e, upd_ne e2]
end
end Mv
end
section
set_option Elab.async false
set_option linter.all false
set_option maxRecDepth 100000
set_option maxHeartbeats 4000000
namespace Mv
open PySem PySem.Spec L2 PyProof.Rows
open Evl (Ex ex_l ex_t ex_rd)
def dNewX (c : Nat) (ns : List Nat) (t : DA) : DE := fun sd W Q E2 => t sd W (fun ds W1 => kSome (rsF ns ds) fun fs => Q (.exn c fs) W1) E2
section
variable {X : Cx} {S : Sy} {E : XS} {k : Nat}
theorem madeX_inv {pins : List (Addr × Obj)} {σ : L2.St} {H : Hp} {s s' : Shared} {a C dx : Addr} {oe : Obj} {vs : Array Value} (I : Inv X pins σ H s) (hk : ∀ b o, s.heap.get? b = some o → s'.heap.get? b = some o) (hn : s.heap.get? a = none) (ha : s'.heap.get? a = some oe) (hc : oe.cls = .ref C) (hd : oe.dict = some dx) (hf : oe.data = .fields vs) (na : H a = none) (os : s'.os = s.os) (ag : AllBare s'.gens) : Inv X pins σ (upd H a (exK a C dx)) s' := by
  have up : ∀ b u, H b = some u → upd H a (exK a C dx) b = some u := fun b u e => by
    rw [upd_ne (fun z => by rw [z, na] at e; cases e)]
    exact e
  refine I.call' os (ch := []) ⟨fun b o e _ _ _ => hk b o e, fun b o e _ _ _ => ⟨o.slots, hk b o e⟩, fun b o e n _ => ?_, fun b o e _ => ⟨o, hk b o e⟩, fun b xs e => up b _ e, fun b o u e => up b _ e, fun b ps e => ⟨#[], by rw [Array.append_empty]; exact up b _ e⟩⟩ (fun b u e => ?_) ag fun b hb => nomatch hb
  · rw [upd_ne (fun z => by rw [z, hn] at e; cases e)]
    exact n
  · by_cases hb : b = a
    · subst hb
      rw [upd_same] at e
      cases e
      exact ⟨⟨oe, vs, ha, hc, hd, hf⟩, ⟨oe, ha⟩, fun h1 h2 ⟨o, ws, e1, e2, e3, e4⟩ up => ⟨o, ws, up o e1, e2, e3, e4⟩⟩
    · rw [upd_ne hb] at e
      exact (I.hok b u e).stay (fun c v _ q => hk c v q) (fun c q => up c _ q) fun c xs q => up c _ q
theorem pd_newX {c : Nat} {ns : List Nat} {x : Str} {e : Expr} {es : List Expr} {t : DA} {p pos : Pos} (hK : X.K = S.K) (tk : Takes X E) (hr : Room (k + 1) X.A) (R : RsD X.prog X.w S X.mg X.base k c ns) (hm : X.mg x = some (.ref (S.ca c))) (ha : PAd X S E (e :: es) t) (hx : Passes (L2.CX X.prog X.w) X (fun _ _ _ => False) := by exact passes_call tk (fun _ _ _ _ h => h.elim)) (hg : Gl X x := by rfl)
    (hdb : (x == ("__debug__" : Str)) = false := by decide) (he : starEach (e :: es) X.env = (false, eval e X.env) :: starEach es X.env := by rfl) (hpl : (backTo pos (starEach es X.env)).any (·.1) = false := by rfl) :
    PD X S E (.Call (.Name x p) (e :: es) [] pos) (dNewX c ns t) := by
  obtain ⟨T, fI, fd, ps, iC, tI, FI, hb⟩ := R
  rw [← hK] at T iC tI FI hb
  have rule := pmk_oex (p := p) T iC tI FI hr hb .nil hx hg hm ha.pa hdb he hpl
  refine ⟨fun pins s σ H F sd W Q2 E2 I rl sr xc h => ?_⟩
  refine wpAny_mono (rule pins s σ H (fun cls d H' => ∃ F1 dx vs fs W1, cls = .ref (S.ca c) ∧ d = some dx ∧ Ex F F1 ∧ Rel S F1 W1 H' ∧ F1 dx = some (.xd vs) ∧ Rpf S F1 vs fs ∧ Q2 (.exn c fs) W1) I ?_) (fun u s' mk => ?_) fun _ _ z => z
  · refine ⟨F, sd, W, _, E2, rl, sr, fun F1 vs ds W1 H1 e1 rl1 rp q => ?_, xc, h⟩
    obtain ⟨fs, hfs, q⟩ := q.inv
    match ns, ds, hfs, rp with
    | [i], [y], hfs, rp =>
      cases hfs
      obtain ⟨v, rfl, p1⟩ := rp.one
      refine ⟨by show 1 ≤ 1000; decide, fun a ha => ⟨a, v, rfl, upd_same, fun dx hd ne => ⟨rfl, dx, [(S.t.nm i, v)], upd_same, ?_, ?_, ?_⟩⟩⟩
      · rw [upd_ne ne, upd_same]
      · exact (upd_ne ne).symm.trans hd
      · have hd' : H1 dx = none := (upd_ne ne).symm.trans hd
        have rl2 := rl1.newF (o := .xd [(S.t.nm i, v)]) hd'
        have ee := Ex.new (o := HO.xd [(S.t.nm i, v)]) (rl1.nf hd')
        rw [heap_1 ha ne]
        exact ⟨upd F1 dx (.xd [(S.t.nm i, v)]), dx, _, [(i, y)], W1, rfl, rfl, e1.trans ee, rl2, upd_same, .cons (p1.mono ee) .nil, q⟩
    | [i, j], [y, z], hfs, rp =>
      cases hfs
      obtain ⟨v, u, rfl, p1, p2⟩ := rp.two
      refine ⟨by show 2 ≤ 1000; decide, fun a ha => ⟨a, v, u, rfl, upd_same, fun dx hd ne => ⟨rfl, dx, [(S.t.nm j, u), (S.t.nm i, v)], ?_, upd_same, ?_, ?_⟩⟩⟩
      · rw [upd_ne (Ne.symm ne), upd_same]
      · exact (upd_ne ne).symm.trans hd
      · have hd' : H1 dx = none := (upd_ne ne).symm.trans hd
        have rl2 := rl1.newF (o := .xd [(S.t.nm j, u), (S.t.nm i, v)]) hd'
        have ee := Ex.new (o := HO.xd [(S.t.nm j, u), (S.t.nm i, v)]) (rl1.nf hd')
        rw [heap_2 ha ne]
        exact ⟨upd F1 dx (.xd [(S.t.nm j, u), (S.t.nm i, v)]), dx, _, [(j, z), (i, y)], W1, rfl, rfl, e1.trans ee, rl2, upd_same, .cons (p2.mono ee) (.cons (p1.mono ee) .nil), q⟩
  · obtain ⟨a, oe, ws, sI, H', cls, d, rfl, J, hk, hn, hoe, hz, hf, h1, na, os, ag, _, F1, dx, vs, fs, W1, rfl, rfl, e1, rl1, hdx, rf, q⟩ := mk
    have ee := Ex.new (o := exK a (S.ca c) dx) (rl1.nf na)
    have nd : dx ≠ a := fun z => by
      have h1 := rl1.sub _ _ hdx
      rw [z, na] at h1
      cases h1
    exact ⟨.ref a, upd H' a (exK a (S.ca c) dx), upd F1 a (exK a (S.ca c) dx), .exn c fs, W1, madeX_inv J hk hn hoe hz.1 hz.2 hf na os ag, rfl, e1.trans ee, rl1.newF na (fun _ z => by unfold exK at z; cases z), .exn upd_same (by rw [upd_ne nd]; exact hdx) (rf.mono ee), q⟩
end
end Mv
end
section
set_option Elab.async false
set_option linter.all false
set_option maxRecDepth 100000
set_option maxHeartbeats 4000000
namespace Mv
open PySem PySem.Spec L2 PyProof.Rows
open Evl (Ex ex_l ex_t ex_rd)
section
variable {X : Cx} {pins : List (Addr × Obj)} {σ : L2.St} {H : Hp} {s : Shared}
variable {x n : Str} {c : Value} {i : Nat} {body suite : List Stmt} {b₀ : Stmt} {np pos pos' : Pos} {tb : WX → TS} {ts : Addr → Value → Option Addr → TS} {Wout : WX}
end
end Mv
end
section
set_option Elab.async false
set_option linter.all false
set_option maxRecDepth 100000
set_option maxHeartbeats 4000000
namespace Mv
open PySem PySem.Spec L2 PyProof.Rows
open Evl (Ex ex_l ex_t ex_rd)
section
variable {X : Cx} {S : Sy} {E : XS}
end
end Mv
end
section
set_option Elab.async false
set_option linter.all false
set_option maxRecDepth 100000
set_option maxHeartbeats 4000000
namespace Mv
open PySem PySem.Spec L2 PyProof.Rows
open Evl (Ex ex_l ex_t ex_rd)
open LamX (CodeO Tabs ExtN TabB LamS GivesTo lamCx lamEnv tLam)
abbrev LD := Wd → QD → QD → Prop
def LamOk (S : Sy) (F : Hp) (td : LD) (tl : XK → Hp → VK → Prop) : Prop := ∀ F' W' H' (Q2 : QD) (Q : VK) (Ex2 : QD) (E : XK), Ex F F' → Rel S F' W' H' → QCv S F' Q2 Q → XC0 S F' Ex2 E → td W' Q2 Ex2 → tl E H' Q
theorem LamOk.mono {S : Sy} {F F' : Hp} {td : LD} {tl : XK → Hp → VK → Prop} (h : LamOk S F td tl) (e : Ex F F') : LamOk S F' td tl := fun F2 W' H' Q2 Q Ex2 E e2 => h F2 W' H' Q2 Q Ex2 E (e.trans e2)
section
variable {X : Cx} {S : Sy} {E : XS}
end
end Mv
end
section
set_option Elab.async false
set_option linter.all false
set_option maxRecDepth 100000
set_option maxHeartbeats 4000000
namespace Mv
open PySem PySem.Spec L2 PyProof.Rows
open Evl (Ex ex_l ex_t ex_rd)
open LamX (CodeO Tabs ExtN TabB LamS GivesTo lamCx lamEnv tLam)
section
variable {X : Cx} {S : Sy} {E : XS} {k : Nat}
end
end Mv
end
section
set_option Elab.async false
set_option linter.all false
set_option maxRecDepth 100000
set_option maxHeartbeats 4000000
namespace Mv
open PySem PySem.Spec L2 PyProof.Rows
open Evl (Ex ex_l ex_t ex_rd)
open LamX (CodeO Tabs TabS ExtN TabB)
end Mv
end
section
set_option Elab.async false
set_option linter.all false
set_option maxRecDepth 100000
set_option maxHeartbeats 4000000
namespace Mv
open PySem PySem.Spec L2 PyProof.Rows
open Evl (Ex ex_l ex_t ex_rd)
section
open PySem.W
variable {K : PySem.W.Frag} {C : Addr}
end
structure IpF (S : Sy) (c : Nat) (nm : String) : Prop where
  cl : ∃ cd, PySem.W.clsIn S.K (S.ca c) = some cd ∧ cd.mro = [.ref (S.ca c), .type "object"]
  h1 : PySem.W.findIn S.K (.ref (S.ca c)) (PySem.dunderI nm) = some none
  h2 : PySem.W.findIn S.K (.type "object") (PySem.dunderI nm) = some none
section
variable {X : Cx} {S : Sy} {E : XS} {k : Nat}
end
def lkX (l : List (Nat × Bool)) : Nat → Option Bool := fun n => l.lookup n
theorem lkX_all {l : List (Nat × Bool)} {p : Nat → Bool → Prop} (h : ∀ e ∈ l, p e.1 e.2) : ∀ n b, lkX l n = some b → p n b := fun n b e => h (n, b) (mem_lk e)
end Mv
end
section
set_option Elab.async false
set_option linter.all false
set_option maxRecDepth 100000
set_option maxHeartbeats 4000000
namespace MvX
open PySem PySem.Spec L2 PySem.HandSPX PySem.W
open Builtin Builtin.ObjectAttr
theorem vn_chk (c : Value) (us : List Value) (kw : List (Str × Value)) : Bind.checkArgs "ValueError.__new__" ⟨.any, "ValueError", "ValueError", .cls, [⟨"args", .varPos, false⟩, ⟨"kwargs", .varKw, false⟩]⟩ ⟨c :: us, kw⟩ = pure () := by
  first
    | rfl
    | kernel_rfl
structure VeC (h : Heap) (C : Addr) (bm : List Value) : Prop where
  at_ : ∃ nm q N bs sn sub ab col dd k0 k1 k2 k3 k5, h.get? C = some (excClassObj nm q C N bs bm true sn sub ab col dd k0 k1 k2 k3 k5 "ValueError.__new__")
  ve : refsVE bm = true
section
variable {P : Program} {w : World} {A : Around} {E : Value → Shared → Prop} {R : Result → Shared → Prop} {h : Heap} {g : Array GenState} {dr : Drawn} {t : Nat} {os : OsState} {C : Addr} {bm us : List Value} {kw : List (Str × Value)}
theorem VeC.has (V : VeC h C bm) (x : String) (e : veTail.contains (.type x) = true := by decide +kernel) : (Value.ref C :: bm).contains (.type x) = true := by
  rw [List.contains_cons, refsVE_contains x bm V.ve, e, Bool.or_true]
theorem VeC.hasnt (V : VeC h C bm) (x : String) (e : veTail.contains (.type x) = false := by decide +kernel) : (Value.ref C :: bm).contains (.type x) = false := by
  rw [List.contains_cons, refsVE_contains x bm V.ve, e]
  rfl
theorem vn_check {M : Model} {Q : Unit → Shared → Prop} (V : VeC h C bm) (q : Q () ⟨h, g, dr, t, os⟩) : wpAny M A (checkBuiltinCall "ValueError.__new__" ⟨.ref C :: us, kw⟩) Q E ⟨h, g, dr, t, os⟩ := by
  obtain ⟨nm, qn, N, bs, sn, sub, ab, col, dd, k0, k1, k2, k3, k5, hC⟩ := V.at_
  have c1 := V.has "ValueError"
  have F0 := F.excBase_ValueError
  simp only [checkBuiltinCall, F0.newKind, F0.newSplit, F0.newRow, vn_chk]
  repeat (first
    | with_reducible refine wpAny_loadPart_at hC ?_
    | (with_reducible refine wpAny_isSubtype_exc hC ?_; rw [c1])
    | with_reducible refine wpAny_staticBase_exc hC ?_
    | with_reducible refine wpAny_madeBy_exc hC ?_
    | simp only [bne_self_eq_false, Bool.false_eq_true, if_false]
    | wp_step)
  exact q
theorem vn_new (V : VeC h C bm) (hl : us.length ≤ sizeLine) (q : R (.ok (.ret (.ref (h.objs.size + 1)))) ⟨(h.push (kdv_tup us)).push (excO C h.objs.size), g, dr, t, os⟩) :
    codeAny (model P w) A (.builtin "ValueError.__new__" ⟨.ref C :: us, kw⟩) R ⟨h, g, dr, t, os⟩ := by
  obtain ⟨nm, qn, N, bs, sn, sub, ab, col, dd, k0, k1, k2, k3, k5, hC⟩ := V.at_
  have F0 := F.excBase_ValueError
  have en := F0.ends
  have c1 := V.has "ValueError"
  have c2 := V.hasnt "AttributeError"
  have c3 := V.hasnt "NameError"
  refine codeAny_builtinAt F0.entry ?_
  unfold Builtin.«BaseException.__new__»
  refine wpAt_bind ?_
  show wpAt _ _ _ (stack >>= _) _ _ _
  refine wpAt_bind (wpAt_stack fun p below => wpAt_of_wpAny ?_)
  wp_walk
  refine wpAt_of_wpAny ?_
  rw [F0.owner]
  repeat (first
    | with_reducible refine wpAny_madeHere_exc F0.canon hC ?_
    | with_reducible refine wpAny_loadPart_at hC ?_
    | (with_reducible refine wpAny_isSubtype_exc hC ?_; first | rw [c1] | rw [c2] | rw [c3])
    | wp_step)
  show R _ _
  rw [Heap.size_push]
  exact q
theorem vn_call {f : Addr} (V : VeC h C bm) (hi : Looks (model P w) h (typeLookup (.ref C) "__init__") (some (.ref f))) (hb : ∀ self, Looks (model P w) h (bindSpecial (.ref f) self) (.ref f, [self])) (hl : us.length ≤ sizeLine)
    (q : codeAny (model P w) (A.under (.builtin "type.__call__" ⟨.ref C :: us, kw⟩)) (.call (.ref f) ⟨.ref (h.objs.size + 1) :: us, kw⟩) (InitBack (h.objs.size + 1) R) ⟨(h.push (kdv_tup us)).push (excO C h.objs.size), g, dr, t, os⟩) :
    codeAny (model P w) A (.call (.ref C) ⟨us, kw⟩) R ⟨h, g, dr, t, os⟩ := by
  obtain ⟨nm, qn, N, bs, sn, sub, ab, col, dd, k0, k1, k2, k3, k5, hC⟩ := V.at_
  have f1 := tc_lookup
  have f2 := tc_bind (.ref C)
  have tt : (⟨h, g, dr, t, os⟩ : Shared).TypeIs (.ref C) "type" := ⟨_, hC, rfl⟩
  have lt : Looks (model P w) h (typeOf (.ref C)) (.type "type") := (Looks.ld hC).andThen .now
  refine codeAny_of_tree ?_
  show wpAny _ _ (callAny (.ref C) _) _ _ _
  repeat (any_goals (first
    | assumption
    | with_reducible refine wpAny_loadPart_at hC ?_
    | wp_step))
  refine ⟨rfl, ?_⟩
  refine codeAny_call_builtin_at (Code.quiet_builtin _ (by decide +kernel)) entry_typeCall (check_slot tc_kind tc_split (lt.andThen (.of_pure tc_sub)) (tc_args _ _ _) ?_)
  unfold Builtin.«type.__call__»
  repeat (first
    | with_reducible refine wpAny_loadPart_at hC ?_
    | with_reducible refine wpAny_madeBy_exc hC ?_
    | wp_step)
  refine codeAny_call_builtin_code (Code.quiet_builtin _ (F.excBase_ValueError).quiet) (vn_check V ?_)
  refine vn_new V hl ?_
  show wpAny _ _ _ _ _ _
  have k : ∀ b o, h.get? b = some o → ((h.push (kdv_tup us)).push (excO C h.objs.size)).get? b = some o := fun b o e => Heap.get?_push_of_some _ (Heap.get?_push_of_some _ e)
  have hC1 := k _ _ hC
  have hx : ((h.push (kdv_tup us)).push (excO C h.objs.size)).get? (h.objs.size + 1) = some (excO C h.objs.size) := by heap_get
  have self : (Value.ref C :: bm).contains (.ref C) = true := by simp
  have i1 := hi.keeps k
  have b1 := (hb (.ref (h.objs.size + 1))).keeps k
  unfold isInstance
  repeat (first
    | with_reducible refine wpAny_loadPart_at hx ?_
    | (show wpAny _ _ (isSubtype (.ref C) (.ref C)) _ _ _; refine wpAny_isSubtype_exc hC1 ?_; rw [self])
    | wp_step)
  show wpAny _ _ (typeLookup (.ref C) _) _ _ _
  refine i1.at (wpAny_holding (wpAny_bind (b1.at (wpAny_bind (wpAny_call (codeAny_mono q fun r s' z => ?_))))))
  rcases r with e | (v | _ | _ | _) <;> first | exact z | exact z.elim | skip
  obtain ⟨rfl, z⟩ := z
  first
    | exact wpAny_pure (wpAny_pure z)
    | (wp_walk; exact z)
end
end MvX
namespace Mv
open PySem PySem.Spec L2 PyProof.Rows
open Evl (Ex ex_l ex_t ex_rd)
structure RsK (P : Program) (w : World) (S : Sy) (mg : Str → Option Value) (base : Heap) (k c : Nat) (ns : List Nat) (ks : List Str) (l : List Nat) : Prop where
  oex : OexC S.K (S.ca c)
  ex : ∃ (fI : Addr) (fd : FuncData) (ps : List Str), PySem.W.findIn S.K (.ref (S.ca c)) "__init__" = some (some (.ref fI)) ∧ PySem.W.typeIn S.K (.ref fI) = some (.type "function") ∧
    FnOk P w S.K mg base (L2.CX P w) k fI fd ps (exSp (S.ca c) (ns.map S.t.nm)) ∧ ∀ (s : Shared) (x : Value) (ws : List Value), S.K.In s.heap → ws.length = ks.length → BindsTo s fd ⟨[x], ks.zip ws⟩ (ps.zip (x :: pk .none l ws))
theorem RsK.mono {P : Program} {w : World} {S : Sy} {mg : Str → Option Value} {base : Heap} {j k c : Nat} {ns : List Nat} {ks : List Str} {l : List Nat} (R : RsK P w S mg base j c ns ks l) (h : j ≤ k) : RsK P w S mg base k c ns ks l := by
  obtain ⟨a, fI, fd, ps, b, c, d, e⟩ := R
  exact ⟨a, fI, fd, ps, b, c, d.mono h, e⟩
def dNewXK (c m : Nat) (ns l : List Nat) (t : DA) : DE := fun sd W Q E2 => t sd W (fun ds W1 => ds.length = m ∧ kSome (rsF ns (pk .non l ds)) fun fs => Q (.exn c fs) W1) E2
section
variable {X : Cx} {S : Sy} {E : XS} {k : Nat}
theorem exSp_runs {F H : Hp} {W : Wd} {C a : Addr} {ns : List Nat} {vs : List V} {ds : List D} {fs : List (Nat × D)} {E2 : XK} (rl : Rel S F W H) (rp : Rps S F vs ds) (hfs : rsF ns ds = some fs) (ha : H a = none) :
    exSp C (ns.map S.t.nm) (V.ref a :: vs) (upd H a (exo a C none)) (fun v H2 => v = .non ∧ ∃ (d : Addr) (ys : List (Str × V)), H2 a = some (exo a C (some d)) ∧ H2 d = some (exd d ys) ∧ H d = none ∧
      ∃ F2, Ex F F2 ∧ Rel S F2 W (upd (del H2 a) d (.xd ys)) ∧ F2 d = some (.xd ys) ∧ Rpf S F2 ys fs) E2 := by
  match ns, ds, hfs, rp with
  | [i], [y], hfs, rp =>
    cases hfs
    obtain ⟨v, rfl, p1⟩ := rp.one
    refine ⟨a, v, rfl, upd_same, fun dx hd ne => ⟨rfl, dx, [(S.t.nm i, v)], upd_same, ?_, (upd_ne ne).symm.trans hd, ?_⟩⟩
    · rw [upd_ne ne, upd_same]
    · have hd' : H dx = none := (upd_ne ne).symm.trans hd
      have ee := Ex.new (o := HO.xd [(S.t.nm i, v)]) (rl.nf hd')
      rw [heap_1 ha ne]
      exact ⟨_, ee, rl.newF hd', upd_same, .cons (p1.mono ee) .nil⟩
  | [i, j], [y, z], hfs, rp =>
    cases hfs
    obtain ⟨v, u, rfl, p1, p2⟩ := rp.two
    refine ⟨a, v, u, rfl, upd_same, fun dx hd ne => ⟨rfl, dx, [(S.t.nm j, u), (S.t.nm i, v)], ?_, upd_same, (upd_ne ne).symm.trans hd, ?_⟩⟩
    · rw [upd_ne (Ne.symm ne), upd_same]
    · have hd' : H dx = none := (upd_ne ne).symm.trans hd
      have ee := Ex.new (o := HO.xd [(S.t.nm j, u), (S.t.nm i, v)]) (rl.nf hd')
      rw [heap_2 ha ne]
      exact ⟨_, ee, rl.newF hd', upd_same, .cons (p2.mono ee) (.cons (p1.mono ee) .nil)⟩
theorem pd_newXK {c : Nat} {ns l : List Nat} {ks : List Str} {x : Str} {kws : List Keyword} {t : DA} {p pos : Pos} (hK : X.K = S.K) (tk : Takes X E) (hr : Room (k + 1) X.A) (R : RsK X.prog X.w S X.mg X.base k c ns ks l) (hm : X.mg x = some (.ref (S.ca c))) (hkw : PKd X S E kws t)
    (hx : Passes (L2.CX X.prog X.w) X (fun _ _ _ => False) := by exact passes_call tk (fun _ _ _ _ h => h.elim)) (hg : Gl X x := by rfl) (hall : (backToKw pos (keywordEach kws X.env)).all (·.1.isSome) = true := by rfl) (hks : (backToKw pos (keywordEach kws X.env)).filterMap (·.1) = ks := by rfl)
    (hdb : (x == ("__debug__" : Str)) = false := by decide) (hpl : ((backTo pos (starEach [] X.env)).any (·.1) || (backToKw pos (keywordEach kws X.env)).any (·.1.isNone)) = false := by rfl) :
    PD X S E (.Call (.Name x p) [] kws pos) (dNewXK c ks.length ns l t) := by
  obtain ⟨T, fI, fd, ps, iC, tI, FI, hb⟩ := R
  rw [← hK] at T iC tI FI hb
  refine ⟨fun pins s σ H F sd W Q2 E2 I rl sr xc h => ?_⟩
  refine wpAny_Call_Name_kw (ld_glob I hg hm ?_ hdb)
  refine PySem.W.callWith_KW0 (h₀ := X.base) I.ok.mod.kin T.kC hall ?_ hpl
  refine thn (hkw.run pos pins s σ H F sd W _ E2 I rl sr xc h) fun ws s1 ⟨vs, H1, F1, ds, W1, I1, r, e1, rl1, rp, hl, q⟩ => ⟨I1.kIn, ?_⟩
  rw [hks]
  show wpAny _ _ (call (.ref (S.ca c)) [] (ks.zip ws)) _ _ _
  obtain ⟨fs, hfs, q⟩ := q.inv
  obtain ⟨nm, qn, N, bs, bm, sn, sub, ab, col, dd, k0, k1, k2, k3, k5, hC, hbm⟩ := T.cls
  have lw : ws.length = ks.length := by rw [← r.length, rp.length]; exact hl
  obtain ⟨hp, g, dr, tk2, os⟩ := s1
  have up : hp.objs.size ≤ hp.objs.size + 1 := Nat.le_succ _
  have hn : H1 (hp.objs.size + 1) = none := I1.hok.fresh up
  have kk : ∀ b o, hp.get? b = some o → ((hp.push (PySem.W.kdv_tup [])).push (PySem.HandSPX.excO (S.ca c) hp.objs.size)).get? b = some o := fun b o e => Heap.get?_push_of_some _ (Heap.get?_push_of_some _ e)
  have hget : ((hp.push (PySem.W.kdv_tup [])).push (PySem.HandSPX.excO (S.ca c) hp.objs.size)).get? (hp.objs.size + 1) = some (PySem.HandSPX.excO (S.ca c) hp.objs.size) := by heap_get
  have I2 : Inv X pins σ (upd H1 (hp.objs.size + 1) (exo (hp.objs.size + 1) (S.ca c) none)) ⟨(hp.push (PySem.W.kdv_tup [])).push (PySem.HandSPX.excO (S.ca c) hp.objs.size), g, dr, tk2, os⟩ := I1.laid (t' := tk2) kk up (exo_ok hget)
  have rv : Vals (V.ref (hp.objs.size + 1) :: pk .non l vs) (Value.ref (hp.objs.size + 1) :: pk .none l ws) := .cons rfl (vals_pk r l)
  have ve : MvX.VeC hp (S.ca c) bm := ⟨⟨nm, qn, N, bs, sn, sub, ab, col, dd, k0, k1, k2, k3, k5, I1.kIn _ _ hC⟩, hbm⟩
  have run := FI.run _ X.stack _ _ ⟨[Value.ref (hp.objs.size + 1)], ks.zip ws⟩ (Value.ref (hp.objs.size + 1) :: pk .none l ws) _ _ (fun _ _ _ => False) (hr.make (S.ca c) [] (ks.zip ws)) (I2.env0.make (S.ca c) [] (ks.zip ws)) (hb _ _ ws I2.kIn lw) rv
    (exSp_runs rl1 (rps_pk rp l) hfs hn)
  refine wpAny_call (MvX.vn_call ve (PySem.W.looks_findIn I1.kIn iC) (fun self => PySem.W.bind_fn I1.kIn self tI) (Nat.zero_le _) (codeAny_mono run fun rr s' z => ?_))
  match rr, z with
  | .error er, z => exact hx pins σ _ _ er s' I2 z
  | .ok (.ret u), ⟨v, H2, os2, bare2, un2, hok2, rv2, ev, d, ys, ea, ed, hd1, F2, e2, rl2, f2, rf⟩ =>
    subst ev
    obtain ⟨h2, g2, d2, t2, os'⟩ := s'
    obtain ⟨t0, G, J, kG, ge, hoe, na⟩ := mk_end0 (d2 := d2) (t2 := t2) I1 up kk un2 hok2 os2 bare2 ea ed hd1
    have ee := Ex.new (o := exK (hp.objs.size + 1) (S.ca c) d) (rl2.nf na)
    have nd : d ≠ hp.objs.size + 1 := fun z => by
      have h1 : upd (del H2 (hp.objs.size + 1)) d (HO.xd ys) (hp.objs.size + 1) = some (HO.xd ys) := by rw [← z, upd_same]
      rw [na] at h1
      cases h1
    refine ⟨rv2, .ref (hp.objs.size + 1), upd _ (hp.objs.size + 1) (exK (hp.objs.size + 1) (S.ca c) d), upd F2 (hp.objs.size + 1) (exK (hp.objs.size + 1) (S.ca c) d), .exn c fs, W1, madeX_inv J kG ge hoe rfl rfl rfl na rfl bare2, rfl, (e1.trans e2).trans ee, rl2.newF na (fun _ z => by unfold exK at z; cases z), .exn upd_same (by rw [upd_ne nd]; exact f2) (rf.mono ee), q⟩
structure Ro0 (K : PySem.W.Frag) (C : Addr) : Prop where
  exc : PySem.W.excIn K C veBm "ValueError.__new__" = true
  kp : PySem.W.keepIn K (.ref C) = true
theorem ro0B_ok {K : PySem.W.Frag} {C : Addr} (h : ro0B K C = true) : Ro0 K C := ⟨(He.ba h).1, (He.ba h).2⟩
def dNewX0 (c : Nat) : DE := fun _ W Q _ => Q (.exn c []) W
theorem madeN_inv {pins : List (Addr × Obj)} {σ : L2.St} {H : Hp} {s s' : Shared} {a C : Addr} {oe : Obj} {vs : Array Value} (I : Inv X pins σ H s) (hk : ∀ b o, s.heap.get? b = some o → s'.heap.get? b = some o) (hn : s.heap.get? a = none) (ha : s'.heap.get? a = some oe) (hc : oe.cls = .ref C) (hd : oe.dict = none) (hf : oe.data = .fields vs) (na : H a = none) (os : s'.os = s.os) (ag : AllBare s'.gens) : Inv X pins σ (upd H a (exN a C)) s' := by
  have up : ∀ b u, H b = some u → upd H a (exN a C) b = some u := fun b u e => by
    rw [upd_ne (fun z => by rw [z, na] at e; cases e)]
    exact e
  refine I.call' os (ch := []) ⟨fun b o e _ _ _ => hk b o e, fun b o e _ _ _ => ⟨o.slots, hk b o e⟩, fun b o e n _ => ?_, fun b o e _ => ⟨o, hk b o e⟩, fun b xs e => up b _ e, fun b o u e => up b _ e, fun b ps e => ⟨#[], by rw [Array.append_empty]; exact up b _ e⟩⟩ (fun b u e => ?_) ag fun b hb => nomatch hb
  · rw [upd_ne (fun z => by rw [z, hn] at e; cases e)]
    exact n
  · by_cases hb : b = a
    · subst hb
      rw [upd_same] at e
      cases e
      exact ⟨⟨oe, vs, ha, hc, hd, hf⟩, ⟨oe, ha⟩, fun h1 h2 ⟨o, ws, e1, e2, e3, e4⟩ up => ⟨o, ws, up o e1, e2, e3, e4⟩⟩
    · rw [upd_ne hb] at e
      exact (I.hok b u e).stay (fun c v _ q => hk c v q) (fun c q => up c _ q) fun c xs q => up c _ q
theorem pd_newX0 {c : Nat} {x : Str} {p pos : Pos} (hK : X.K = S.K) (R : Ro0 S.K (S.ca c)) (hm : X.mg x = some (.ref (S.ca c))) (hg : Gl X x := by rfl) (hdb : (x == ("__debug__" : Str)) = false := by decide) : PD X S E (.Call (.Name x p) [] [] pos) (dNewX0 c) := by
  rw [← hK] at R
  refine ⟨fun pins s σ H F sd W Q2 E2 I rl sr xc h => ?_⟩
  refine wpAny_Call_Name_kw (ld_glob I hg hm ?_ hdb)
  refine PySem.W.callWith_K0 I.kIn R.kp ?_
  show wpAny _ _ (call (.ref (S.ca c)) []) _ _ _
  obtain ⟨bm, N, nm, qn, bs, hdct, sn, sub, ab, col, dd, k0, k1, k2, k3, k5, mN, hC, hN, hni, T⟩ := exc_obj I.kIn R.exc
  refine wpAny_call_exc_subT PySem.F.excBase_ValueError T hC hN hni (fun h' e hx => ?_) (Nat.zero_le _)
  have na : H e = none := I.hok.gone hx.new
  obtain ⟨t, he, _, _⟩ := hx.there
  have ee := Ex.new (o := exN e (S.ca c)) (rl.nf na)
  exact ⟨.ref e, _, upd F e (exN e (S.ca c)), .exn c [], W, madeN_inv I hx.keeps hx.new he rfl rfl rfl na rfl I.bare, rfl, ee, rl.newF na (fun _ z => by unfold exN at z; cases z), .exn0 upd_same, h⟩
end
theorem bindsK {K : PySem.W.Frag} {x qual : Str} {params : Arguments} {body : List Stmt} {scope : Scope} {kws : List (Str × V)} {f : Addr} {fd : FuncData} {ps ks : List Str} {l : List Nat} (Fd : FunD K x qual params body scope [] kws f fd)
    (hb : ∀ (kV doc pm : Value) (an : Option Addr) (cdv ct y : Value) (ws : List Value), ws.length = ks.length → bindArgs (PySem.W.fnOf x qual params body scope .none kV doc pm an cdv ct) ⟨[y], ks.zip ws⟩ = pure (ps.zip (y :: pk .none l ws))) :
    ∀ (s : Shared) (y : Value) (ws : List Value), K.In s.heap → ws.length = ks.length → BindsTo s fd ⟨[y], ks.zip ws⟩ (ps.zip (y :: pk .none l ws)) := fun s y ws _ h => by
  obtain ⟨oc, od, dV, kV, doc, pm, an, cdv, ct, osl, rfl, lk, hcd, hD, hK⟩ := Fd.ex
  rcases hD with ⟨_, rfl⟩ | ⟨e, _⟩
  · exact .of_eq (hb kV doc pm an cdv ct y ws h)
  · exact absurd rfl e
structure IsxT (S : Sy) (T : String) (f : Nat → Option Bool) : Prop where
  ok : ∀ n b, f n = some b → ExcC S.K (S.ca n) ∧ (PySem.W.clsIn S.K (S.ca n)).isSome = true ∧ PySem.W.kitOne S.K (.ref (S.ca n)) (.type T) = some b
theorem isxs_core {K : PySem.W.Frag} {ca : Nat → Addr} {l : List (Nat × Bool)} {cs : List Nat} {t : Value} (h1 : (cs.all fun c => excCB K (ca c)) = true) (h2 : (l.all fun e => decide (PySem.W.kitOne K (.ref (ca e.1)) t = some e.2)) = true) (h3 : (l.all fun e => cs.contains e.1) = true) :
    ∀ n b, lkX l n = some b → ExcC K (ca n) ∧ (PySem.W.clsIn K (ca n)).isSome = true ∧ PySem.W.kitOne K (.ref (ca n)) t = some b := lkX_all (p := fun n b => ExcC K (ca n) ∧ (PySem.W.clsIn K (ca n)).isSome = true ∧ PySem.W.kitOne K (.ref (ca n)) t = some b) fun e he => by
  have z := List.all_eq_true.mp h3 e he
  have x := excCB_ok (List.all_eq_true.mp h1 e.1 (by simpa using z))
  exact ⟨x.1, x.2.1, of_decide_eq_true (List.all_eq_true.mp h2 e he)⟩
theorem cl_isXt {X : Cx} {S : Sy} {T : String} {f : Nat → Option Bool} (hK : X.K = S.K) (hf : IsxT S T f) : CalD X S (.builtin "isinstance") (rIsX (.ty T) f) := by
  intro pins s σ H vs us Q I rv ⟨F, W, ds, Q2, rl, rp, qc, q⟩
  match ds, q with
  | [x, c], q =>
    obtain ⟨rfl, q⟩ := q
    obtain ⟨v1, v2, rfl, p1, p2⟩ := rp.two
    obtain ⟨a, xs, n, fs, rfl, ea, rf, q⟩ := kExn.at_ rl p1 q
    obtain ⟨b, hb, q⟩ := q.inv
    obtain ⟨T, hc, kt⟩ := hf.ok n b hb
    rw [← hK] at T hc kt
    cases p2
    cases rv with
    | cons r1 rr =>
      cases rr with
      | cons r2 rr =>
        cases rr
        obtain rfl : _ = Value.ref a := r1
        cases r2
        obtain ⟨oe, od, J⟩ := ea.inst I.hok
        exact PySem.W.kia_one (PySem.W.kitx_exc hc T.hg T.hk T.hs T.ha T.hn T.ht T.hm) I.kIn J kt (fun z => nomatch z) fun tk => ⟨.bl b, H, I.kept (t' := tk) fun _ _ z => z, rfl, qc F _ _ W H (fun _ _ h => h) rl (.bl _) q⟩
end Mv
end
section
set_option Elab.async false
set_option linter.all false
set_option maxRecDepth 100000
set_option maxHeartbeats 4000000
namespace Mv
open PySem PySem.Spec L2 PyProof.Rows
open Evl (Ex ex_l ex_t ex_rd)
section
variable {X : Cx} {pins : List (Addr × Obj)} {σ : L2.St} {H : Hp} {s : Shared}
inductive HdR (X : Cx) : List ExceptHandler → List (Value × Option Nat × TS) → Prop
  | nil : HdR X [] []
  | one {x : Str} {c : Value} {ts : TS} {b₀ : Stmt} {suite : List Stmt} {np pos' : Pos} {hds : List ExceptHandler} {l : List (Value × Option Nat × TS)} (hc : Names X x c)
      (hsu : ∀ (a : Addr) (pn : List (Addr × Obj)), PSs (X.suite a pn) (b₀ :: suite) ts) (r : HdR X hds l) :
      HdR X (.ExceptHandler (some (.Name x np)) none (b₀ :: suite) pos' :: hds) ((c, none, ts) :: l)
  | named {x n : Str} {i : Nat} {c : Value} {ts : TS} {b₀ : Stmt} {suite : List Stmt} {np pos' : Pos} {hds : List ExceptHandler} {l : List (Value × Option Nat × TS)} (hc : Names X x c) (hi : X.N[i]? = some n) (hln : X.env.kindOf n = some .local)
      (hsu : ∀ (a : Addr) (pn : List (Addr × Obj)), PSs (X.suite a pn) (b₀ :: suite) ts) (r : HdR X hds l) :
      HdR X (.ExceptHandler (some (.Name x np)) (some n) (b₀ :: suite) pos' :: hds) ((c, some i, ts) :: l)
variable {body : List Stmt} {h₀ : ExceptHandler} {hds : List ExceptHandler} {l : List (Value × Option Nat × TS)} {pos : Pos} {tb : WX → TS} {Wout : WX}
end
abbrev DHd := (Nat → Option Bool) × Option Nat × DE
section
variable {X : Cx} {S : Sy} {E : XS}
inductive HdD (X : Cx) (S : Sy) : List ExceptHandler → List DHd → List (Value × Option Nat × TS) → Prop
  | nil : HdD X S [] [] []
  | one {CS : Addr} {x : Str} {f : Nat → Option Bool} {e : Expr} {te : DE} {np rp pos' : Pos} {hds : List ExceptHandler} {l : List DHd} {l2 : List (Value × Option Nat × TS)} (hm : X.mg x = some (.ref CS)) (hq : ∀ c b, f c = some b → PySem.W.exmOne S.K (.ref (S.ca c)) (.ref CS) = some b)
      (he : ∀ (a : Addr) (pn : List (Addr × Obj)), PD (X.suite a pn) S EF e te) (r : HdD X S hds l l2) (hg : Gl X x := by rfl) (hdx : (x == ("__debug__" : Str)) = false := by decide) :
      HdD X S (.ExceptHandler (some (.Name x np)) none [.Return (some e) rp] pos' :: hds) ((f, none, te) :: l) ((.ref CS, none, upS S EF (dRet te)) :: l2)
  | named {CS : Addr} {x n : Str} {i : Nat} {f : Nat → Option Bool} {e : Expr} {te : DE} {np rp pos' : Pos} {hds : List ExceptHandler} {l : List DHd} {l2 : List (Value × Option Nat × TS)} (hm : X.mg x = some (.ref CS)) (hq : ∀ c b, f c = some b → PySem.W.exmOne S.K (.ref (S.ca c)) (.ref CS) = some b)
      (he : ∀ (a : Addr) (pn : List (Addr × Obj)), PD (X.suite a pn) S EF e te) (r : HdD X S hds l l2) (hg : Gl X x := by rfl) (hdx : (x == ("__debug__" : Str)) = false := by decide) (hi : X.N[i]? = some n := by rfl) (hln : X.env.kindOf n = some .local := by rfl) :
      HdD X S (.ExceptHandler (some (.Name x np)) (some n) [.Return (some e) rp] pos' :: hds) ((f, some i, te) :: l) ((.ref CS, some i, upS S EF (dRet te)) :: l2)
end
end Mv
end
section
set_option Elab.async false
set_option linter.all false
set_option maxRecDepth 100000
set_option maxHeartbeats 4000000
namespace Mv
open PySem PySem.Spec L2
open Evl (Ex ex_l ex_t ex_rd)
open PyProof.Rows PySem.Calls
section
variable {prog : Program} {w : World} {A : Around} {E : Value → Shared → Prop} {s : Shared} {K : PySem.W.Frag} {x C f : Addr} {ox : Obj} {od : Option Obj}
end
section
variable {X : Cx} {S : Sy} {E : XS} {k : Nat}
end
end Mv
end
section
set_option Elab.async false
set_option linter.all false
set_option maxRecDepth 100000
set_option maxHeartbeats 4000000
namespace Mv
open PySem PySem.Spec L2 PyProof.Rows
open LamX (TabB)
section
variable {P : Program} {w : World} {K : PySem.W.Frag} {mg mb : Str → Option Value} {k : Nat} {fa a : Addr} {cs : List (Addr × Addr)} {fd : FuncData} {x : Str} {sp : Sp} {s : Shared} {vs : List Value} {ns : List Int}
end
end Mv
end
section
set_option Elab.async false
set_option linter.all false
set_option maxRecDepth 100000
set_option maxHeartbeats 4000000
namespace Mv
open PySem PySem.Spec L2 PyProof.Rows
open Evl (Ex ex_l ex_t ex_rd)
section
variable {X : Cx} {S : Sy} {E : XS} {k n : Nat} {f : Addr} {sp2 : DSp}
structure CmK (P : Program) (w : World) (S : Sy) (mg : Str → Option Value) (base : Heap) (k : Nat) (C : Addr) (m : Str) (ks : List Str) (l : List Nat) (sp2 : DSp) : Prop where
  rd : ClX.CRead S.K C (.type "type")
  ex : ∃ p g, ClX.CMet S.K C (.type "type") m p g ∧ KwD P w S mg base k g 1 ks l sp2
theorem CmK.mono {P : Program} {w : World} {mg : Str → Option Value} {base : Heap} {j k : Nat} {C : Addr} {m : Str} {ks : List Str} {l : List Nat} (G : CmK P w S mg base j C m ks l sp2) (h : j ≤ k) : CmK P w S mg base k C m ks l sp2 := by
  obtain ⟨a, p, g, b, c⟩ := G
  exact ⟨a, p, g, b, c.mono h⟩
end
section
variable {X : Cx} {S : Sy} {E : XS} {k : Nat}
def repS (z : Str) (n : Nat) : Str := ⟨(List.replicate n z.cps).foldl (· ++ ·) #[]⟩
theorem fold_size {α : Type} (a : Array α) : ∀ (m : Nat) (acc : Array α), ((List.replicate m a).foldl (· ++ ·) acc).size = acc.size + m * a.size
  | 0, acc => by simp
  | m + 1, acc => by
    rw [List.replicate_succ, List.foldl_cons, fold_size a m, Array.size_append, Nat.succ_mul]
    omega
def rRepS : D2 := fun c d _ W Q _ => match c, d with
  | .str z, .int n => 2 ≤ n ∧ n ≤ 1000 ∧ 1 ≤ z.length ∧ z.length ≤ 1000 ∧ Q (.str (repS z n.toNat)) W
  | _, _ => False
theorem od_repS : OpD X S E (binaryOp .Mult) rRepS := by
  intro pins s σ H F sd W x y c d v u Q2 E2 I rl sr xc rx ry px py h
  match c, d, h with
  | .str z, .int n, ⟨h1, h2, h3, h4, q⟩ =>
    cases px
    cases py
    obtain ⟨t, rfl⟩ := rx
    obtain ⟨t2, rfl⟩ := ry
    have a1 : ¬ n < 1 := by omega
    have a2 : (n == 1 || z.length == 0) = false := by
      simp
      omega
    have hl : z.length * n.toNat ≤ 1000 * 1000 := Nat.mul_le_mul h4 (by omega)
    refine P.mul_str (by simp; omega) (fun _ _ => ?_) (fun _ _ => ?_) ?_
    · have e : (2 : Int) ^ 63 - 1 = 9223372036854775807 := by decide
      rw [e]
      have h5 : (9223372036854775807 : Int) / n ≥ 1000 := by
        rw [ge_iff_le, Int.le_ediv_iff_mul_le (by omega)]
        omega
      omega
    · have : sizeLine = 16777216 := by decide
      exact decide_eq_false (by omega)
    · rw [if_neg a1, if_neg (by rw [a2]; simp)]
      have : sizeLine = 16777216 := by decide
      have es : (repS z n.toNat).length = n.toNat * z.length := by
        show ((List.replicate n.toNat z.cps).foldl (· ++ ·) #[]).size = _
        rw [fold_size]
        show 0 + _ = _
        rw [Nat.zero_add]
        rfl
      have e2 : n.toNat * z.length = z.length * n.toNat := Nat.mul_comm _ _
      exact ⟨by show (repS z n.toNat).length ≤ sizeLine; omega, ⟨.str _, H, F, .str _, W, I.tok _, ⟨_, rfl⟩, Ex.refl _, rl, .str _, q⟩⟩
end
section
variable {X : Cx} {S : Sy} {E : XS}
end
end Mv
end
section
set_option Elab.async false
set_option linter.all false
set_option maxRecDepth 100000
set_option maxHeartbeats 4000000
namespace Mv
open PySem PySem.Spec L2
open PyProof.Rows NdefX
open He5 (DefA)
structure SupP (P : Program) (file : Str) : Prop where
  file : ((P.main.file : Str) == file) = true
  free : (P.main.scope.names.lookup ("super" : Str)).isSome = false
structure SupF (K : PySem.W.Frag) (x qual : Str) (params : Arguments) (body : List Stmt) (scope : Scope) (f c cc C : Addr) (file : Str) (fd : FuncData) : Prop where
  ex : ∃ (oc : Value) (od : Option Addr) (kV doc pm : Value) (an : Option Addr) (ct : Value) (osl : Array (Option Value)), fd = PySem.W.fnX x qual params body scope [("__class__", cc)] .none kV doc pm an (.ref c) ct ∧ K.lookup f = some ⟨oc, od, .func fd, osl⟩
  code : PySem.W.codeIn K (.ref c) qual = true
  rc : ∃ (ccl : Value) (cdd : Option Addr) (vs : Array Value) (ccs : Array (Option Value)) (tf : Tok), K.lookup c = some ⟨ccl, cdd, .fields vs, ccs⟩ ∧ vs[2]? = some (.str file tf)
  cell : ∃ (cl : Value) (cld : Option Addr) (csl : Array (Option Value)), K.lookup cc = some ⟨cl, cld, .cell (some (.ref C)), csl⟩
  cls : ∃ cd, PySem.W.clsIn K C = some cd
  kp : PySem.W.keepIn K (.ref f) = true
abbrev nfOf (x qual : Str) (params : Arguments) (body : List Stmt) (scope : Scope) (c cc : Addr) : NF := ⟨x, qual, params, body, scope, [("__class__", cc)], c⟩
structure PBa (X : Cx) (S : Sy) (E : XS) (B st : List Stmt) (t : DS) : Prop where
  run : ∀ (pins : List (Addr × Obj)) (s : Shared) (σ : L2.St) (H F : Hp) (sd : SD) (W : Wd) (D2 : DEnds) (E2 : QX), Inv X pins σ H s → Rel S F W H → SRel S F σ sd → XCv S F E2 E → t D2 sd W E2 →
    _root_.PySem.wpAt (model X.prog X.w) X.A (.func B X.env) (execs st X.env) (SPd X S pins F D2) X.xe s
section
variable {X : Cx} {S : Sy} {E : XS} {B : List Stmt}
end
structure SupD (P : Program) (w : World) (S : Sy) (mg : Str → Option Value) (base : Heap) (k : Nat) (C : Addr) (l : List Nat) (m : Str) (n : Nat) (dds : List D) (sp2 : DSp) : Prop where
  ex : ∃ g, FnD P w S mg base k g n dds sp2 ∧ PySem.W.fnIn S.K g = true ∧ PySem.W.typeIn S.K (.ref g) = some (.type "function") ∧ ∀ c ∈ l, ∃ cd, PySem.W.clsIn S.K (S.ca c) = some cd ∧ PySem.W.mroIn S.K (S.ca c) (.ref C) = some true ∧ PySem.W.alongIn S.K m ((cd.mro.dropWhile (· != .ref C)).drop 1) = some (some (.ref g))
  op : PySem.W.nsIn S.K PySem.cStatics "thirdparty.any" = some none
section
variable {X : Cx} {S : Sy} {E : XS} {B : List Stmt} {k : Nat}
end
end Mv
end
section
set_option Elab.async false
set_option linter.all false
set_option maxRecDepth 100000
set_option maxHeartbeats 4000000
namespace Mv
open PySem PySem.Spec L2
open PyProof.Rows NdefX
open He5 (DefA fnA FnW)
section
variable {P : Program} {w : World} {S : Sy} {mg : Str → Option Value} {base : Heap} {x qual : Str} {params : Arguments} {body : List Stmt} {scope : Scope} {f c cc C : Addr} {file : Str} {fd : FuncData} {N ps : List Str} {k : Nat} {sp2 : DSp} {t : DS}
end
def fnZ (K : PySem.W.Frag) (a : Addr) : FnW := (fnA K a).map fun q => (q.1, q.2.1, q.2.2.1, q.2.2.2.1, q.2.2.2.2.1, q.2.2.2.2.2.1, [], q.2.2.2.2.2.2.2)
def obsS (mf : List (PySem.W.Frag → Bool)) (fn fs : List DefA) (K : PySem.W.Frag) : He.AlD := ((mf.all fun f => f K) && (fn.all (fun d => d.ok K) && fs.all fun d => d.ok K), (fn.map fun d => fnA K (d.at_ K)) ++ fs.map fun d => fnZ K (d.at_ K))
def SaysS (mf : List (PySem.W.Frag → Bool)) (fn fs : List DefA) (K : PySem.W.Frag) : Prop := obsS mf fn fs K = He5.valA (fn ++ fs)
section
variable {mf : List (PySem.W.Frag → Bool)} {fn fs : List DefA} {K : PySem.W.Frag}
theorem SaysS.fact (c : SaysS mf fn fs K) (i : Nat) {f : PySem.W.Frag → Bool} (h : mf[i]? = some f := by rfl) : f K = true := by
  have c1 := (He.ba (show ((mf.all fun f => f K) && (fn.all (fun d => d.ok K) && fs.all fun d => d.ok K)) = true from congrArg (fun z : He.AlD => z.1) c)).1
  exact List.all_eq_true.mp c1 f (List.mem_of_getElem? h)
theorem SaysS.rows (c : SaysS mf fn fs K) : (fn.map fun d => fnA K (d.at_ K)) = fn.map DefA.val ∧ (fs.map fun d => fnZ K (d.at_ K)) = fs.map DefA.val := by
  have e : (fn.map fun d => fnA K (d.at_ K)) ++ (fs.map fun d => fnZ K (d.at_ K)) = (fn ++ fs).map DefA.val := congrArg (fun z : He.AlD => z.2) c
  rw [List.map_append] at e
  exact List.append_inj e (by simp)
theorem SaysS.def_ (c : SaysS mf fn fs K) (i : Nat) {d : DefA} (h : fn[i]? = some d := by rfl) : ∃ fd, L2.FunD K d.name d.qual d.params d.body d.scope (d.dvs K) (d.kws K) (d.at_ K) fd := by
  have c2 := (He.ba (He.ba (show ((mf.all fun f => f K) && (fn.all (fun d => d.ok K) && fs.all fun d => d.ok K)) = true from congrArg (fun z : He.AlD => z.1) c)).2).1
  have e2 : (fn.map fun d => fnA K (d.at_ K))[i]? = (fn.map DefA.val)[i]? := by rw [c.rows.1]
  rw [List.getElem?_map, List.getElem?_map, h] at e2
  exact He5.DefA.funD (Option.some.inj e2) (List.all_eq_true.mp c2 d (List.mem_of_getElem? h))
end
end Mv
end
section
set_option Elab.async false
set_option linter.all false
set_option maxRecDepth 100000
set_option maxHeartbeats 4000000
namespace Mv
open PySem PySem.Spec L2
open PyProof.Rows NdefX
open Evl (Ex)
def BoundRun (P : Program) (w : World) (A : Around) (f : Addr) (fd : FuncData) (body : List Stmt) (binds : List (Str × Value)) (R : Result → Shared → Prop) (s : Shared) : Prop :=
  wpAny (model P w) A.in1 (newFunctionEnv fd.scope fd.globals fd.closure binds (fd.qualname ++ ".<locals>.") (some f) fd.code none fd.builtins) (fun env s₂ => s₂.heap.NoLimit ∧ codeAny (model P w) A (.func body env) R s₂) (fun e s' => R (.error e) s') s
structure FnR (P : Program) (w : World) (S : Sy) (mg : Str → Option Value) (base : Heap) (k : Nat) (f : Addr) (sp2 : DSp) : Prop where
  ex : ∃ (fd : FuncData) (body : List Stmt) (ps : List Str) (oc : Value) (od : Option Addr) (osl : Array (Option Value)), S.K.lookup f = some ⟨oc, od, .func fd, osl⟩ ∧ fd.scope.isCoroutine = false ∧ fd.scope.isGenerator = false ∧ fd.body = .stmts body ∧ PySem.W.codeIn S.K fd.code fd.qualname = true ∧
    (∀ (a b : Value) (rest : List Value), rest.length ≤ 8 → bindArgs fd ⟨a :: b :: rest, []⟩ = (newTuple rest >>= fun t => pure (ps.zip [a, b, t]))) ∧
    (∀ (A : Around) (outer : List Env) (s : Shared) (H : Hp) (us : List Value) (vs : List V) (Q : VK) (E : XK), Room k A → Env0 P w S.K mg base A outer s H → Vals vs us → upSp S sp2 vs H Q E → BoundRun P w A f fd body (ps.zip us) (CR (L2.CX P w) outer P w H s Q E) s)
  kp : PySem.W.keepIn S.K (.ref f) = true
theorem FnR.mono {P : Program} {w : World} {S : Sy} {mg : Str → Option Value} {base : Heap} {j k : Nat} {f : Addr} {sp2 : DSp} (G : FnR P w S mg base j f sp2) (h : j ≤ k) : FnR P w S mg base k f sp2 := by
  obtain ⟨⟨fd, body, ps, oc, od, osl, a, b, c, d, e, g, r⟩, kp⟩ := G
  exact ⟨⟨fd, body, ps, oc, od, osl, a, b, c, d, e, g, fun A outer s H us vs Q E hr => r A outer s H us vs Q E (hr.mono h)⟩, kp⟩
section
variable {P : Program} {w : World} {S : Sy} {mg : Str → Option Value} {base : Heap} {x qual : Str} {params : Arguments} {body : List Stmt} {scope : Scope} {f c cc C : Addr} {file : Str} {fd : FuncData} {N ps : List Str} {k : Nat} {sp2 : DSp} {t : DS}
end
structure MkR (P : Program) (w : World) (S : Sy) (mg : Str → Option Value) (base : Heap) (k : Nat) (c : Nat) (sp2 : DSp) : Prop where
  ex : ∃ f, Mk S.K (S.ca c) f ∧ FnR P w S mg base k f sp2
theorem MkR.mono {P : Program} {w : World} {S : Sy} {mg : Str → Option Value} {base : Heap} {j k c : Nat} {sp2 : DSp} (G : MkR P w S mg base j c sp2) (h : j ≤ k) : MkR P w S mg base k c sp2 := by
  obtain ⟨f, b, c⟩ := G
  exact ⟨f, b, c.mono h⟩
section
variable {X : Cx} {S : Sy} {E : XS} {k : Nat}
end
end Mv
end
section
set_option Elab.async false
set_option linter.all false
set_option maxRecDepth 100000
set_option maxHeartbeats 4000000
namespace Mv
open PySem PySem.Spec L2
open PyProof.Rows
open Evl (Ex ex_l ex_t)
section
variable {X : Cx} {S : Sy} {E : XS}
end
end Mv
end
section
set_option Elab.async false
set_option linter.all false
set_option maxRecDepth 100000
set_option maxHeartbeats 4000000
namespace Mv
open PySem PySem.Spec L2
open PyProof.Rows
open Evl (Ex ex_l ex_t)
theorem keyD_V {S : Sy} {F : Hp} {v : V} {d : D} {k : Key} (p : Rp S F v d) (h : keyD d = some k) : v = kV k := by
  cases p <;> first | (cases h; done) | skip
  · cases h
    rfl
  · cases h
    rfl
section
variable {X : Cx} {S : Sy} {E : XS} {tg : Expr}
variable {kx vx iter : Expr} {ifs : List Expr} {scope : Scope} {own : List (Str × Nat)} {pos : Pos} {ti : DI} {g : DG} {tt : DT} {tk tv : DE}
end
end Mv
end
section
set_option Elab.async false
set_option linter.all false
set_option maxRecDepth 100000
set_option maxHeartbeats 4000000
namespace Mv
open PySem PySem.Spec L2
open PyProof.Rows
open Evl (Ex ex_l ex_t)
section
variable {prog : Program} {w : World} {A : Around} {E : Value → Shared → Prop} {s : Shared}
end
section
variable {X : Cx} {S : Sy} {E : XS}
end
end Mv
end
section
set_option Elab.async false
set_option linter.all false
set_option maxRecDepth 100000
set_option maxHeartbeats 4000000
namespace Mv
open PySem PySem.Spec L2
open PyProof.Rows
open Evl (Ex ex_l ex_t ex_rd)
structure PMt (X : Cx) (S : Sy) (E : XS) (p : Pattern) (ws : List Str) : Prop where
  run : ∀ (pins : List (Addr × Obj)) (s : Shared) (σ : L2.St) (H F : Hp) (sd : SD) (W : Wd) (z : Str) (t : Tok) (Q : Option (List (Str × Value)) → Shared → Prop), Inv X pins σ H s → Rel S F W H → SRel S F σ sd →
    (∀ s' H' F', Inv X pins σ H' s' → Ex F F' → Rel S F' W H' → Q (if ws.contains z = true then some [] else none) s') → wpAny (model X.prog X.w) X.A (matchPattern p X.env (.str z t)) Q X.xe s
section
variable {X : Cx} {S : Sy} {E : XS} {k : Nat}
inductive PMs (X : Cx) (S : Sy) (E : XS) : List MatchCase → List (List Str × DS) → Prop
  | nil : PMs X S E [] []
  | cons {p : Pattern} {body : List Stmt} {ws : List Str} {t : DS} {r : List MatchCase} {cs : List (List Str × DS)} : PMt X S E p ws → PBd X S E body t → PMs X S E r cs → PMs X S E (⟨p, none, body⟩ :: r) ((ws, t) :: cs)
end
section
open GQ (call_here FinOf)
variable {X : Cx} {S : Sy} {E : XS} {k : Nat}
end
end Mv
end
section
set_option Elab.async false
set_option linter.all false
set_option maxRecDepth 100000
set_option maxHeartbeats 4000000
namespace Mv
open PySem PySem.Spec L2 PyProof.Rows
open Evl (Ex ex_l ex_t ex_rd)
section
variable {X : Cx} {S : Sy} {E : XS} {k : Nat}
end
end Mv
end
section
set_option Elab.async false
set_option linter.all false
set_option maxRecDepth 100000
set_option maxHeartbeats 4000000
namespace Mv
open PySem PySem.Spec L2 PyProof.Rows
open Evl (Ex ex_l ex_t ex_rd)
section
variable {X : Cx} {S : Sy} {E : XS}
end
end Mv
end
section
set_option Elab.async false
set_option linter.all false
set_option maxRecDepth 100000
set_option maxHeartbeats 4000000
namespace Mv
open PySem PySem.Spec L2
open PyProof.Rows (sortedS)
abbrev LINE : List Nat := [27, 28, 29, 30, 31, 32]
abbrev LIM : List Nat := [27, 28, 29, 30, 31, 32, 33, 34, 35]
def isLine (d : D) (n : Str) (a b : Rat) : Prop := ∃ c fs, d = .ins c fs ∧ c ∈ LINE ∧ fs.lookup 28 = some (.str n) ∧ fs.lookup 51 = some (.tup [amt a, amt b])
def isLot (c : Nat) (d : D) (q : Rat) (zs : List Str) : Prop := ∃ fs, d = .ins c fs ∧ fs.lookup 50 = some (amt q) ∧ fs.lookup 30 = some (.tup (zs.map .str)) ∧ zs.length ≤ 8
end Mv
end
section
set_option Elab.async false
set_option linter.all false
set_option maxRecDepth 100000
set_option maxHeartbeats 4000000
namespace Mv
open PySem PySem.Spec L2
open PyProof.Rows (sortedS)
def ownQ (c : Nat) (q : Rat) : Rat := match c with
  | 29 => 0
  | 30 => q / (q + 1)
  | 31 => 1 - q
  | _ => q
def gotQ (c : Nat) (q : Rat) : Rat := match c with
  | 27 => 0
  | 30 => q / (q + 1)
  | 31 => 1
  | _ => q
def Pl.lim : Pl → D → Prop
  | .one c n a b => fun d => isLine d n (ownQ c (Rat.divInt a b)) (gotQ c (Rat.divInt a b))
  | .both n a b x y => fun d => isLine d n (Rat.divInt a b) (Rat.divInt x y)
  | .lot c ns a b => fun d => ∃ zs, zs.Perm ns ∧ isLot c d (Rat.divInt a b) zs
  | .along n m a b => fun d => isLot 35 d (Rat.divInt a b) [n, m]
end Mv
end
section
set_option Elab.async false
set_option linter.all false
set_option maxRecDepth 100000
set_option maxHeartbeats 4000000
namespace Mv
open PySem PySem.Spec L2
def okR (cl : List Nat) : D → Bool
  | .non => true
  | .bl _ => true
  | .int _ => true
  | .str _ => true
  | .tup ds => pfs ds
  | .lst ds => pfs ds
  | .dK kvs => pfk kvs
  | .ins j fs => cl.contains j && pff fs
  | _ => false
end Mv
end
section
set_option Elab.async false
set_option linter.all false
set_option maxRecDepth 100000
set_option maxHeartbeats 4000000
namespace Mv
open PySem PySem.Spec L2
open Evl (Ex ex_l ex_t ex_rd)
open PyProof.Rows
section
variable {X : Cx} {S : Sy} {E : XS}
end
end Mv
end
section
set_option Elab.async false
set_option linter.all false
set_option maxRecDepth 100000
set_option maxHeartbeats 4000000
namespace Mv
open PySem PySem.Spec L2
open PyProof.Rows
open Evl (Ex ex_l ex_t ex_rd)
theorem Rel.subW {S : Sy} {F H : Hp} {W W0 : Wd} (r : Rel S F W H) (h : SubW W0 W) : Rel S F W0 H := ⟨r.sub, fun a m e => r.obj a m (h a m e), r.tab, r.nt⟩
def cutQ (Q : QD) : QD := fun d W => ∃ W0, SubW W0 W ∧ Q d W0
def cutSp (sp : DSp) : DSp := fun ds W Q E => ∃ Q0 E0, sp ds W Q0 E0 ∧ Q = cutQ Q0 ∧ E = cutQ E0
theorem SubW.refl (W : Wd) : SubW W W := fun _ _ h => h
theorem SubW.trans {A B C : Wd} (h : SubW A B) (g : SubW B C) : SubW A C := fun a m e => g a m (h a m e)
theorem cutQ.of {Q : QD} {d : D} {W : Wd} (h : Q d W) : cutQ Q d W := ⟨W, SubW.refl W, h⟩
theorem FnOk.cut {P : Program} {w : World} {S : Sy} {mg : Str → Option Value} {base : Heap} {k : Nat} {f : Addr} {fd : FuncData} {ps : List Str} {sp2 : DSp} (F : FnOk P w S.K mg base (L2.CX P w) k f fd ps (upSp S (cutSp sp2))) : FnOk P w S.K mg base (L2.CX P w) k f fd ps (upSp S sp2) :=
  F.imp fun vs H Q E ⟨F1, W, ds, Q2, E2, rl, rp, qc, xc, h⟩ => ⟨F1, W, ds, cutQ Q2, cutQ E2, rl, rp, fun F' v d W' H' e r p ⟨W0, hs, q⟩ => qc F' v d W0 H' e (r.subW hs) p q, fun F' dx vs c fs W' H' e r hx rf ⟨W0, hs, q⟩ => xc F' dx vs c fs W0 H' e (r.subW hs) hx rf q, Q2, E2, h, rfl, rfl⟩
section
variable {X : Cx} {S : Sy} {E : XS}
end
end Mv
end
section
set_option Elab.async false
set_option linter.all false
set_option maxRecDepth 100000
set_option maxHeartbeats 4000000
namespace Mv
open PySem PySem.Spec L2 PyProof.Rows
open Evl (Ex ex_l ex_t ex_rd)
section
variable {X : Cx} {S : Sy} {E : XS}
end
end Mv
end
section
set_option Elab.async false
set_option linter.all false
set_option maxRecDepth 100000
set_option maxHeartbeats 4000000
namespace Mv
open PySem PySem.Spec L2 PyProof.Rows
open Evl (Ex ex_l ex_t ex_rd)
section
variable {X : Cx} {S : Sy} {E : XS} {tg iter tg1 iter1 elt : Expr} {ti ti1 : DI} {g g1 : DG} {tt tt1 : DT} {te : DE}
variable {ifs ifs1 : List Expr} {scope : Scope} {own : List (Str × Nat)} {vs1 : List Nat} {pos : Pos}
end
end Mv
end
section
set_option Elab.async false
set_option linter.all false
set_option maxRecDepth 100000
set_option maxHeartbeats 4000000
namespace Mv
open PySem PySem.Spec L2 PyProof.Rows PySem.Calls
open Evl (Ex ex_l ex_t ex_rd)
section
variable {X : Cx} {S : Sy} {E : XS} {e : Expr} {te : DE}
end
section
variable {prog : Program} {w : World} {A : Around} {E : Value → Shared → Prop} {s : Shared} {K : PySem.W.Frag} {x C f : Addr} {ox : Obj} {od : Option Obj}
end
section
variable {X : Cx} {S : Sy} {E : XS} {k : Nat}
end
end Mv
end
section
set_option Elab.async false
set_option linter.all false
set_option maxRecDepth 100000
set_option maxHeartbeats 4000000
namespace Mv
open PySem PySem.Spec L2 PyProof.Rows
open Evl (Ex ex_l ex_t ex_rd)
section
variable {X : Cx} {S : Sy} {E : XS} {e : Expr} {te : DE}
def fzL (d : D) (W : Wd) (Q : QD) : Prop := match d with
  | .ptr a => (match W a with
    | some (.lst ds) => Q (.lst ds) (cut W a)
    | _ => False)
  | d => Q d W
def dFzL (te : DE) : DE := fun sd W Q E2 => te sd W (fun d W1 => fzL d W1 Q) E2
theorem pd_fzL (he : PD X S E e te) : PD X S E e (dFzL te) := by
  refine ⟨fun pins s σ H F sd W Q2 E2 I rl sr xc h => ?_⟩
  refine thn (he.run pins s σ H F sd W _ E2 I rl sr xc h) fun u s1 z => ?_
  obtain ⟨x, H1, F1, d, W1, I1, rv, e1, rl1, rp, q⟩ := z
  by_cases hd : ∃ a, d = .ptr a
  · obtain ⟨a, rfl⟩ := hd
    have q : (match W1 a with
      | some (.lst ds) => Q2 (.lst ds) (cut W1 a)
      | _ => False) := q
    cases hw : W1 a with
    | none =>
      rw [hw] at q
      exact q.elim
    | some m =>
      rw [hw] at q
      cases m with
      | lst ds =>
        cases rp
        obtain ⟨F2, e2, r2, p2⟩ := rl1.frz hw
        exact ⟨_, H1, F2, _, _, I1, rv, e1.trans e2, r2, p2, q⟩
      | _ => exact q.elim
  · have q : Q2 d W1 := by
      cases d <;> first | exact q | exact absurd ⟨_, rfl⟩ hd
    exact ⟨x, H1, F1, d, W1, I1, rv, e1, rl1, rp, q⟩
theorem fzL_p {a : Addr} {W : Wd} {ds : List D} {Q : QD} (h : W a = some (.lst ds)) : fzL (.ptr a) W Q = Q (.lst ds) (cut W a) := by
  unfold fzL
  dsimp only
  rw [h]
theorem fzL_l {W : Wd} {ds : List D} {Q : QD} : fzL (.lst ds) W Q = Q (.lst ds) W := rfl
end
end Mv
end
section
set_option Elab.async false
set_option linter.all false
set_option maxRecDepth 100000
set_option maxHeartbeats 4000000
namespace Mv
open PySem PySem.Spec L2 PyProof.Rows
open Evl (Ex ex_l ex_t ex_rd)
section
variable {X : Cx} {pins : List (Addr × Obj)} {σ : L2.St} {H : Hp} {s : Shared}
variable {kx vx tg iter : Expr} {ifs : List Expr} {scope : Scope} {own : List (Str × Nat)} {pos : Pos} {src : TI} {st : TG} {cond : TT} {ky vl : TE}
end
section
variable {S : Sy} {F : Hp} {k : List Key} {v : V} {d : D}
theorem Rpt.anyK : ∀ {vs : List (List Key × V)} {ds : List (List Key × D)}, Rpt S F vs ds → (vs.any fun kv => decide (kv.1 = k)) = ds.any fun kv => decide (kv.1 = k)
  | _, _, .nil => rfl
  | _, _, .cons _ r => by
    rw [List.any_cons, List.any_cons, Rpt.anyK r]
theorem Rpt.app : ∀ {vs ws : List (List Key × V)} {ds es : List (List Key × D)}, Rpt S F vs ds → Rpt S F ws es → Rpt S F (vs ++ ws) (ds ++ es)
  | _, _, _, _, .nil, s => s
  | _, _, _, _, .cons r t, s => .cons r (Rpt.app t s)
theorem Rpt.mapK (p : Rp S F v d) : ∀ {vs : List (List Key × V)} {ds : List (List Key × D)}, Rpt S F vs ds → Rpt S F (vs.map fun kv => if kv.1 = k then (kv.1, v) else kv) (ds.map fun kv => if kv.1 = k then (kv.1, d) else kv)
  | _, _, .nil => .nil
  | _, _, .cons (k := j) r t => by
    rw [List.map_cons, List.map_cons]
    by_cases h : j = k
    · rw [if_pos h, if_pos h]
      exact .cons p (Rpt.mapK p t)
    · rw [if_neg h, if_neg h]
      exact .cons r (Rpt.mapK p t)
end
section
variable {X : Cx} {S : Sy} {E : XS} {tg : Expr}
variable {kx vx iter : Expr} {ifs : List Expr} {scope : Scope} {own : List (Str × Nat)} {pos : Pos} {ti : DI} {g : DG} {tt : DT} {tk tv : DE}
theorem PD.or {e : Expr} {t u : DE} (a : PD X S E e t) (b : PD X S E e u) : PD X S E e (fun sd W Q E2 => t sd W Q E2 ∨ u sd W Q E2) :=
  ⟨fun pins s σ H F sd W Q2 E2 I rl sr xc h => h.elim (a.run pins s σ H F sd W Q2 E2 I rl sr xc) (b.run pins s σ H F sd W Q2 E2 I rl sr xc)⟩
end
end Mv
end
section
set_option Elab.async false
set_option linter.all false
set_option maxRecDepth 100000
set_option maxHeartbeats 4000000
namespace Mv
open PySem PySem.Spec L2 PyProof.Rows
open Evl (Ex ex_l ex_t ex_rd)
section
variable {X : Cx} {kx vx : Expr} {pos : Pos} {tk tv : TE}
end
def dDp1K (tk tv : DE) : DE := fun sd W Q E2 => ∀ p, W p = none → tk sd (put W p (.dK [])) (fun kd W1 => tv sd W1 (fun vd W2 => ∃ k, keyD kd = some k ∧ W2 p = some (.dK []) ∧ Q (.dK [(k, vd)]) (cut W2 p)) E2) E2
section
variable {X : Cx} {S : Sy} {E : XS} {kx vx : Expr} {pos : Pos} {tk tv : DE}
theorem pd_dp1K (hk : PD X S E kx tk) (hv : PD X S E vx tv) : PD X S E (.Dict [some kx] [vx] pos) (dDp1K tk tv) := by
  refine ⟨fun pins s σ H F sd W Q2 E2 I rl sr xc h => ?_⟩
  refine thn ((pe_lkF (pe_disp (pos := pos) (pps_cons hk.pe hv.pe pps_nil) rfl rfl (by simp) (Nat.le_of_ble_eq_true rfl))).run pins s σ H (tkQ S F Q2) I fun p hp => ?_) fun u s' z => EP.tk z
  have R0 : Rel S F (put W p (.dK [])) (upd H p (.dK [])) := rl.newW (m := .dK []) hp ⟨[], rfl, .nil⟩
  refine ⟨F, sd, _, _, E2, R0, sr, fun F1 y kd W1 H1 e1 rl1 p1 q1 => ?_, xc, h p (rl.nw hp)⟩
  refine ⟨F1, sd, W1, _, E2, rl1, sr.mono e1, fun F2 z vd W2 H2 e2 rl2 p2 q2 => ?_, XCv.mono e1 xc, q1⟩
  obtain ⟨k, hk, h6, q2⟩ := q2
  obtain ⟨_, us, ea, ru⟩ := rl2.obj p _ h6
  cases ru
  have ev := keyD_V (p1.mono e2) hk
  refine ⟨ea, [(k, z)], by rw [ev]; rfl, Nat.le_of_ble_eq_true rfl, ?_⟩
  have R1 : Rel S F2 (put W2 p (.dK [(k, vd)])) (upd H2 p (.dK (mergeK [] [(k, z)]))) := rl2.set (m := .dK [(k, vd)]) h6 ⟨mergeK [] [(k, z)], rfl, .cons p2 .nil⟩
  obtain ⟨u0, hu, mu, k0⟩ := R1.lockD put_same
  refine ⟨p, u0, rfl, hu, mu, fun od => ?_⟩
  obtain ⟨F3, e3, R2, p3⟩ := k0 od
  have ec : cut (put W2 p (.dK [(k, vd)])) p = cut W2 p := by
    funext b
    unfold cut put
    by_cases hb : b = p
    · rw [if_pos hb, if_pos hb]
    · rw [if_neg hb, if_neg hb, if_neg hb]
  rw [ec] at R2
  exact tkQ_of (e1.trans (e2.trans e3)) R2 p3 q2
end
end Mv
end
section
set_option Elab.async false
set_option linter.all false
set_option maxRecDepth 100000
set_option maxHeartbeats 8000000
namespace Mv.K01
open PySem PySem.Spec L2 PyProof.Rows
open He (ga ma)
open He5 (DefA wf)
def cpl : List Nat := []
abbrev lamL (K : PySem.W.Frag) : List Addr := []
abbrev lamT (K : PySem.W.Frag) : List (Addr × Str) := []
end Mv.K01
end
section
set_option Elab.async false
set_option linter.all false
set_option maxRecDepth 100000
set_option maxHeartbeats 4000000
namespace Mv
open PySem PySem.Spec L2
section
variable {S : Sy} {sd r : SD} {W : Wd} {Q : QD} {E : QX} {p : Addr} {cs : List Int} {k g : Int} {QS : SD → Wd → Prop}
theorem rdPen0 : dOp tIx (dVar 0) (dC (.int 0)) (some (.ptr p) :: r) (put W p (penM cs k g)) Q E = Q (.lst (cs.map D.int)) (put W p (penM cs k g)) := by
  simp only [dOp_e, dVar_e, List.getElem?_cons_zero, Option.some.injEq, exists_eq_left', dC_e]
  show (match put W p (penM cs k g) p with | some (.lst ds) => kSome (atI ds 0) fun x => Q x (put W p (penM cs k g)) | _ => False) = _
  rw [put_same]
  rfl
theorem rdPen1 : dOp tIx (dVar 0) (dC (.int 1)) (some (.ptr p) :: r) (put W p (penM cs k g)) Q E = Q (.int k) (put W p (penM cs k g)) := by
  simp only [dOp_e, dVar_e, List.getElem?_cons_zero, Option.some.injEq, exists_eq_left', dC_e]
  show (match put W p (penM cs k g) p with | some (.lst ds) => kSome (atI ds 1) fun x => Q x (put W p (penM cs k g)) | _ => False) = _
  rw [put_same]
  rfl
theorem rdPen2 : dOp tIx (dVar 0) (dC (.int 2)) (some (.ptr p) :: r) (put W p (penM cs k g)) Q E = Q (.int g) (put W p (penM cs k g)) := by
  simp only [dOp_e, dVar_e, List.getElem?_cons_zero, Option.some.injEq, exists_eq_left', dC_e]
  show (match put W p (penM cs k g) p with | some (.lst ds) => kSome (atI ds 2) fun x => Q x (put W p (penM cs k g)) | _ => False) = _
  rw [put_same]
  rfl
theorem rdPenX {b : DE} : dOp tIx (dOp tIx (dVar 0) (dC (.int 0))) b (some (.ptr p) :: r) (put W p (penM cs k g)) Q E = b (some (.ptr p) :: r) (put W p (penM cs k g)) (fun e W2 => tIx (.lst (cs.map D.int)) e (some (.ptr p) :: r) W2 Q E) E := by
  rw [dOp_e, rdPen0]
theorem setPen1 {j : Int} : gSetL (dVar 0) (dC (.int 1)) (.int j) (some (.ptr p) :: r) (put W p (penM cs k g)) QS = QS (some (.ptr p) :: r) (put W p (penM cs j g)) := by
  simp only [gSetL_e, dVar_e, List.getElem?_cons_zero, Option.some.injEq, exists_eq_left', dC_e]
  show (match put W p (penM cs k g) p with | some (.lst ds) => kSome (ixN ds.length 1) fun j' => QS (some (.ptr p) :: r) (put (put W p (penM cs k g)) p (.lst (ds.set j' (.int j)))) | _ => False) = _
  rw [put_same]
  show QS _ (put (put W p (penM cs k g)) p (penM cs j g)) = _
  rw [put_put]
theorem setPen2 {j : Int} : gSetL (dVar 0) (dC (.int 2)) (.int j) (some (.ptr p) :: r) (put W p (penM cs k g)) QS = QS (some (.ptr p) :: r) (put W p (penM cs k j)) := by
  simp only [gSetL_e, dVar_e, List.getElem?_cons_zero, Option.some.injEq, exists_eq_left', dC_e]
  show (match put W p (penM cs k g) p with | some (.lst ds) => kSome (ixN ds.length 2) fun j' => QS (some (.ptr p) :: r) (put (put W p (penM cs k g)) p (.lst (ds.set j' (.int j)))) | _ => False) = _
  rw [put_same]
  show QS _ (put (put W p (penM cs k g)) p (penM cs k j)) = _
  rw [put_put]
end
theorem rInt_int {i : Int} {Q : QD} : rIntD [.int i] W Q = Q (.int i) W := rfl
theorem rInt_bl {b : Bool} {Q : QD} : rIntD [.bl b] W Q = Q (.int (if b then 1 else 0)) W := rfl
theorem rLen_lst {ds : List D} {Q : QD} : rLenD [.lst ds] W Q = Q (.int ds.length) W := rfl
theorem rLen_tup {ds : List D} {Q : QD} : rLenD [.tup ds] W Q = Q (.int ds.length) W := rfl
theorem rAbs_int {i : Int} {Q : QD} : rAbsD [.int i] W Q = Q (.int (if i < 0 then -i else i)) W := rfl
theorem tIx_li {ds : List D} {i : Int} {Q : QD} : tIx (.lst ds) (.int i) sd W Q E = kSome (atI ds i) (fun x => Q x W) := rfl
theorem dps_ints : ∀ cs : List Int, dps (cs.map D.int) = 0
  | [] => rfl
  | c :: cs => by
    show max 0 (dps (cs.map D.int)) = 0
    rw [dps_ints cs]
    rfl
theorem eq_nil {q : EqI} : ∀ cs : List Int, eqD q (.lst (cs.map D.int)) (.lst []) = some cs.isEmpty
  | [] => rfl
  | c :: cs => rfl
theorem at_ints {cs : List Int} {i : Int} (h0 : 0 ≤ i) (h1 : i < cs.length) : ∃ c : Int, atI (cs.map D.int) i = some (.int c) := by
  have hl : i.toNat < cs.length := by omega
  refine ⟨cs[i.toNat], ?_⟩
  unfold L2.atI L2.ixN
  rw [if_pos h0]
  simp only [List.length_map]
  rw [if_pos h1]
  simp [hl]
theorem cm_l {a b : Int} (h1 : -18446744073709551616 < a) (h2 : a < 18446744073709551616) : (CMulW a b ∨ CMul a b) = True := by
  refine propext ⟨fun _ => trivial, fun _ => .inr (.inl ⟨?_, ?_⟩)⟩
  · have : (-(2 : Int) ^ 64) = -18446744073709551616 := by decide
    omega
  · have : (2 : Int) ^ 64 = 18446744073709551616 := by decide
    omega
theorem cpow10 : CPow 10 18 = True := by simp [CPow]
theorem cpow {a : Int} (h : a.natAbs < 2 ^ 64) : CPow a 5 = True := by
  refine propext ⟨fun _ => trivial, fun _ => ⟨by decide, by decide, h⟩⟩
theorem cpow3 {a : Int} (h : a.natAbs < 2 ^ 64) : CPow a 3 = True := by
  refine propext ⟨fun _ => trivial, fun _ => ⟨by decide, by decide, h⟩⟩
theorem spPen.inv {n : Nat} {post : List D → (D → Prop) → Prop} {ds : List D} {W : Wd} {Q E : QD} (h : spPen n post ds W Q E) : ∃ p r cs k g, ds = .ptr p :: r ∧ PenAt W p cs k g ∧ k + n ≤ 100000 ∧ post r fun d => ∀ k' g' : Int, k ≤ k' → k' ≤ k + n → Q d (put W p (penM cs k' g')) := by
  unfold spPen at h
  split at h
  · obtain ⟨cs, k, g, h1, h2, h3⟩ := h
    exact ⟨_, _, cs, k, g, rfl, h1, h2, h3⟩
  · exact h.elim
theorem len_pen {n : Nat} {m : Nat} {post : List D → (D → Prop) → Prop} {ds : List D} {W : Wd} {Q E : QD} (h : spPen n post ds W Q E) (hp : ∀ r q, post r q → r.length = m) : ds.length = m + 1 := by
  obtain ⟨p, r, cs, k, g, rfl, _, _, h⟩ := h.inv
  rw [List.length_cons, hp _ _ h]
theorem len__law_draw (S : Sy) : ∀ ds W Q E, sp__law_draw S ds W Q E → ds.length = 2 := fun ds W Q E h => len_pen h fun r q h => by
  match r, h with
  | [.int m], h => rfl
theorem len__law_pick (S : Sy) : ∀ ds W Q E, sp__law_pick S ds W Q E → ds.length = 2 := fun ds W Q E h => len_pen h fun r q h => by
  match r, h with
  | [.lst m], h => rfl
  | [.tup m], h => rfl
def drawT (q : EqI) (n : Nat) (c1 c2 p1 c3 c4 p2 c5 c6 c7 p3 : Int) : DS := dSeq (dIfS (dTbl (dOp (tCm .none .none (fun i j => decide (j < i))) (dOp tIx (dVar 0) (dC (.int 2))) (dC (.int 0)))) (dSeq (dAsg (dOp (tMod .none) (dCB rIntD (dCons (dOp tIx (dVar 0) (dC (.int 2))) (dNil))) (dVar 1)) (gN 2)) (dSeq (dAsg (dOp (tFdiv .none) (dCB rIntD (dCons (dOp tIx (dVar 0) (dC (.int 2))) (dNil))) (dVar 1)) (gSetL (dVar 0) (dC (.int 2)))) (dRet (dVar 2)))) (dNext)) (dSeq (dAsg (dOp tIx (dVar 0) (dC (.int 1))) (gN 3)) (dSeq (dAsg (dOp (Mv.tAdd .none .none) (dVar 3) (dC (.int 1))) (gSetL (dVar 0) (dC (.int 1)))) (dSeq (dAsg (dOp (Mv.tAdd .none .none) (dOp (Mv.tMul .none .none) (dC (.int c1)) (dVar 3)) (dC (.int c2))) (gN 4)) (dSeq (dIfS (dTbl (dOp (rEqQ q true n) (dOp tIx (dVar 0) (dC (.int 0))) (dLst (dNil)))) (dAsg (dOp tIx (dOp tIx (dVar 0) (dC (.int 0))) (dOp (tMod .none) (dCB rIntD (dCons (dVar 3) (dNil))) (dCB rLenD (dCons (dOp tIx (dVar 0) (dC (.int 0))) (dNil))))) (gN 4)) (dNext)) (dSeq (dIfS (dAnd (dTbl (dOp (tCm .none .none (fun i j => decide (i < j))) (dVar 3) (dCB rLenD (dCons (dOp tIx (dVar 0) (dC (.int 0))) (dNil))))) (dTbl (dOp (tCm .none .none (fun i j => decide (j ≤ i))) (dCB rAbsD (dCons (dVar 4) (dNil))) (dOp tPow (dC (.int 10)) (dC (.int 18)))))) (dSeq (dAsg (dOp (Mv.tAdd .none .none) (dOp (Mv.tMul .none .none) (dC (.int 2)) (dOp (Mv.tSub .none .none) (dCB rAbsD (dCons (dVar 4) (dNil))) (dOp tPow (dC (.int 10)) (dC (.int 18))))) (dCB rIntD (dCons (dOp (tCm .none .none (fun i j => decide (i < j))) (dVar 4) (dC (.int 0))) (dNil)))) (gN 5)) (dSeq (dAsg (dOp (tFdiv .none) (dCB rIntD (dCons (dVar 5) (dNil))) (dVar 1)) (gSetL (dVar 0) (dC (.int 2)))) (dRet (dOp (tMod .none) (dCB rIntD (dCons (dVar 5) (dNil))) (dVar 1))))) (dNext)) (dSeq (dAsg (dOp (tMod .none) (dCB rIntD (dCons (dOp tPow (dOp (Mv.tAdd .none .none) (dOp (Mv.tAdd .none .none) (dOp (tMod .none) (dCB rIntD (dCons (dVar 4) (dNil))) (dC (.int p1))) (dOp (Mv.tMul .none .none) (dC (.int c3)) (dVar 3))) (dC (.int c4))) (dC (.int 5))) (dNil))) (dC (.int p2))) (gN 6)) (dSeq (dAsg (dOp (tMod .none) (dCB rIntD (dCons (dOp tPow (dOp (Mv.tAdd .none .none) (dOp (Mv.tAdd .none .none) (dOp (Mv.tMul .none .none) (dVar 6) (dOp (Mv.tAdd .none .none) (dOp (Mv.tMul .none .none) (dC (.int 2)) (dVar 3)) (dC (.int c5)))) (dOp (Mv.tMul .none .none) (dOp (Mv.tMul .none .none) (dC (.int c6)) (dVar 3)) (dVar 3))) (dC (.int c7))) (dC (.int 3))) (dNil))) (dC (.int p3))) (gN 6)) (dRet (dOp (tMod .none) (dCB rIntD (dCons (dOp (tFdiv .none) (dVar 6) (dC (.int 32))) (dNil))) (dVar 1))))))))))
def Sml (i : Int) : Prop := 0 ≤ i ∧ i ≤ 10000000
instance : Decidable (Sml i) := inferInstanceAs (Decidable (_ ∧ _))
def Pm (i : Int) : Prop := 0 < i ∧ i ≤ 2147483648
instance : Decidable (Pm i) := inferInstanceAs (Decidable (_ ∧ _))
theorem lin {c k : Int} (h : Sml c) (h0 : 0 ≤ k) (h1 : k ≤ 100000) : 0 ≤ c * k ∧ c * k ≤ 1000000000000 := by
  have a := Int.mul_le_mul h.2 h1 h0 (by decide)
  exact ⟨Int.mul_nonneg h.1 h0, a⟩
theorem quad {c k : Int} (h : Sml c) (h0 : 0 ≤ k) (h1 : k ≤ 100000) : 0 ≤ c * k * k ∧ c * k * k ≤ 100000000000000000 := by
  obtain ⟨a0, a1⟩ := lin h h0 h1
  have a := Int.mul_le_mul a1 h1 h0 (by decide)
  exact ⟨Int.mul_nonneg a0 h0, a⟩
theorem bil {x y : Int} (h0 : 0 ≤ x) (h1 : x ≤ 2147483648) (g0 : 0 ≤ y) (g1 : y ≤ 10200000) : 0 ≤ x * y ∧ x * y ≤ 21904333209600000 := by
  have a := Int.mul_le_mul h1 g1 g0 (by decide)
  exact ⟨Int.mul_nonneg h0 g0, a⟩
theorem draw_tail {R : Int → Prop} {c k m c3 c4 c5 c6 c7 p1 p2 p3 : Int} (hk0 : 0 ≤ k) (hk1 : k ≤ 100000) (hm : 0 < m) (s3 : Sml c3) (s4 : Sml c4) (s5 : Sml c5) (s6 : Sml c6) (s7 : Sml c7) (q1 : Pm p1) (q2 : Pm p2) (q3 : Pm p3) (hR : ∀ i, R (i % m)) :
    0 < p1 ∧ (CMulW c3 k ∨ CMul c3 k) ∧ CPow (c % p1 + c3 * k + c4) 5 ∧ 0 < p2 ∧ (CMulW 2 k ∨ CMul 2 k) ∧
      (CMulW ((c % p1 + c3 * k + c4) ^ Int.toNat 5 % p2) (2 * k + c5) ∨ CMul ((c % p1 + c3 * k + c4) ^ Int.toNat 5 % p2) (2 * k + c5)) ∧
      (CMulW c6 k ∨ CMul c6 k) ∧ (CMulW (c6 * k) k ∨ CMul (c6 * k) k) ∧
      CPow ((c % p1 + c3 * k + c4) ^ Int.toNat 5 % p2 * (2 * k + c5) + c6 * k * k + c7) 3 ∧ 0 < p3 ∧
      CDivW (((c % p1 + c3 * k + c4) ^ Int.toNat 5 % p2 * (2 * k + c5) + c6 * k * k + c7) ^ Int.toNat 3 % p3) 32 ∧ 0 < m ∧
      R (((c % p1 + c3 * k + c4) ^ Int.toNat 5 % p2 * (2 * k + c5) + c6 * k * k + c7) ^ Int.toNat 3 % p3 / 32 % m) := by
  have e1 := Int.emod_nonneg c (b := p1) (by have := q1.1; omega)
  have e2 := Int.emod_lt_of_pos c q1.1
  have l1 := lin s3 hk0 hk1
  have l2 := lin s6 hk0 hk1
  have l3 := quad s6 hk0 hk1
  obtain ⟨s40, s41⟩ := s4
  obtain ⟨s50, s51⟩ := s5
  obtain ⟨s70, s71⟩ := s7
  obtain ⟨s30, s31⟩ := s3
  obtain ⟨s60, s61⟩ := s6
  have q11 := q1.2
  have q21 := q2.2
  have q31 := q3.2
  generalize hx : (c % p1 + c3 * k + c4) ^ Int.toNat 5 % p2 = x
  have x0 : 0 ≤ x := by
    rw [← hx]
    exact Int.emod_nonneg _ (by have := q2.1; omega)
  have x1 : x < p2 := by
    rw [← hx]
    exact Int.emod_lt_of_pos _ q2.1
  have l4 := bil x0 (by omega) (y := 2 * k + c5) (by omega) (by omega)
  have e64 : (2 : Nat) ^ 64 = 18446744073709551616 := by decide
  refine ⟨q1.1, of_eq_true (cm_l (by omega) (by omega)), of_eq_true (cpow (by omega)), q2.1, of_eq_true (cm_l (by decide) (by decide)), of_eq_true (cm_l (by omega) (by omega)), of_eq_true (cm_l (by omega) (by omega)), of_eq_true (cm_l (by omega) (by omega)), of_eq_true (cpow3 (by omega)), q3.1, ?_, hm, hR _⟩
  exact wide_div (b := 8990) (by decide) (by decide) (by decide) (by decide)
theorem pf_draw {c1 c2 p1 c3 c4 p2 c5 c6 c7 p3 : Int} {q : EqI} {n : Nat} (s1 : Sml c1) (s3 : Sml c3) (s4 : Sml c4) (s5 : Sml c5) (s6 : Sml c6) (s7 : Sml c7) (q1 : Pm p1) (q2 : Pm p2) (q3 : Pm p3) {S : Sy} {x0 x1 x2 x3 x4 x5 x6 : Str} : ∀ ds W Q2 E2, sp__law_draw S ds W Q2 E2 → drawT q (n + 1) c1 c2 p1 c3 c4 p2 c5 c6 c7 p3 { nx := fun _ W => Q2 .non W, rt := Q2 } (startD [x0, x1, x2, x3, x4, x5, x6] ds) W (fun x _ W => E2 x W) := by
  intro ds W Q E h
  obtain ⟨p, r, cs, k, g, rfl, ⟨hW, hl, hk0, hk1⟩, hk, h⟩ := spPen.inv h
  match r, h with
  | [.int m], h =>
    obtain ⟨hm, hb, qq⟩ := h
    have eW : W = put W p (penM cs k g) := (put_get hW).symm
    rw [eW] at qq ⊢
    have md : ∀ i : Int, CDivW i m := fun i => wide_div (b := 8990) hm hb (by decide) (by decide)
    have fin : ∀ (i k' g' : Int), k ≤ k' → k' ≤ k + 1 → Q (.int (i % m)) (put W p (penM cs k' g')) := fun i k' g' h1 h2 => by
      have := qq (i % m) (Int.emod_nonneg _ (by omega)) (Int.emod_lt_of_pos _ hm) k' g' h1 h2
      rwa [put_put] at this
    clear qq eW hW
    simp only [↓rdE, rdQ, kBl, kTru, kSome, startD, kI2, rInt2, List.replicate, List.drop, Nat.reduceSub, Nat.reduceAdd, Nat.reduceLeDiff, reduceIte, reduceCtorEq, rIsiD, ↓dNegO_e, ↓dB1_e, ↓dMeth_e, drawT, ↓rdPen0, ↓rdPen1, ↓rdPen2]
    by_cases hg : 0 < g
    · simp only [↓rdE, rdQ, kBl, kTru, kSome, startD, kI2, rInt2, List.replicate, List.drop, Nat.reduceSub, Nat.reduceAdd, Nat.reduceLeDiff, reduceIte, reduceCtorEq, rIsiD, ↓dNegO_e, ↓dB1_e, ↓dMeth_e, hg, decide_true, ↓rInt_int, hm, ↓rdPen2, md, ↓setPen2]
      exact fin g k _ (Int.le_refl _) (by omega)
    · simp only [↓rdE, rdQ, kBl, kTru, kSome, startD, kI2, rInt2, List.replicate, List.drop, Nat.reduceSub, Nat.reduceAdd, Nat.reduceLeDiff, reduceIte, reduceCtorEq, rIsiD, ↓dNegO_e, ↓dB1_e, ↓dMeth_e, hg, decide_false, ↓rdPen1, ↓setPen1, rEqQ, eq_nil, D.dp, dps_ints, ↓rdPen0]
      have hc := lin s1 hk0 hk1
      refine ⟨of_eq_true (cm_l (by have := s1.1; omega) (by have := s1.2; omega)), ?_⟩
      cases he : cs.isEmpty
      · have hl0 : 0 < cs.length := by
          cases cs
          · cases he
          · simp
        obtain ⟨c, hc⟩ := at_ints (cs := cs) (i := k % (cs.length : Int)) (Int.emod_nonneg _ (by omega)) (Int.emod_lt_of_pos _ (by omega))
        simp only [↓rdE, rdQ, kBl, kTru, kSome, startD, kI2, rInt2, List.replicate, List.drop, Nat.reduceSub, Nat.reduceAdd, Nat.reduceLeDiff, reduceIte, reduceCtorEq, rIsiD, ↓dNegO_e, ↓dB1_e, ↓dMeth_e, List.isEmpty_cons, List.length_map, ↓rInt_int, ↓rInt_bl, ↓rLen_lst, ↓rLen_tup, ↓rAbs_int, ↓rdPenX, ↓tIx_li, ↓setPen2, hc, ↓rdPen0, hg]
        have tl := draw_tail (R := fun z => Q (.int z) (put W p (penM cs (k + 1) g))) (c := c) hk0 hk1 hm s3 s4 s5 s6 s7 q1 q2 q3 fun i => fin i _ _ (by omega) (by omega)
        refine ⟨by omega, ?_⟩
        generalize (if c < 0 then -c else c) = ac
        split
        · refine ⟨of_eq_true cpow10, ?_⟩
          split
          · exact ⟨of_eq_true cpow10, of_eq_true (cm_l (by decide) (by decide)), md _, hm, fin _ _ _ (by omega) (by omega)⟩
          · exact tl
        · exact tl
      · simp only [↓rdE, rdQ, kBl, kTru, kSome, startD, kI2, rInt2, List.replicate, List.drop, Nat.reduceSub, Nat.reduceAdd, Nat.reduceLeDiff, reduceIte, reduceCtorEq, rIsiD, ↓dNegO_e, ↓dB1_e, ↓dMeth_e, List.isEmpty_nil, ↓rInt_int, ↓rInt_bl, ↓rLen_lst, ↓rLen_tup, ↓rAbs_int, ↓rdPen0, hg]
        cases cs
        · rw [if_neg (by simp; omega)]
          exact draw_tail (R := fun z => Q (.int z) (put W p (penM [] (k + 1) g))) hk0 hk1 hm s3 s4 s5 s6 s7 q1 q2 q3 fun i => fin i _ _ (by omega) (by omega)
        · cases he
theorem bg_small {i : Int} (h : i.natAbs < 2 ^ 60) : Bg i := by
  refine Nat.lt_of_lt_of_le h (Nat.pow_le_pow_right (by decide) (by decide))
theorem at_mem {ds : List D} {i : Int} (h0 : 0 ≤ i) (h1 : i < ds.length) : ∃ d, atI ds i = some d ∧ d ∈ ds := by
  have hl : i.toNat < ds.length := by omega
  refine ⟨ds[i.toNat], ?_, List.getElem_mem _⟩
  unfold L2.atI L2.ixN
  rw [if_pos h0, if_pos h1]
  simp [hl]
def penT : DS := dRet (dLstM (dCons (dCB rListD (dCons (dSl (dVar 0) (dNoPart) (dPart (dC (.int 63)))) (dNil))) (dCons (dC (.int 0)) (dCons (dC (.int 0)) (dNil)))))
def pickT (S : Sy) : DS := dRet (dOp tIx (dVar 1) (dCall 2 [] (sp__law_draw S) (dCons (dVar 0) (dCons (dCB rLenD (dCons (dVar 1) (dNil))) (dNil)))))
theorem pf_pick {S : Sy} {x0 x1 : Str} : ∀ ds W Q2 E2, sp__law_pick S ds W Q2 E2 → pickT S { nx := fun _ W => Q2 .non W, rt := Q2 } (startD [x0, x1] ds) W (fun x _ W => E2 x W) := by
  intro ds W Q E h
  obtain ⟨p, r, cs, k, g, rfl, hp, hk, h⟩ := spPen.inv h
  match r, h with
  | [.lst m], h =>
    obtain ⟨hm, hl, qq⟩ := h
    simp only [↓rdE, rdQ, kBl, kTru, kSome, startD, kI2, rInt2, List.replicate, List.drop, Nat.reduceSub, Nat.reduceAdd, Nat.reduceLeDiff, reduceIte, reduceCtorEq, rIsiD, ↓dNegO_e, ↓dB1_e, ↓dMeth_e, pickT, ↓dOp_e, ↓rLen_lst, ↓rLen_tup]
    refine ⟨cs, k, g, hp, hk, by cases m; exact absurd rfl hm; simp, bg_small (by omega), fun x h0 h1 k' g' h2 h3 => ?_⟩
    obtain ⟨d, hd, hd'⟩ := at_mem h0 h1
    show kSome (atI m x) _
    rw [hd]
    exact qq d hd' k' g' h2 h3
  | [.tup m], h =>
    obtain ⟨hm, hl, qq⟩ := h
    simp only [↓rdE, rdQ, kBl, kTru, kSome, startD, kI2, rInt2, List.replicate, List.drop, Nat.reduceSub, Nat.reduceAdd, Nat.reduceLeDiff, reduceIte, reduceCtorEq, rIsiD, ↓dNegO_e, ↓dB1_e, ↓dMeth_e, pickT, ↓dOp_e, ↓rLen_lst, ↓rLen_tup]
    refine ⟨cs, k, g, hp, hk, by cases m; exact absurd rfl hm; simp, bg_small (by omega), fun x h0 h1 k' g' h2 h3 => ?_⟩
    obtain ⟨d, hd, hd'⟩ := at_mem h0 h1
    show kSome (atI m x) _
    rw [hd]
    exact qq d hd' k' g' h2 h3
theorem pf_pen {S : Sy} {x0 : Str} : ∀ ds W Q2 E2, sp__law_pen S ds W Q2 E2 → penT { nx := fun _ W => Q2 .non W, rt := Q2 } (startD [x0] ds) W (fun x _ W => E2 x W) := by
  intro ds W Q E h
  obtain ⟨ns, rfl, h⟩ := h
  simp only [↓rdE, rdQ, kBl, kTru, kSome, startD, kI2, rInt2, List.replicate, List.drop, Nat.reduceSub, Nat.reduceAdd, Nat.reduceLeDiff, reduceIte, reduceCtorEq, rIsiD, ↓dNegO_e, ↓dB1_e, ↓dMeth_e, penT, rListD]
  show ∀ p : Addr, W p = none → _
  intro p hp
  have e : cutD (ns.map D.int) none (some 63) = (ns.take 63).map D.int := by
    unfold cutD
    rw [← List.map_drop, ← List.map_take]
    have e1 : HT.sIx (ns.map D.int).length 0 none = 0 := rfl
    rw [e1, List.drop_zero]
    have e2 : HT.sIx (ns.map D.int).length (ns.map D.int).length (some 63) = min 63 (ns.map D.int).length := by
      simp [HT.sIx]
    rw [e2, List.length_map, Nat.sub_zero, ← List.take_take]
    simp
  rw [e]
  exact h p (ns.take 63) hp (by simp; omega)
end Mv
end
section
set_option Elab.async false
set_option linter.all false
set_option maxRecDepth 100000
set_option maxHeartbeats 4000000
namespace Mv
open PySem PySem.Spec L2
def XC : List Nat := [3, 4, 5, 6, 7, 8, 9, 50, 10, 11, 12, 51, 13, 14, 16, 17, 18, 52, 53, 54, 19, 1, 2, 15, 20, 21, 22]
def xsub (c d : Nat) : Bool := c == d || match d with
  | 1 => true
  | 2 => [3, 4, 5, 6, 7, 8, 9, 50, 10, 11, 12, 51, 13, 14].contains c
  | 15 => [16, 17, 18, 52, 53, 54, 19].contains c
  | 20 => [21, 22].contains c
  | _ => false
def SG : List (Str × Nat) := [("input", 2), ("refused", 15), ("answer", 20), ("amount", 3), ("name", 4), ("count", 5), ("limit", 6), ("book", 7), ("firsts", 8), ("move", 9), ("totals", 50), ("ends", 10), ("prices", 11), ("run", 12), ("ask", 51), ("text", 13), ("line", 14), ("noline", 16), ("nopair", 17), ("over", 18), ("unfed", 52), ("shut", 53), ("known", 54), ("many", 19), ("deed", 21), ("budget", 22)]
def signD (c : Nat) (e : Str × Nat) : D := .tup [.str e.1, .bl (xsub c e.2)]
def kinds (c : Nat) : List Str := (SG.filter fun e => xsub c e.2).map (·.1)
def Thing (d : D) : Prop := ∃ p, pyE d = some p ∧ p.showable = true ∧ p.shown.length ≤ 1000 ∧ p.depth ≤ 10
def sp__law_value (S : Sy) : DSp := spPen 2 fun r q => r = [] ∧ ∀ d, Thing d → q d
def sp__law_signs (S : Sy) : DSp := fun ds W Q _ => ∃ c fs, ds = [.exn c fs] ∧ c ∈ XC ∧ Q (.lst (SG.map (signD c))) W
def sp__law_kinds (S : Sy) : DSp := fun ds W Q _ => ∃ c fs, ds = [.exn c fs] ∧ c ∈ XC ∧ Q (.lst ((kinds c).map .str)) W
def rowD (d : D) (e : Nat × Nat × Str) : D := .tup [.exn e.1 [(e.2.1, d)], .str e.2.2, d]
def INP : List (Nat × Nat × Str) := [(3, 44, "amount"), (6, 44, "limit"), (7, 44, "book"), (9, 44, "move"), (12, 44, "run"), (4, 63, "name"), (5, 63, "count"), (8, 28, "firsts"), (50, 41, "totals"), (10, 28, "ends"), (11, 23, "prices"), (51, 2, "ask"), (14, 66, "line")]
def OTH : List (Nat × Nat × Str) := [(16, 28, "noline"), (18, 26, "over"), (52, 30, "unfed"), (53, 30, "shut"), (54, 34, "known")]
def sp__law_inputs (S : Sy) : DSp := fun ds W Q _ => ∃ d, ds = [d] ∧ Q (.lst (INP.map (rowD d))) W
def sp__law_others (S : Sy) : DSp := fun ds W Q _ => ∃ d, ds = [d] ∧ Q (.lst (OTH.map (rowD d))) W
def sp__law_named_right (S : Sy) : DSp := fun ds W Q _ => ∃ d, ds = [d] ∧ Thing d ∧ Q (.bl true) W
def sp__law_pairs_right (S : Sy) : DSp := fun ds W Q _ => ∃ d e, ds = [d, e] ∧ Thing d ∧ Thing e ∧ Q (.bl true) W
end Mv
end
section
set_option Elab.async false
set_option linter.all false
set_option maxRecDepth 100000
set_option maxHeartbeats 8000000
namespace Mv
open PySem PySem.Spec L2
def t__law_pen (S : Sy) : DS := dRet (dLstM (dCons (dCB rListD (dCons (dSl (dVar 0) (dNoPart) (dPart (dC (.int 63)))) (dNil))) (dCons (dC (.int 0)) (dCons (dC (.int 0)) (dNil)))))
def t__law_draw (S : Sy) : DS := dSeq (dIfS (dTbl (dOp (tCm .none .none (fun i j => decide (j < i))) (dOp tIx (dVar 0) (dC (.int 2))) (dC (.int 0)))) (dSeq (dAsg (dOp (tMod .none) (dCB rIntD (dCons (dOp tIx (dVar 0) (dC (.int 2))) (dNil))) (dVar 1)) (gN 2)) (dSeq (dAsg (dOp (tFdiv .none) (dCB rIntD (dCons (dOp tIx (dVar 0) (dC (.int 2))) (dNil))) (dVar 1)) (gSetL (dVar 0) (dC (.int 2)))) (dRet (dVar 2)))) (dNext)) (dSeq (dAsg (dOp tIx (dVar 0) (dC (.int 1))) (gN 3)) (dSeq (dAsg (dOp (Mv.tAdd .none .none) (dVar 3) (dC (.int 1))) (gSetL (dVar 0) (dC (.int 1)))) (dSeq (dAsg (dOp (Mv.tAdd .none .none) (dOp (Mv.tMul .none .none) (dC (.int 40771)) (dVar 3)) (dC (.int 1409))) (gN 4)) (dSeq (dIfS (dTbl (dOp (rEqQ qN true 6) (dOp tIx (dVar 0) (dC (.int 0))) (dLst (dNil)))) (dAsg (dOp tIx (dOp tIx (dVar 0) (dC (.int 0))) (dOp (tMod .none) (dCB rIntD (dCons (dVar 3) (dNil))) (dCB rLenD (dCons (dOp tIx (dVar 0) (dC (.int 0))) (dNil))))) (gN 4)) (dNext)) (dSeq (dIfS (dAnd (dTbl (dOp (tCm .none .none (fun i j => decide (i < j))) (dVar 3) (dCB rLenD (dCons (dOp tIx (dVar 0) (dC (.int 0))) (dNil))))) (dTbl (dOp (tCm .none .none (fun i j => decide (j ≤ i))) (dCB rAbsD (dCons (dVar 4) (dNil))) (dOp tPow (dC (.int 10)) (dC (.int 18)))))) (dSeq (dAsg (dOp (Mv.tAdd .none .none) (dOp (Mv.tMul .none .none) (dC (.int 2)) (dOp (Mv.tSub .none .none) (dCB rAbsD (dCons (dVar 4) (dNil))) (dOp tPow (dC (.int 10)) (dC (.int 18))))) (dCB rIntD (dCons (dOp (tCm .none .none (fun i j => decide (i < j))) (dVar 4) (dC (.int 0))) (dNil)))) (gN 5)) (dSeq (dAsg (dOp (tFdiv .none) (dCB rIntD (dCons (dVar 5) (dNil))) (dVar 1)) (gSetL (dVar 0) (dC (.int 2)))) (dRet (dOp (tMod .none) (dCB rIntD (dCons (dVar 5) (dNil))) (dVar 1))))) (dNext)) (dSeq (dAsg (dOp (tMod .none) (dCB rIntD (dCons (dOp tPow (dOp (Mv.tAdd .none .none) (dOp (Mv.tAdd .none .none) (dOp (tMod .none) (dCB rIntD (dCons (dVar 4) (dNil))) (dC (.int 2147483563))) (dOp (Mv.tMul .none .none) (dC (.int 46729)) (dVar 3))) (dC (.int 431))) (dC (.int 5))) (dNil))) (dC (.int 2147483629))) (gN 6)) (dSeq (dAsg (dOp (tMod .none) (dCB rIntD (dCons (dOp tPow (dOp (Mv.tAdd .none .none) (dOp (Mv.tAdd .none .none) (dOp (Mv.tMul .none .none) (dVar 6) (dOp (Mv.tAdd .none .none) (dOp (Mv.tMul .none .none) (dC (.int 2)) (dVar 3)) (dC (.int 163)))) (dOp (Mv.tMul .none .none) (dOp (Mv.tMul .none .none) (dC (.int 52813)) (dVar 3)) (dVar 3))) (dC (.int 97))) (dC (.int 3))) (dNil))) (dC (.int 2147483587))) (gN 6)) (dRet (dOp (tMod .none) (dCB rIntD (dCons (dOp (tFdiv .none) (dVar 6) (dC (.int 32))) (dNil))) (dVar 1))))))))))
def t__law_pick (S : Sy) : DS := dRet (dOp tIx (dVar 1) (dCall 2 [] (sp__law_draw S) (dCons (dVar 0) (dCons (dCB rLenD (dCons (dVar 1) (dNil))) (dNil)))))
def t__law_value (S : Sy) : DS := dSeq (dAsg (dLst (dCons (dC .non) (dCons (dC (.bl true)) (dCons (dC (.int 0)) (dCons (dNeg (dC (.int 7))) (dCons (dOp tPow (dC (.int 10)) (dC (.int 59))) (dCons (dC (.str "")) (dCons (dC (.str "name")) (dCons (dTup (dCons (dC (.int 1)) (dCons (dC (.str "a")) (dNil)))) (dCons (dLst (dCons (dC .non) (dNil))) (dCons (dDp1K (dC (.str "a")) (dLst (dCons (dC (.int 1)) (dNil)))) (dCons (dOp rRepS (dC (.str "x")) (dC (.int 40))) (dCons (dTup (dNil)) (dNil)))))))))))))) (gN 1)) (dRet (dCall 2 [] (sp__law_pick S) (dCons (dVar 0) (dCons (dOp (Mv.tAdd .none .none) (dVar 1) (dLst (dCons (dCall 2 [] (sp__law_draw S) (dCons (dVar 0) (dCons (dOp tPow (dC (.int 10)) (dC (.int 9))) (dNil)))) (dNil)))) (dNil)))))
def t__law_signs (S : Sy) : DS := dSeq (dAsg (dLst (dCons (dTup (dCons (dC (.str "input")) (dCons (dCB (rIsX (.ptr (S.ca 2)) (lkX [(3, true), (4, true), (5, true), (6, true), (7, true), (8, true), (9, true), (50, true), (10, true), (11, true), (12, true), (51, true), (13, true), (14, true), (16, false), (17, false), (18, false), (52, false), (53, false), (54, false), (19, false), (1, false), (2, true), (15, false), (20, false), (21, false), (22, false)])) (dCons (dVar 0) (dCons (dC (.ptr (S.ca 2))) (dNil)))) (dNil)))) (dCons (dTup (dCons (dC (.str "refused")) (dCons (dCB (rIsX (.ptr (S.ca 15)) (lkX [(3, false), (4, false), (5, false), (6, false), (7, false), (8, false), (9, false), (50, false), (10, false), (11, false), (12, false), (51, false), (13, false), (14, false), (16, true), (17, true), (18, true), (52, true), (53, true), (54, true), (19, true), (1, false), (2, false), (15, true), (20, false), (21, false), (22, false)])) (dCons (dVar 0) (dCons (dC (.ptr (S.ca 15))) (dNil)))) (dNil)))) (dNil)))) (gN 1)) (dSeq (dAsg (dOp (Mv.tAdd .none .none) (dVar 1) (dLst (dCons (dTup (dCons (dC (.str "answer")) (dCons (dCB (rIsX (.ptr (S.ca 20)) (lkX [(3, false), (4, false), (5, false), (6, false), (7, false), (8, false), (9, false), (50, false), (10, false), (11, false), (12, false), (51, false), (13, false), (14, false), (16, false), (17, false), (18, false), (52, false), (53, false), (54, false), (19, false), (1, false), (2, false), (15, false), (20, true), (21, true), (22, true)])) (dCons (dVar 0) (dCons (dC (.ptr (S.ca 20))) (dNil)))) (dNil)))) (dCons (dTup (dCons (dC (.str "amount")) (dCons (dCB (rIsX (.ptr (S.ca 3)) (lkX [(3, true), (4, false), (5, false), (6, false), (7, false), (8, false), (9, false), (50, false), (10, false), (11, false), (12, false), (51, false), (13, false), (14, false), (16, false), (17, false), (18, false), (52, false), (53, false), (54, false), (19, false), (1, false), (2, false), (15, false), (20, false), (21, false), (22, false)])) (dCons (dVar 0) (dCons (dC (.ptr (S.ca 3))) (dNil)))) (dNil)))) (dNil))))) (gN 1)) (dSeq (dAsg (dOp (Mv.tAdd .none .none) (dVar 1) (dLst (dCons (dTup (dCons (dC (.str "name")) (dCons (dCB (rIsX (.ptr (S.ca 4)) (lkX [(3, false), (4, true), (5, false), (6, false), (7, false), (8, false), (9, false), (50, false), (10, false), (11, false), (12, false), (51, false), (13, false), (14, false), (16, false), (17, false), (18, false), (52, false), (53, false), (54, false), (19, false), (1, false), (2, false), (15, false), (20, false), (21, false), (22, false)])) (dCons (dVar 0) (dCons (dC (.ptr (S.ca 4))) (dNil)))) (dNil)))) (dCons (dTup (dCons (dC (.str "count")) (dCons (dCB (rIsX (.ptr (S.ca 5)) (lkX [(3, false), (4, false), (5, true), (6, false), (7, false), (8, false), (9, false), (50, false), (10, false), (11, false), (12, false), (51, false), (13, false), (14, false), (16, false), (17, false), (18, false), (52, false), (53, false), (54, false), (19, false), (1, false), (2, false), (15, false), (20, false), (21, false), (22, false)])) (dCons (dVar 0) (dCons (dC (.ptr (S.ca 5))) (dNil)))) (dNil)))) (dNil))))) (gN 1)) (dSeq (dAsg (dOp (Mv.tAdd .none .none) (dVar 1) (dLst (dCons (dTup (dCons (dC (.str "limit")) (dCons (dCB (rIsX (.ptr (S.ca 6)) (lkX [(3, false), (4, false), (5, false), (6, true), (7, false), (8, false), (9, false), (50, false), (10, false), (11, false), (12, false), (51, false), (13, false), (14, false), (16, false), (17, false), (18, false), (52, false), (53, false), (54, false), (19, false), (1, false), (2, false), (15, false), (20, false), (21, false), (22, false)])) (dCons (dVar 0) (dCons (dC (.ptr (S.ca 6))) (dNil)))) (dNil)))) (dCons (dTup (dCons (dC (.str "book")) (dCons (dCB (rIsX (.ptr (S.ca 7)) (lkX [(3, false), (4, false), (5, false), (6, false), (7, true), (8, false), (9, false), (50, false), (10, false), (11, false), (12, false), (51, false), (13, false), (14, false), (16, false), (17, false), (18, false), (52, false), (53, false), (54, false), (19, false), (1, false), (2, false), (15, false), (20, false), (21, false), (22, false)])) (dCons (dVar 0) (dCons (dC (.ptr (S.ca 7))) (dNil)))) (dNil)))) (dNil))))) (gN 1)) (dSeq (dAsg (dOp (Mv.tAdd .none .none) (dVar 1) (dLst (dCons (dTup (dCons (dC (.str "firsts")) (dCons (dCB (rIsX (.ptr (S.ca 8)) (lkX [(3, false), (4, false), (5, false), (6, false), (7, false), (8, true), (9, false), (50, false), (10, false), (11, false), (12, false), (51, false), (13, false), (14, false), (16, false), (17, false), (18, false), (52, false), (53, false), (54, false), (19, false), (1, false), (2, false), (15, false), (20, false), (21, false), (22, false)])) (dCons (dVar 0) (dCons (dC (.ptr (S.ca 8))) (dNil)))) (dNil)))) (dCons (dTup (dCons (dC (.str "move")) (dCons (dCB (rIsX (.ptr (S.ca 9)) (lkX [(3, false), (4, false), (5, false), (6, false), (7, false), (8, false), (9, true), (50, false), (10, false), (11, false), (12, false), (51, false), (13, false), (14, false), (16, false), (17, false), (18, false), (52, false), (53, false), (54, false), (19, false), (1, false), (2, false), (15, false), (20, false), (21, false), (22, false)])) (dCons (dVar 0) (dCons (dC (.ptr (S.ca 9))) (dNil)))) (dNil)))) (dNil))))) (gN 1)) (dSeq (dAsg (dOp (Mv.tAdd .none .none) (dVar 1) (dLst (dCons (dTup (dCons (dC (.str "totals")) (dCons (dCB (rIsX (.ptr (S.ca 50)) (lkX [(3, false), (4, false), (5, false), (6, false), (7, false), (8, false), (9, false), (50, true), (10, false), (11, false), (12, false), (51, false), (13, false), (14, false), (16, false), (17, false), (18, false), (52, false), (53, false), (54, false), (19, false), (1, false), (2, false), (15, false), (20, false), (21, false), (22, false)])) (dCons (dVar 0) (dCons (dC (.ptr (S.ca 50))) (dNil)))) (dNil)))) (dCons (dTup (dCons (dC (.str "ends")) (dCons (dCB (rIsX (.ptr (S.ca 10)) (lkX [(3, false), (4, false), (5, false), (6, false), (7, false), (8, false), (9, false), (50, false), (10, true), (11, false), (12, false), (51, false), (13, false), (14, false), (16, false), (17, false), (18, false), (52, false), (53, false), (54, false), (19, false), (1, false), (2, false), (15, false), (20, false), (21, false), (22, false)])) (dCons (dVar 0) (dCons (dC (.ptr (S.ca 10))) (dNil)))) (dNil)))) (dNil))))) (gN 1)) (dSeq (dAsg (dOp (Mv.tAdd .none .none) (dVar 1) (dLst (dCons (dTup (dCons (dC (.str "prices")) (dCons (dCB (rIsX (.ptr (S.ca 11)) (lkX [(3, false), (4, false), (5, false), (6, false), (7, false), (8, false), (9, false), (50, false), (10, false), (11, true), (12, false), (51, false), (13, false), (14, false), (16, false), (17, false), (18, false), (52, false), (53, false), (54, false), (19, false), (1, false), (2, false), (15, false), (20, false), (21, false), (22, false)])) (dCons (dVar 0) (dCons (dC (.ptr (S.ca 11))) (dNil)))) (dNil)))) (dCons (dTup (dCons (dC (.str "run")) (dCons (dCB (rIsX (.ptr (S.ca 12)) (lkX [(3, false), (4, false), (5, false), (6, false), (7, false), (8, false), (9, false), (50, false), (10, false), (11, false), (12, true), (51, false), (13, false), (14, false), (16, false), (17, false), (18, false), (52, false), (53, false), (54, false), (19, false), (1, false), (2, false), (15, false), (20, false), (21, false), (22, false)])) (dCons (dVar 0) (dCons (dC (.ptr (S.ca 12))) (dNil)))) (dNil)))) (dNil))))) (gN 1)) (dSeq (dAsg (dOp (Mv.tAdd .none .none) (dVar 1) (dLst (dCons (dTup (dCons (dC (.str "ask")) (dCons (dCB (rIsX (.ptr (S.ca 51)) (lkX [(3, false), (4, false), (5, false), (6, false), (7, false), (8, false), (9, false), (50, false), (10, false), (11, false), (12, false), (51, true), (13, false), (14, false), (16, false), (17, false), (18, false), (52, false), (53, false), (54, false), (19, false), (1, false), (2, false), (15, false), (20, false), (21, false), (22, false)])) (dCons (dVar 0) (dCons (dC (.ptr (S.ca 51))) (dNil)))) (dNil)))) (dCons (dTup (dCons (dC (.str "text")) (dCons (dCB (rIsX (.ptr (S.ca 13)) (lkX [(3, false), (4, false), (5, false), (6, false), (7, false), (8, false), (9, false), (50, false), (10, false), (11, false), (12, false), (51, false), (13, true), (14, false), (16, false), (17, false), (18, false), (52, false), (53, false), (54, false), (19, false), (1, false), (2, false), (15, false), (20, false), (21, false), (22, false)])) (dCons (dVar 0) (dCons (dC (.ptr (S.ca 13))) (dNil)))) (dNil)))) (dNil))))) (gN 1)) (dSeq (dAsg (dOp (Mv.tAdd .none .none) (dVar 1) (dLst (dCons (dTup (dCons (dC (.str "line")) (dCons (dCB (rIsX (.ptr (S.ca 14)) (lkX [(3, false), (4, false), (5, false), (6, false), (7, false), (8, false), (9, false), (50, false), (10, false), (11, false), (12, false), (51, false), (13, false), (14, true), (16, false), (17, false), (18, false), (52, false), (53, false), (54, false), (19, false), (1, false), (2, false), (15, false), (20, false), (21, false), (22, false)])) (dCons (dVar 0) (dCons (dC (.ptr (S.ca 14))) (dNil)))) (dNil)))) (dCons (dTup (dCons (dC (.str "noline")) (dCons (dCB (rIsX (.ptr (S.ca 16)) (lkX [(3, false), (4, false), (5, false), (6, false), (7, false), (8, false), (9, false), (50, false), (10, false), (11, false), (12, false), (51, false), (13, false), (14, false), (16, true), (17, false), (18, false), (52, false), (53, false), (54, false), (19, false), (1, false), (2, false), (15, false), (20, false), (21, false), (22, false)])) (dCons (dVar 0) (dCons (dC (.ptr (S.ca 16))) (dNil)))) (dNil)))) (dNil))))) (gN 1)) (dSeq (dAsg (dOp (Mv.tAdd .none .none) (dVar 1) (dLst (dCons (dTup (dCons (dC (.str "nopair")) (dCons (dCB (rIsX (.ptr (S.ca 17)) (lkX [(3, false), (4, false), (5, false), (6, false), (7, false), (8, false), (9, false), (50, false), (10, false), (11, false), (12, false), (51, false), (13, false), (14, false), (16, false), (17, true), (18, false), (52, false), (53, false), (54, false), (19, false), (1, false), (2, false), (15, false), (20, false), (21, false), (22, false)])) (dCons (dVar 0) (dCons (dC (.ptr (S.ca 17))) (dNil)))) (dNil)))) (dCons (dTup (dCons (dC (.str "over")) (dCons (dCB (rIsX (.ptr (S.ca 18)) (lkX [(3, false), (4, false), (5, false), (6, false), (7, false), (8, false), (9, false), (50, false), (10, false), (11, false), (12, false), (51, false), (13, false), (14, false), (16, false), (17, false), (18, true), (52, false), (53, false), (54, false), (19, false), (1, false), (2, false), (15, false), (20, false), (21, false), (22, false)])) (dCons (dVar 0) (dCons (dC (.ptr (S.ca 18))) (dNil)))) (dNil)))) (dNil))))) (gN 1)) (dSeq (dAsg (dOp (Mv.tAdd .none .none) (dVar 1) (dLst (dCons (dTup (dCons (dC (.str "unfed")) (dCons (dCB (rIsX (.ptr (S.ca 52)) (lkX [(3, false), (4, false), (5, false), (6, false), (7, false), (8, false), (9, false), (50, false), (10, false), (11, false), (12, false), (51, false), (13, false), (14, false), (16, false), (17, false), (18, false), (52, true), (53, false), (54, false), (19, false), (1, false), (2, false), (15, false), (20, false), (21, false), (22, false)])) (dCons (dVar 0) (dCons (dC (.ptr (S.ca 52))) (dNil)))) (dNil)))) (dCons (dTup (dCons (dC (.str "shut")) (dCons (dCB (rIsX (.ptr (S.ca 53)) (lkX [(3, false), (4, false), (5, false), (6, false), (7, false), (8, false), (9, false), (50, false), (10, false), (11, false), (12, false), (51, false), (13, false), (14, false), (16, false), (17, false), (18, false), (52, false), (53, true), (54, false), (19, false), (1, false), (2, false), (15, false), (20, false), (21, false), (22, false)])) (dCons (dVar 0) (dCons (dC (.ptr (S.ca 53))) (dNil)))) (dNil)))) (dNil))))) (gN 1)) (dSeq (dAsg (dOp (Mv.tAdd .none .none) (dVar 1) (dLst (dCons (dTup (dCons (dC (.str "known")) (dCons (dCB (rIsX (.ptr (S.ca 54)) (lkX [(3, false), (4, false), (5, false), (6, false), (7, false), (8, false), (9, false), (50, false), (10, false), (11, false), (12, false), (51, false), (13, false), (14, false), (16, false), (17, false), (18, false), (52, false), (53, false), (54, true), (19, false), (1, false), (2, false), (15, false), (20, false), (21, false), (22, false)])) (dCons (dVar 0) (dCons (dC (.ptr (S.ca 54))) (dNil)))) (dNil)))) (dCons (dTup (dCons (dC (.str "many")) (dCons (dCB (rIsX (.ptr (S.ca 19)) (lkX [(3, false), (4, false), (5, false), (6, false), (7, false), (8, false), (9, false), (50, false), (10, false), (11, false), (12, false), (51, false), (13, false), (14, false), (16, false), (17, false), (18, false), (52, false), (53, false), (54, false), (19, true), (1, false), (2, false), (15, false), (20, false), (21, false), (22, false)])) (dCons (dVar 0) (dCons (dC (.ptr (S.ca 19))) (dNil)))) (dNil)))) (dNil))))) (gN 1)) (dRet (dOp (Mv.tAdd .none .none) (dVar 1) (dLst (dCons (dTup (dCons (dC (.str "deed")) (dCons (dCB (rIsX (.ptr (S.ca 21)) (lkX [(3, false), (4, false), (5, false), (6, false), (7, false), (8, false), (9, false), (50, false), (10, false), (11, false), (12, false), (51, false), (13, false), (14, false), (16, false), (17, false), (18, false), (52, false), (53, false), (54, false), (19, false), (1, false), (2, false), (15, false), (20, false), (21, true), (22, false)])) (dCons (dVar 0) (dCons (dC (.ptr (S.ca 21))) (dNil)))) (dNil)))) (dCons (dTup (dCons (dC (.str "budget")) (dCons (dCB (rIsX (.ptr (S.ca 22)) (lkX [(3, false), (4, false), (5, false), (6, false), (7, false), (8, false), (9, false), (50, false), (10, false), (11, false), (12, false), (51, false), (13, false), (14, false), (16, false), (17, false), (18, false), (52, false), (53, false), (54, false), (19, false), (1, false), (2, false), (15, false), (20, false), (21, false), (22, true)])) (dCons (dVar 0) (dCons (dC (.ptr (S.ca 22))) (dNil)))) (dNil)))) (dNil)))))))))))))))))
def t__law_kinds (S : Sy) : DS := dRet (dIf (dTst (dCB (rIsX (.ptr (S.ca 1)) (lkX [(3, true), (4, true), (5, true), (6, true), (7, true), (8, true), (9, true), (50, true), (10, true), (11, true), (12, true), (51, true), (13, true), (14, true), (16, true), (17, true), (18, true), (52, true), (53, true), (54, true), (19, true), (1, true), (2, true), (15, true), (20, true), (21, true), (22, true)])) (dCons (dVar 0) (dCons (dC (.ptr (S.ca 1))) (dNil))))) (dLc (iSq (dCall 1 [] (sp__law_signs S) (dCons (dVar 0) (dNil)))) (gTp 2 (gNs (gN 1) (gNs (gN 2) (gN0)))) (dTst (dVar 2)) (dVar 1) [1, 2]) (dC .non))
def t__law_inputs (S : Sy) : DS := dSeq (dAsg (dLst (dCons (dTup (dCons (dNewX 3 [44] (dCons (dVar 0) (dNil))) (dCons (dC (.str "amount")) (dNil)))) (dCons (dTup (dCons (dNewXK 6 1 [44] [0] (dCons (dVar 0) (dNil))) (dCons (dC (.str "limit")) (dNil)))) (dCons (dTup (dCons (dNewX 7 [44] (dCons (dVar 0) (dNil))) (dCons (dC (.str "book")) (dNil)))) (dNil))))) (gN 1)) (dSeq (dAsg (dOp (Mv.tAdd .none .none) (dVar 1) (dLst (dCons (dTup (dCons (dNewXK 9 1 [44] [0] (dCons (dVar 0) (dNil))) (dCons (dC (.str "move")) (dNil)))) (dCons (dTup (dCons (dNewX 12 [44] (dCons (dVar 0) (dNil))) (dCons (dC (.str "run")) (dNil)))) (dNil))))) (gN 1)) (dSeq (dAsg (dLc (iSq (dVar 1)) (gTp 2 (gNs (gN 3) (gNs (gN 4) (gN0)))) (dYes) (dTup (dCons (dVar 3) (dCons (dVar 4) (dCons (dXat [3, 6, 7, 9, 12] 44 (dVar 3)) (dNil))))) [3, 4]) (gN 2)) (dSeq (dPar3 5 6 7 (dCons (dNewXK 4 1 [63] [0] (dCons (dVar 0) (dNil))) (dCons (dNewX 5 [63] (dCons (dVar 0) (dNil))) (dCons (dNewXK 8 1 [28] [0] (dCons (dVar 0) (dNil))) (dNil))))) (dSeq (dAsg (dOp (Mv.tAdd .none .none) (dVar 2) (dLst (dCons (dTup (dCons (dVar 5) (dCons (dC (.str "name")) (dCons (dXat [4, 5] 63 (dVar 5)) (dNil))))) (dCons (dTup (dCons (dVar 6) (dCons (dC (.str "count")) (dCons (dXat [4, 5] 63 (dVar 6)) (dNil))))) (dCons (dTup (dCons (dVar 7) (dCons (dC (.str "firsts")) (dCons (dXat [8, 10, 13, 16] 28 (dVar 7)) (dNil))))) (dNil)))))) (gN 2)) (dSeq (dPar3 5 6 7 (dCons (dNewXK 50 1 [41] [0] (dCons (dVar 0) (dNil))) (dCons (dNewX 10 [28] (dCons (dVar 0) (dNil))) (dCons (dNewXK 11 1 [23] [0] (dCons (dVar 0) (dNil))) (dNil))))) (dSeq (dAsg (dOp (Mv.tAdd .none .none) (dVar 2) (dLst (dCons (dTup (dCons (dVar 5) (dCons (dC (.str "totals")) (dCons (dXat [50] 41 (dVar 5)) (dNil))))) (dCons (dTup (dCons (dVar 6) (dCons (dC (.str "ends")) (dCons (dXat [8, 10, 13, 16] 28 (dVar 6)) (dNil))))) (dCons (dTup (dCons (dVar 7) (dCons (dC (.str "prices")) (dCons (dXat [11] 23 (dVar 7)) (dNil))))) (dNil)))))) (gN 2)) (dSeq (dPar 5 6 (dCons (dNewXK 51 1 [2] [0] (dCons (dVar 0) (dNil))) (dCons (dNewXK 14 1 [66] [0] (dCons (dVar 0) (dNil))) (dNil)))) (dRet (dOp (Mv.tAdd .none .none) (dVar 2) (dLst (dCons (dTup (dCons (dVar 5) (dCons (dC (.str "ask")) (dCons (dXat [51] 2 (dVar 5)) (dNil))))) (dCons (dTup (dCons (dVar 6) (dCons (dC (.str "line")) (dCons (dXat [13, 14] 66 (dVar 6)) (dNil))))) (dNil)))))))))))))
def t__law_others (S : Sy) : DS := dSeq (dPar3 1 2 3 (dCons (dNewXK 16 1 [28] [0] (dCons (dVar 0) (dNil))) (dCons (dNewX 18 [26] (dCons (dVar 0) (dNil))) (dCons (dNewXK 52 1 [30] [0] (dCons (dVar 0) (dNil))) (dNil))))) (dSeq (dAsg (dLst (dCons (dTup (dCons (dVar 1) (dCons (dC (.str "noline")) (dCons (dXat [8, 10, 13, 16] 28 (dVar 1)) (dNil))))) (dCons (dTup (dCons (dVar 2) (dCons (dC (.str "over")) (dCons (dXat [18] 26 (dVar 2)) (dNil))))) (dCons (dTup (dCons (dVar 3) (dCons (dC (.str "unfed")) (dCons (dXat [52, 53] 30 (dVar 3)) (dNil))))) (dNil))))) (gN 4)) (dSeq (dPar 1 2 (dCons (dNewX 53 [30] (dCons (dVar 0) (dNil))) (dCons (dNewXK 54 1 [34] [0] (dCons (dVar 0) (dNil))) (dNil)))) (dRet (dOp (Mv.tAdd .none .none) (dVar 4) (dLst (dCons (dTup (dCons (dVar 1) (dCons (dC (.str "shut")) (dCons (dXat [52, 53] 30 (dVar 1)) (dNil))))) (dCons (dTup (dCons (dVar 2) (dCons (dC (.str "known")) (dCons (dXat [54] 34 (dVar 2)) (dNil))))) (dNil))))))))
def t__law_named_right (S : Sy) : DS := dSeq (dAsg (dLst (dCons (dXat [3, 6, 7, 9, 12] 44 (dNewXK 3 1 [44] [0] (dCons (dVar 0) (dNil)))) (dCons (dXat [3, 6, 7, 9, 12] 44 (dNewXK 7 1 [44] [0] (dCons (dVar 0) (dNil)))) (dCons (dXat [3, 6, 7, 9, 12] 44 (dNewXK 12 1 [44] [0] (dCons (dVar 0) (dNil)))) (dCons (dXat [4, 5] 63 (dNewXK 5 1 [63] [0] (dCons (dVar 0) (dNil)))) (dNil)))))) (gN 1)) (dSeq (dAsg (dOp (Mv.tAdd .none .none) (dVar 1) (dLst (dCons (dXat [8, 10, 13, 16] 28 (dNewXK 10 1 [28] [0] (dCons (dVar 0) (dNil)))) (dCons (dXat [18] 26 (dNewXK 18 1 [26] [0] (dCons (dVar 0) (dNil)))) (dCons (dXat [52, 53] 30 (dNewXK 53 1 [30] [0] (dCons (dVar 0) (dNil)))) (dNil)))))) (gN 1)) (dSeq (dAsg (dOp (Mv.tAdd .none .none) (dVar 1) (dLst (dCons (dXat [4, 5] 63 (dNewX 4 [63] (dCons (dVar 0) (dNil)))) (dCons (dXat [8, 10, 13, 16] 28 (dNewX 8 [28] (dCons (dVar 0) (dNil)))) (dCons (dXat [50] 41 (dNewX 50 [41] (dCons (dVar 0) (dNil)))) (dCons (dXat [11] 23 (dNewX 11 [23] (dCons (dVar 0) (dNil)))) (dNil))))))) (gN 1)) (dSeq (dAsg (dOp (Mv.tAdd .none .none) (dVar 1) (dLst (dCons (dXat [3, 6, 7, 9, 12] 44 (dNewX 6 [44] (dCons (dVar 0) (dNil)))) (dCons (dXat [3, 6, 7, 9, 12] 44 (dNewX 9 [44] (dCons (dVar 0) (dNil)))) (dCons (dXat [51] 2 (dNewX 51 [2] (dCons (dVar 0) (dNil)))) (dCons (dXat [13, 14] 66 (dNewX 14 [66] (dCons (dVar 0) (dNil)))) (dCons (dXat [8, 10, 13, 16] 28 (dNewX 16 [28] (dCons (dVar 0) (dNil)))) (dNil)))))))) (gN 1)) (dSeq (dAsg (dOp (Mv.tAdd .none .none) (dVar 1) (dLst (dCons (dXat [52, 53] 30 (dNewX 52 [30] (dCons (dVar 0) (dNil)))) (dCons (dXat [54] 34 (dNewX 54 [34] (dCons (dVar 0) (dNil)))) (dNil))))) (gN 1)) (dRet (dOp (rEqQ qN false 6) (dLc (iSq (dVar 1)) (gN 2) (dTbl (dOp (rEqQ qN true 6) (dCB rReprE (dCons (dVar 2) (dNil))) (dCB rReprE (dCons (dVar 0) (dNil))))) (dVar 2) [2]) (dLst (dNil))))))))
def t__law_pairs_right (S : Sy) : DS := dSeq (dAsg (dLstM (dNil)) (gN 2)) (dSeq (dFor (iSq (dLst (dCons (dNewX 13 [28, 66] (dCons (dVar 0) (dCons (dVar 1) (dNil)))) (dCons (dNewXK 13 2 [28, 66] [1, 0] (dCons (dVar 1) (dCons (dVar 0) (dNil)))) (dNil))))) (gN 3) (dSeq (dDrop (dBM "list" mAppend (dVar 2) (dCons (dOp (rEqQ qN false 6) (dCall 1 [] (sp__law_kinds S) (dCons (dVar 3) (dNil))) (dLst (dCons (dC (.str "input")) (dCons (dC (.str "text")) (dNil))))) (dNil)))) (dDrop (dBM "list" mAppend (dVar 2) (dCons (dOp (rEqQ qN false 6) (dCB rReprE (dCons (dLst (dCons (dXat [8, 10, 13, 16] 28 (dVar 3)) (dCons (dXat [13, 14] 66 (dVar 3)) (dNil)))) (dNil))) (dCB rReprE (dCons (dLst (dCons (dVar 0) (dCons (dVar 1) (dNil)))) (dNil)))) (dNil)))))) (dSeq (dFor (iSq (dLst (dCons (dNewX 17 [16, 56] (dCons (dVar 0) (dCons (dVar 1) (dNil)))) (dCons (dNewXK 17 2 [16, 56] [1, 0] (dCons (dVar 1) (dCons (dVar 0) (dNil)))) (dNil))))) (gN 4) (dSeq (dDrop (dBM "list" mAppend (dVar 2) (dCons (dOp (rEqQ qN false 6) (dCall 1 [] (sp__law_kinds S) (dCons (dVar 4) (dNil))) (dLst (dCons (dC (.str "refused")) (dCons (dC (.str "nopair")) (dNil))))) (dNil)))) (dDrop (dBM "list" mAppend (dVar 2) (dCons (dOp (rEqQ qN false 6) (dCB rReprE (dCons (dLst (dCons (dXat [17] 16 (dVar 4)) (dCons (dXat [17] 56 (dVar 4)) (dNil)))) (dNil))) (dCB rReprE (dCons (dLst (dCons (dVar 0) (dCons (dVar 1) (dNil)))) (dNil)))) (dNil)))))) (dSeq (dFor (iSq (dLst (dCons (dNewX 19 [65, 32] (dCons (dVar 0) (dCons (dVar 1) (dNil)))) (dCons (dNewXK 19 2 [65, 32] [1, 0] (dCons (dVar 1) (dCons (dVar 0) (dNil)))) (dNil))))) (gN 5) (dAsg (dOp (Mv.tAdd .none .none) (dFzL (dVar 2)) (dLst (dCons (dOp (rEqQ qN false 6) (dCall 1 [] (sp__law_kinds S) (dCons (dVar 5) (dNil))) (dLst (dCons (dC (.str "refused")) (dCons (dC (.str "many")) (dNil))))) (dCons (dOp (rEqQ qN false 6) (dCB rReprE (dCons (dLst (dCons (dXat [19] 65 (dVar 5)) (dCons (dXat [19] 32 (dVar 5)) (dNil)))) (dNil))) (dCB rReprE (dCons (dLst (dCons (dVar 0) (dCons (dVar 1) (dNil)))) (dNil)))) (dNil))))) (gN 2))) (dRet (dOp (tIn qN true 6) (dC (.bl false)) (dFzL (dVar 2)))))))
def t_law (S : Sy) : DS := dSeq (dAsg (dCall 1 [] (sp__law_pen S) (dCons (dVar 0) (dNil))) (gN 1)) (dSeq (dFor (iRng1d (dCons (dC (.int 6)) (dNil))) (gN 2) (dSeq (dPar 3 4 (dCons (dCall 1 [] (sp__law_value S) (dCons (dVar 1) (dNil))) (dCons (dCall 1 [] (sp__law_value S) (dCons (dVar 1) (dNil))) (dNil)))) (dSeq (dFor (iSq (dLst (dCons (dTup (dCons (dC (.str "input")) (dCons (dCall 1 [] (sp__law_inputs S) (dCons (dVar 3) (dNil))) (dNil)))) (dCons (dTup (dCons (dC (.str "refused")) (dCons (dCall 1 [] (sp__law_others S) (dCons (dVar 3) (dNil))) (dNil)))) (dNil))))) (gTp 2 (gNs (gN 5) (gNs (gN 6) (gN0)))) (dFor (iSq (dVar 6)) (gTp 3 (gNs (gN 7) (gNs (gN 8) (gNs (gN 9) (gN0))))) (dIfS (dOr (dTbl (dOp (rEqQ qN true 6) (dCB rReprE (dCons (dVar 9) (dNil))) (dCB rReprE (dCons (dVar 3) (dNil))))) (dTbl (dOp (rEqQ qN true 6) (dCall 1 [] (sp__law_kinds S) (dCons (dVar 7) (dNil))) (dLst (dCons (dVar 5) (dCons (dVar 8) (dNil))))))) (dRet (dC (.bl false))) (dNext)))) (dIfS (dOr (dNot (dTst (dCall 2 [] (sp__law_pairs_right S) (dCons (dVar 3) (dCons (dVar 4) (dNil)))))) (dNot (dTst (dCall 1 [] (sp__law_named_right S) (dCons (dVar 3) (dNil)))))) (dRet (dC (.bl false))) (dNext))))) (dSeq (dIfS (dOr (dTbl (dOp (rEqQ qN true 6) (dCall 1 [] (sp__law_kinds S) (dCons (dNewX0 21) (dNil))) (dLst (dCons (dC (.str "answer")) (dCons (dC (.str "deed")) (dNil)))))) (dTbl (dOp (rEqQ qN true 6) (dCall 1 [] (sp__law_kinds S) (dCons (dNewX0 22) (dNil))) (dLst (dCons (dC (.str "answer")) (dCons (dC (.str "budget")) (dNil))))))) (dRet (dC (.bl false))) (dNext)) (dSeq (dAsg (dLst (dCons (dCall 1 [] (sp__law_kinds S) (dCons (dNewX0 1) (dNil))) (dCons (dCall 1 [] (sp__law_kinds S) (dCons (dNewX0 2) (dNil))) (dCons (dCall 1 [] (sp__law_kinds S) (dCons (dNewX0 15) (dNil))) (dCons (dCall 1 [] (sp__law_kinds S) (dCons (dNewX0 20) (dNil))) (dNil)))))) (gN 10)) (dRet (dAndV (dOp (rEqQ qN false 6) (dVar 10) (dLst (dCons (dLst (dNil)) (dCons (dLst (dCons (dC (.str "input")) (dNil))) (dCons (dLst (dCons (dC (.str "refused")) (dNil))) (dCons (dLst (dCons (dC (.str "answer")) (dNil))) (dNil))))))) (dCB (rIsX (.ty "ValueError") (lkX [(3, true), (4, true), (5, true), (6, true), (7, true), (8, true), (9, true), (50, true), (10, true), (11, true), (12, true), (51, true), (13, true), (14, true), (16, true), (17, true), (18, true), (52, true), (53, true), (54, true), (19, true), (1, true), (2, true), (15, true), (20, true), (21, true), (22, true)])) (dCons (dNewX0 1) (dCons (dC (.ty "ValueError")) (dNil)))))))))
end Mv
end
section
set_option Elab.async false
set_option linter.all false
set_option maxRecDepth 100000
set_option maxHeartbeats 2000000
namespace Mv
open PySem PySem.Spec L2
def Ev (t : DE) (sd : SD) (W : Wd) (d : D) : Prop := ∀ (Q : QD) (E : QX), Q d W → t sd W Q E
def Eb (t : DT) (sd : SD) (W : Wd) (b : Bool) : Prop := ∀ (Q : Bool → Wd → Prop) (E : QX), Q b W → t sd W Q E
def El (t : DA) (sd : SD) (W : Wd) (ds : List D) : Prop := ∀ (Q : List D → Wd → Prop) (E : QX), Q ds W → t sd W Q E
section
variable {S : Sy} {sd : SD} {W : Wd} {a b t u : DE} {c d e : D} {ta : DA} {ds : List D} {x y : DT}
theorem Ev.v {i : Nat} (h : sd[i]? = some (some d) := by rfl) : Ev (dVar i) sd W d := fun Q E q => ⟨d, h, q⟩
theorem Ev.k : Ev (dC d) sd W d := fun Q E q => q
theorem El.n : El dNil sd W [] := fun Q E q => q
theorem El.k {ts : DA} (h : Ev t sd W d) (g : El ts sd W ds) : El (dCons t ts) sd W (d :: ds) := fun Q E q => h _ _ (g _ _ q)
theorem El.one (h : Ev t sd W d) : El (dCons t dNil) sd W [d] := .k h .n
theorem El.two (h : Ev t sd W d) (g : Ev u sd W e) : El (dCons t (dCons u dNil)) sd W [d, e] := .k h (.one g)
theorem Ev.tup (h : El ta sd W ds) (hl : ds.length ≤ 1000 := by exact Nat.le_of_ble_eq_true rfl) : Ev (dTup ta) sd W (.tup ds) := fun Q E q => h _ _ ⟨hl, q⟩
theorem Ev.lst (h : El ta sd W ds) (hl : ds.length ≤ 1000 := by exact Nat.le_of_ble_eq_true rfl) : Ev (dLst ta) sd W (.lst ds) := fun Q E q => h _ _ ⟨hl, q⟩
theorem Ev.op {o : D2} (ha : Ev a sd W c) (hb : Ev b sd W d) (hr : ∀ Q E, Q e W → o c d sd W Q E) : Ev (dOp o a b) sd W e := fun Q E q => ha _ _ (hb _ _ (hr Q E q))
theorem Ev.addL {M MR : Mts} {l m : List D} (ha : Ev a sd W (.lst l)) (hb : Ev b sd W (.lst m)) (h : l.length + m.length ≤ 1000000 := by exact Nat.le_of_ble_eq_true rfl) : Ev (dOp (Mv.tAdd M MR) a b) sd W (.lst (l ++ m)) := .op ha hb fun Q E q => ⟨h, q⟩
theorem Ev.eq {cl : EqI} {ne v : Bool} (ha : Ev a sd W c) (hb : Ev b sd W d) (h : eqD cl c d = some v) (hd : c.dp ≤ 6) : Ev (dOp (rEqQ cl ne 6) a b) sd W (.bl (if ne = true then !v else v)) := .op ha hb fun Q E q => by
  refine ⟨hd, ?_⟩
  rw [h]
  exact q
theorem Eb.tbl {v : Bool} (h : Ev t sd W (.bl v)) : Eb (dTbl t) sd W v := fun Q E q => h _ _ q
theorem Eb.tst {v : Bool} (h : Ev t sd W (.bl v)) : Eb (dTst t) sd W v := fun Q E q => h _ _ q
theorem Eb.not {v : Bool} (h : Eb x sd W v) : Eb (dNot x) sd W (!v) := fun Q E q => h _ _ q
theorem Eb.or_f (h : Eb x sd W false) (g : Eb y sd W false) : Eb (dOr x y) sd W false := fun Q E q => h _ _ (g _ _ q)
theorem Eb.yes : Eb dYes sd W true := fun Q E q => q
theorem Ev.iteT (h : Eb x sd W true) (g : Ev a sd W c) : Ev (dIf x a b) sd W c := fun Q E q => h _ _ (g _ _ q)
theorem dfl_n {n : Nat} {l : List Mv.D} {k : List Mv.D → Prop} (hn : l.length = n) (h : k l) : dfl n [] l k := ⟨Nat.le_of_eq hn, Nat.le_of_eq (by rw [hn, List.length_nil, Nat.add_zero]), by simpa using h⟩
theorem Ev.call {n : Nat} {sp : DSp} (ha : El ta sd W ds) (h : ∀ (Q : QD) (E : QD), Q d W → sp ds W Q E) (hn : ds.length = n := by rfl) : Ev (dCall n [] sp ta) sd W d := fun Q E q => ha _ _ (dfl_n (k := fun ds => sp ds W Q fun d W' => E d sd W') hn (h _ _ q))
theorem comp_go {α : Type} {p : Addr} {W0 : Wd} {ok : Wd → Prop} {g : DG} {tt : DT} {te : DE} {sd0 : SD} {K : List Mv.D → Wd → Prop} {E : QX} {h : α → Mv.D} {P : α → Bool} {f : α → Mv.D} (hok : ∀ W, ok W) : ∀ (ys : List α) (acc : List Mv.D) (W : Wd), (∀ y, y ∈ ys → ∀ (W : Wd) (K1 : QD) (K0 : Wd → Prop), (if P y = true then K1 (f y) W else K0 W) → g (h y) sd0 W (fun sd1 W1 => tt sd1 W1 (fun b W2 => if b = true then te sd1 W2 K1 E2F else K0 W2) E2F)) → acc.length + ys.length ≤ 1000000 → W p = some (.lst acc) → K (acc ++ (ys.filter P).map f) (put W p (.lst (acc ++ (ys.filter P).map f))) → compD p ok g tt te sd0 K (ys.map h) acc W
  | [], acc, W, _, _, hW, hK => by
    refine ⟨hok W, hW, ?_⟩
    rw [List.filter_nil, List.map_nil, List.append_nil, put_get hW] at hK
    exact hK
  | y :: ys, acc, W, hg, hl, hW, hK => by
    have hl' : acc.length + (ys.length + 1) ≤ 1000000 := hl
    refine ⟨hok W, hg y (List.mem_cons_self ..) W _ _ ?_⟩
    cases hp : P y with
    | true =>
      rw [List.filter_cons_of_pos hp] at hK
      rw [if_pos rfl]
      refine ⟨hW, by omega, comp_go (E := E) (W0 := W0) hok ys (acc ++ [f y]) _ (fun x hx => hg x (List.mem_cons_of_mem _ hx)) (by simp; omega) put_same ?_⟩
      rw [List.append_assoc, put_put]
      exact hK
    | false =>
      rw [List.filter_cons_of_neg (by rw [hp]; decide)] at hK
      rw [if_neg (by decide)]
      exact comp_go (E := E) (W0 := W0) hok ys acc _ (fun x hx => hg x (List.mem_cons_of_mem _ hx)) (by omega) hW hK
theorem Ev.lc {α : Type} {ti : DI} {g : DG} {tt : DT} {te : DE} {vs : List Nat} {xs : List α} {h : α → D} {P : α → Bool} {f : α → D} (hi : ∀ (Q : LiD → Wd → Prop) (E : QX), Q ⟨xs.map h, none⟩ W → ti sd W Q E)
    (he : ∀ x ∈ xs, ∀ (W : Wd) (K1 : QD) (K0 : Wd → Prop), (if P x = true then K1 (f x) W else K0 W) → g (h x) (wipeD sd vs) W (fun sd1 W1 => tt sd1 W1 (fun b W2 => if b = true then te sd1 W2 K1 E2F else K0 W2) E2F)) (hl : xs.length ≤ 1000000) : Ev (dLc ti g tt te vs) sd W (.lst ((xs.filter P).map f)) := fun Q E q => by
  show ti sd W (fun l W1 => ∀ p, W1 p = none → compD p l.ok g tt te (wipeD sd vs) (fun acc W2 => Q (.lst acc) (cut W2 p)) l.items [] (put W1 p (.lst []))) E
  refine hi _ _ fun p hp => ?_
  refine comp_go (E := E) (W0 := W) (P := P) (f := f) (fun _ => trivial) xs [] _ he (by simpa using hl) put_same ?_
  rw [List.nil_append, put_put, cut_put hp]
  exact q
theorem iSq_v {t : DE} {xs : List D} {Q : LiD → Wd → Prop} {E : QX} (h : Ev t sd W (.lst xs)) (q : Q ⟨xs, none⟩ W) : iSq t sd W Q E := h _ _ q
section
variable {D : DEnds} {E : QX} {s : DS} {i : Nat}
theorem St.asg (h : Ev t sd W d) (k : s D (sd.set i (some d)) W E) : dSeq (dAsg t (gN i)) s D sd W E := h _ _ k
theorem St.pass (h : Eb x sd W false) {z : DS} (k : s D sd W E) : dSeq (dIfS x z dNext) s D sd W E := h _ _ k
theorem St.pass0 (h : Eb x sd W false) {z : DS} (k : D.nx sd W) : dIfS x z dNext D sd W E := h _ _ k
theorem St.par {i j : Nat} (h : Ev a sd W c) (g : Ev b sd W d) (k : s D ((sd.set i (some c)).set j (some d)) W E) : dSeq (dPar i j (dCons a (dCons b dNil))) s D sd W E := h _ _ (g _ _ k)
theorem St.par3 {i j l : Nat} (h : Ev a sd W c) (g : Ev b sd W d) (f : Ev t sd W e) (k : s D (((sd.set i (some c)).set j (some d)).set l (some e)) W E) : dSeq (dPar3 i j l (dCons a (dCons b (dCons t dNil)))) s D sd W E := h _ _ (g _ _ (f _ _ k))
theorem St.ret (h : Ev t sd W d) (k : D.rt d W) : dRet t D sd W E := h _ _ k
theorem dFor_all {α : Type} {ti : DI} {g : DG} {tb : DS} {xs : List α} {h : α → Mv.D} {I : SD → Wd → Prop} (hi : ∀ (Q : LiD → Wd → Prop) (E : QX), Q ⟨xs.map h, none⟩ W → ti sd W Q E)
    (hs : ∀ x ∈ xs, ∀ sd' W', I sd' W' → ∀ K : SD → Wd → Prop, (∀ sd'' W'', I sd'' W'' → K sd'' W'') → g (h x) sd' W' (fun sd1 W1 => tb { D with nx := K, ct := K, bk := D.nx } sd1 W1 E)) (h0 : I sd W) (hD : ∀ sd' W', I sd' W' → D.nx sd' W') : dFor ti g tb D sd W E := by
  refine hi _ _ ?_
  have go : ∀ (ys : List α), (∀ y ∈ ys, y ∈ xs) → ∀ sd' W', I sd' W' → loopD (LiD.ok ⟨xs.map h, none⟩) g tb D E (ys.map h) sd' W' := by
    intro ys
    induction ys with
    | nil => intro _ sd' W' hI; exact ⟨trivial, hD _ _ hI⟩
    | cons y ys ih =>
      intro hm sd' W' hI
      exact ⟨trivial, hs y (hm y (List.mem_cons_self ..)) sd' W' hI _ fun sd'' W'' hI' => ih (fun z hz => hm z (List.mem_cons_of_mem _ hz)) sd'' W'' hI'⟩
  exact go xs (fun y hy => hy) sd W h0
end
theorem Ev.nx {k : Nat} {ns : List Nat} {fs : List (Nat × D)} (h : El ta sd W ds) (hf : rsF ns ds = some fs := by rfl) : Ev (dNewX k ns ta) sd W (.exn k fs) := fun Q E q => h _ _ (by rw [hf]; exact q)
theorem Ev.nk {k m : Nat} {ns l : List Nat} {fs : List (Nat × D)} (h : El ta sd W ds) (hl : ds.length = m := by rfl) (hf : rsF ns (pk .non l ds) = some fs := by rfl) : Ev (dNewXK k m ns l ta) sd W (.exn k fs) := fun Q E q => h _ _ ⟨hl, by rw [hf]; exact q⟩
theorem Ev.n0 {k : Nat} : Ev (dNewX0 k) sd W (.exn k []) := fun Q E q => q
theorem Ev.xat {l : List Nat} {i k : Nat} {fs : List (Nat × D)} (h : Ev a sd W (.exn k fs)) (hc : k ∈ l := by decide) (hf : fs.lookup i = some d := by rfl) : Ev (dXat l i a) sd W d := fun Q E q => h _ _ ⟨hc, by rw [hf]; exact q⟩
theorem Ev.isx {z : D} {f : Nat → Option Bool} {k : Nat} {fs : List (Nat × D)} {v : Bool} (h : Ev a sd W (.exn k fs)) (hf : f k = some v) : Ev (dCB (rIsX z f) (dCons a (dCons (dC z) dNil))) sd W (.bl v) := fun Q E q => h _ _ ⟨rfl, by
  show kSome (f k) _
  rw [hf]
  exact q⟩
theorem lk_ok {l : List (Nat × Bool)} {k c : Nat} (hc : c ∈ XC) (h : (XC.all fun c => lkX l c == some (xsub c k)) = true) : lkX l c = some (xsub c k) := beq_iff_eq.mp (List.all_eq_true.mp h c hc)
theorem Ev.isk {z : D} {l : List (Nat × Bool)} {k c : Nat} {fs : List (Nat × D)} (hc : c ∈ XC) (h : (XC.all fun c => lkX l c == some (xsub c k)) = true) (g : Ev a sd W (.exn c fs)) : Ev (dCB (rIsX z (lkX l)) (dCons a (dCons (dC z) dNil))) sd W (.bl (xsub c k)) := .isx g (lk_ok hc h)
theorem Ev.isk' {z : D} {l : List (Nat × Bool)} {k c : Nat} {fs : List (Nat × D)} {v : Bool} (hc : c ∈ XC) (h : (XC.all fun c => lkX l c == some (xsub c k)) = true) (hv : xsub c k = v) (g : Ev a sd W (.exn c fs)) : Ev (dCB (rIsX z (lkX l)) (dCons a (dCons (dC z) dNil))) sd W (.bl v) := hv ▸ .isk hc h g
theorem call_w {n : Nat} {sp : DSp} {Q : QD} {E : QX} (ha : El ta sd W ds) (hn : ds.length = n) (h : sp ds W Q fun d W' => E d sd W') : dCall n [] sp ta sd W Q E := ha _ _ (dfl_n (k := fun ds => sp ds W Q fun d W' => E d sd W') hn h)
theorem lk1 {f : Nat} : List.lookup f [(f, d)] = some d := by simp [List.lookup]
theorem Ev.rep {p : PyData} (h : Ev a sd W d) (hp : pyE d = some p) (hs : p.showable = true) (hz : p.shown.length ≤ 100000) (hd : p.depth ≤ 60) : Ev (dCB rReprE (dCons a dNil)) sd W (.str p.shown) := fun Q E q => h _ _ (by
  show kSome (pyE d) _
  rw [hp]
  exact ⟨hs, by rw [sizeLine_eq]; omega, hd, q⟩)
theorem Ev.repT (h : Ev a sd W d) {p : PyData} (hp : pyE d = some p) (hs : p.showable = true) (hz : p.shown.length ≤ 1000) (hd : p.depth ≤ 10) : Ev (dCB rReprE (dCons a dNil)) sd W (.str p.shown) := .rep h hp hs (by omega) (by omega)
theorem Ev.reps (ht : Thing d) (h : Ev a sd W d) (g : Ev b sd W d) : Ev (dOp (rEqQ qN true 6) (dCB rReprE (dCons a dNil)) (dCB rReprE (dCons b dNil))) sd W (.bl false) := by
  obtain ⟨p, h1, h2, h3, h4⟩ := ht
  have := Ev.eq (cl := qN) (ne := true) (.repT h h1 h2 h3 h4) (.repT g h1 h2 h3 h4) (v := p.shown == p.shown) rfl (Nat.zero_le _)
  rw [beq_self_eq_true] at this
  exact this
theorem two_shown {p q : PyData} (h1 : p.shown.length ≤ 1000) (h2 : q.shown.length ≤ 1000) : (PyData.list [p, q]).shown.length ≤ 100000 := by
  have e : (PyData.list [p, q]).shown = ((("[" : String) : Str) ++ (("" : String) : Str) ++ p.shown ++ ((", " : String) : Str) ++ q.shown) ++ (("]" : String) : Str) := by
    simp only [PyData.shown, PyData.shownAll]
    rfl
  have e1 : ((("[" : String) : Str)).length = 1 := rfl
  have e2 : (((", " : String) : Str)).length = 2 := rfl
  have e3 : ((("]" : String) : Str)).length = 1 := rfl
  have e4 : ((("" : String) : Str)).length = 0 := rfl
  rw [e]
  simp only [PySem.Str.length_append]
  omega
theorem Ev.repP (hc : Thing c) (hd : Thing d) (h : Ev a sd W (.lst [c, d])) (g : Ev b sd W (.lst [c, d])) : Ev (dOp (rEqQ qN false 6) (dCB rReprE (dCons a dNil)) (dCB rReprE (dCons b dNil))) sd W (.bl true) := by
  obtain ⟨p, h1, h2, h3, h4⟩ := hc
  obtain ⟨r, g1, g2, g3, g4⟩ := hd
  have e : pyE (.lst [c, d]) = some (.list [p, r]) := by simp only [pyE, pyEs, h1, g1]; rfl
  have s : (PyData.list [p, r]).showable = true := by simp only [PyData.showable, PyData.showableAll, h2, g2]; rfl
  have z : (PyData.list [p, r]).depth ≤ 60 := by
    simp only [PyData.depth, PyData.depthAll]
    omega
  have k := two_shown h3 g3
  have := Ev.eq (cl := qN) (ne := false) (.rep h e s k z) (.rep g e s k z) (v := (PyData.list [p, r]).shown == (PyData.list [p, r]).shown) rfl (Nat.zero_le _)
  rw [beq_self_eq_true] at this
  exact this
theorem eqs_strs (q : EqI) : ∀ a : List Str, eqDs q (a.map .str) (a.map .str) = some true
  | [] => rfl
  | x :: a => by
    have e : eqD q (.str x) (.str x) = some true := by
      show some (x == x) = some true
      rw [beq_self_eq_true]
    show (match eqD q (.str x) (.str x) with | some true => eqDs q (a.map .str) (a.map .str) | some false => some false | none => none) = some true
    rw [e]
    exact eqs_strs q a
theorem eq_strs (q : EqI) (a : List Str) : eqD q (.lst (a.map .str)) (.lst (a.map .str)) = some true := by
  show (if (a.map D.str).length = (a.map D.str).length then eqDs q (a.map .str) (a.map .str) else some false) = some true
  rw [if_pos rfl]
  exact eqs_strs q a
theorem dps_strs : ∀ a : List Str, dps (a.map .str) = 0
  | [] => rfl
  | x :: a => by
    show max 0 (dps (a.map .str)) = 0
    rw [dps_strs a]
    rfl
theorem dp_strs (a : List Str) : (D.lst (a.map .str)).dp ≤ 6 := by
  show dps (a.map .str) + 1 ≤ 6
  rw [dps_strs a]
  decide
theorem app_p {W : Wd} {a : Addr} {xs : List D} {x : D} {Q : QD} (h : W a = some (.lst xs)) (hl : xs.length ≤ 1000000) (q : Q .non (put W a (.lst (xs ++ [x])))) : mAppend (.ptr a) [x] W Q := by
  show (match W a with | some (.lst ds) => ds.length ≤ 1000000 ∧ Q .non (put W a (.lst (ds ++ [x]))) | _ => False)
  rw [h]
  exact ⟨hl, q⟩
theorem tyM_q {W : Wd} {a : Addr} {xs : List D} (h : W a = some (.lst xs)) : tyM "list" W (.ptr a) := by
  show (match W a with | some (.lst _) => _ | some (.dK _) => _ | some (.dT _) => _ | _ => _)
  rw [h]
section
variable {D : DEnds} {r : DS} {E : QX} {x : Addr} {xs : List Mv.D}
theorem St.app (ha : Ev a sd W (.ptr x)) (hW : W x = some (.lst xs)) (hb : Ev b sd W d) (hl : xs.length ≤ 1000000) (k : r D sd (put W x (.lst (xs ++ [d]))) E) : dSeq (dDrop (dBM "list" mAppend a (dCons b dNil))) r D sd W E := ha _ _ ⟨tyM_q hW, El.one hb _ _ (app_p hW hl k)⟩
theorem St.app0 (ha : Ev a sd W (.ptr x)) (hW : W x = some (.lst xs)) (hb : Ev b sd W d) (hl : xs.length ≤ 1000000) (k : D.nx sd (put W x (.lst (xs ++ [d])))) : dDrop (dBM "list" mAppend a (dCons b dNil)) D sd W E := ha _ _ ⟨tyM_q hW, El.one hb _ _ (app_p hW hl k)⟩
theorem St.lstM {i : Nat} (h : El ta sd W ds) (hl : ds.length ≤ 1000) (k : ∀ p, W p = none → r D (sd.set i (some (.ptr p))) (put W p (.lst ds)) E) : dSeq (dAsg (dLstM ta) (gN i)) r D sd W E := h _ _ ⟨hl, fun p hp => k p hp⟩
theorem dFor_2 {te : DE} {tb : DS} {i : Nat} {P1 P2 : SD → Wd → Prop} {e1 e2 : Mv.D} (h : Ev te sd W (.lst [e1, e2]))
    (k1 : ∀ K : SD → Wd → Prop, (∀ sd' W', P1 sd' W' → K sd' W') → tb { D with nx := K, ct := K, bk := D.nx } (sd.set i (some e1)) W E)
    (k2 : ∀ sd' W', P1 sd' W' → ∀ K : SD → Wd → Prop, (∀ sd'' W'', P2 sd'' W'' → K sd'' W'') → tb { D with nx := K, ct := K, bk := D.nx } (sd'.set i (some e2)) W' E) (k3 : ∀ sd' W', P2 sd' W' → D.nx sd' W') : dFor (iSq te) (gN i) tb D sd W E := h _ _ ⟨trivial, k1 _ fun sd' W' h1 => ⟨trivial, k2 sd' W' h1 _ fun sd'' W'' h2 => ⟨trivial, k3 sd'' W'' h2⟩⟩⟩
theorem dFor_n {α : Type} {ti : DI} {g : DG} {tb : DS} {xs : List α} {h : α → Mv.D} {I : Nat → SD → Wd → Prop} (hi : ∀ (Q : LiD → Wd → Prop) (E : QX), Q ⟨xs.map h, none⟩ W → ti sd W Q E)
    (hs : ∀ x ∈ xs, ∀ n sd' W', I (n + 1) sd' W' → ∀ K : SD → Wd → Prop, (∀ sd'' W'', I n sd'' W'' → K sd'' W'') → g (h x) sd' W' (fun sd1 W1 => tb { D with nx := K, ct := K, bk := D.nx } sd1 W1 E)) (h0 : I xs.length sd W) (hD : ∀ sd' W', I 0 sd' W' → D.nx sd' W') : dFor ti g tb D sd W E := by
  refine hi _ _ ?_
  have go : ∀ (ys : List α), (∀ y ∈ ys, y ∈ xs) → ∀ sd' W', I ys.length sd' W' → loopD (LiD.ok ⟨xs.map h, none⟩) g tb D E (ys.map h) sd' W' := by
    intro ys
    induction ys with
    | nil => intro _ sd' W' hI; exact ⟨trivial, hD _ _ hI⟩
    | cons y ys ih =>
      intro hm sd' W' hI
      exact ⟨trivial, hs y (hm y (List.mem_cons_self ..)) _ sd' W' hI _ fun sd'' W'' hI' => ih (fun z hz => hm z (List.mem_cons_of_mem _ hz)) sd'' W'' hI'⟩
  exact go xs (fun y hy => hy) sd W h0
end
end
end Mv
end
section
set_option Elab.async false
set_option linter.all false
set_option maxRecDepth 100000
set_option maxHeartbeats 4000000
namespace Mv
open PySem PySem.Spec L2
def V12 : List D := [.non, .bl true, .int 0, .int (-7), .int (10 ^ 59), .str "", .str "name", .tup [.int 1, .str "a"], .lst [.non], .dK [(.inr "a", .lst [.int 1])], .str (repS "x" 40), .tup []]
theorem thing_v : ∀ d ∈ V12, Thing d := by
  intro d hd
  simp only [V12, List.mem_cons, List.not_mem_nil, or_false] at hd
  rcases hd with rfl | rfl | rfl | rfl | rfl | rfl | rfl | rfl | rfl | rfl | rfl | rfl <;> exact ⟨_, rfl, by decide +kernel, by decide +kernel, by decide +kernel⟩
theorem thing_i {x : Int} (h0 : 0 ≤ x) (h1 : x < 1000000000) : Thing (.int x) := by
  have hx : x.natAbs < 2 ^ 40 := by
    have : (2 : Nat) ^ 40 = 1099511627776 := by decide
    omega
  have hl : x.natAbs.log2 < 40 := PySem.Flt.log2_lt_of (by decide) hx
  refine ⟨.int x, rfl, ?_, ?_, ?_⟩
  · simp only [PyData.showable, decide_eq_true_eq]
    omega
  · have h1 := PySem.int_text_length_le (a := x) (k := 40) (by decide) hl
    show ((toString x : String) : Str).length ≤ 1000
    rw [PySem.ofString_length]
    omega
  · simp only [PyData.depth]
    decide
section
variable {sd : SD} {W : Wd} {a b : DE} {d : D}
theorem Ev.dp {k : Str} (ha : ∀ W, Ev a sd W (.str k)) (hb : ∀ W, Ev b sd W d) : Ev (dDp1K a b) sd W (.dK [(.inr k, d)]) := fun Q E q => fun p hp => ha _ _ _ (hb _ _ _ ⟨.inr k, rfl, put_same, by rw [cut_put hp]; exact q⟩)
theorem Ev.neg {i : Int} (ha : Ev a sd W (.int i)) : Ev (dNeg a) sd W (.int (-i)) := fun Q E q => ha _ _ q
end
theorem len__law_value (S : Sy) : ∀ ds W Q E, sp__law_value S ds W Q E → ds.length = 1 := fun ds W Q E h => by
  obtain ⟨p, r, cs, k, g, rfl, _, _, hr, _⟩ := spPen.inv h
  rw [hr]
  rfl
theorem pf__law_value (S : Sy) : ∀ ds W Q2 E2, sp__law_value S ds W Q2 E2 → t__law_value S { nx := fun _ W => Q2 .non W, rt := Q2 } (startD ["_law_pen_here", "_law_some"] ds) W (fun x _ W => E2 x W) := by
  intro ds W Q E h
  obtain ⟨p, r, cs, k, g, rfl, hp, hk, hr, hq⟩ := spPen.inv h
  subst hr
  unfold t__law_value
  refine St.asg (d := .lst V12) (Ev.lst (.k .k <| .k .k <| .k .k <| .k (Ev.neg .k) <| .k (Ev.op .k .k fun Q E q => ⟨⟨by decide, by decide, by decide⟩, q⟩) <| .k .k <| .k .k <| .k (Ev.tup (.two .k .k)) <| .k (Ev.lst (.one .k)) <| .k (Ev.dp (fun _ => .k) fun _ => Ev.lst (.one .k)) <| .k (Ev.op .k .k fun Q E q => ⟨by decide, by decide, by decide, by decide, q⟩) <| .k (Ev.tup .n) .n)) ?_
  obtain ⟨hW, hl, k0, k1⟩ := hp
  refine ⟨_, rfl, ⟨.lst V12, rfl, ?_⟩⟩
  show dCall 2 [] (sp__law_draw S) _ _ _ _ _
  refine call_w (ds := [.ptr p, .int (10 ^ 9)]) (El.two .v (Ev.op .k .k fun Q E q => ⟨⟨by decide, by decide, by decide⟩, q⟩)) rfl ⟨cs, k, g, ⟨hW, hl, k0, k1⟩, by omega, by decide, bg_small (by decide), fun x h0 h1 k' g' h2 h3 => ?_⟩
  refine ⟨by show 1 ≤ 1000; decide, by show 12 + 1 ≤ 1000000; decide, ?_⟩
  refine dfl_n (k := fun ds => sp__law_pick S ds _ _ _) rfl ⟨cs, k', g', ⟨put_same, hl, by omega, by omega⟩, by omega, by simp [V12], by show 12 + 1 ≤ 1000000; decide, fun y hy k2 g2 h4 h5 => ?_⟩
  show Q y (put (put W p (penM cs k' g')) p (penM cs k2 g2))
  rw [put_put]
  refine hq y ?_ k2 g2 (by omega) (by omega)
  rcases List.mem_append.mp hy with hy | hy
  · exact thing_v y hy
  · rw [List.mem_singleton.mp hy]
    exact thing_i h0 h1
theorem len__law_signs (S : Sy) : ∀ ds W Q E, sp__law_signs S ds W Q E → ds.length = 1 := fun ds W Q E h => by
  obtain ⟨c, fs, rfl, _⟩ := h
  rfl
theorem Ev.sg {z : D} {l : List (Nat × Bool)} {k c : Nat} {fs : List (Nat × D)} {sd : SD} {W : Wd} {s : Str} (hc : c ∈ XC) (h : (XC.all fun c => lkX l c == some (xsub c k)) = true) (g : sd[0]? = some (some (.exn c fs))) :
    Ev (dTup (dCons (dC (.str s)) (dCons (dCB (rIsX z (lkX l)) (dCons (dVar 0) (dCons (dC z) dNil))) dNil))) sd W (signD c (s, k)) := .tup (.two .k (.isk hc h (.v g)))
theorem pf__law_signs (S : Sy) : ∀ ds W Q2 E2, sp__law_signs S ds W Q2 E2 → t__law_signs S { nx := fun _ W => Q2 .non W, rt := Q2 } (startD ["_law_error", "_law_found"] ds) W (fun x _ W => E2 x W) := by
  intro ds W Q E h
  obtain ⟨c, fs, rfl, hc, q⟩ := h
  unfold t__law_signs
  refine St.asg (Ev.lst (.two (Ev.sg (k := 2) hc (by decide +kernel) rfl) (Ev.sg (k := 15) hc (by decide +kernel) rfl))) ?_
  refine St.asg (Ev.addL .v (Ev.lst (.two (Ev.sg (k := 20) hc (by decide +kernel) rfl) (Ev.sg (k := 3) hc (by decide +kernel) rfl)))) ?_
  refine St.asg (Ev.addL .v (Ev.lst (.two (Ev.sg (k := 4) hc (by decide +kernel) rfl) (Ev.sg (k := 5) hc (by decide +kernel) rfl)))) ?_
  refine St.asg (Ev.addL .v (Ev.lst (.two (Ev.sg (k := 6) hc (by decide +kernel) rfl) (Ev.sg (k := 7) hc (by decide +kernel) rfl)))) ?_
  refine St.asg (Ev.addL .v (Ev.lst (.two (Ev.sg (k := 8) hc (by decide +kernel) rfl) (Ev.sg (k := 9) hc (by decide +kernel) rfl)))) ?_
  refine St.asg (Ev.addL .v (Ev.lst (.two (Ev.sg (k := 50) hc (by decide +kernel) rfl) (Ev.sg (k := 10) hc (by decide +kernel) rfl)))) ?_
  refine St.asg (Ev.addL .v (Ev.lst (.two (Ev.sg (k := 11) hc (by decide +kernel) rfl) (Ev.sg (k := 12) hc (by decide +kernel) rfl)))) ?_
  refine St.asg (Ev.addL .v (Ev.lst (.two (Ev.sg (k := 51) hc (by decide +kernel) rfl) (Ev.sg (k := 13) hc (by decide +kernel) rfl)))) ?_
  refine St.asg (Ev.addL .v (Ev.lst (.two (Ev.sg (k := 14) hc (by decide +kernel) rfl) (Ev.sg (k := 16) hc (by decide +kernel) rfl)))) ?_
  refine St.asg (Ev.addL .v (Ev.lst (.two (Ev.sg (k := 17) hc (by decide +kernel) rfl) (Ev.sg (k := 18) hc (by decide +kernel) rfl)))) ?_
  refine St.asg (Ev.addL .v (Ev.lst (.two (Ev.sg (k := 52) hc (by decide +kernel) rfl) (Ev.sg (k := 53) hc (by decide +kernel) rfl)))) ?_
  refine St.asg (Ev.addL .v (Ev.lst (.two (Ev.sg (k := 54) hc (by decide +kernel) rfl) (Ev.sg (k := 19) hc (by decide +kernel) rfl)))) ?_
  exact St.ret (Ev.addL .v (Ev.lst (.two (Ev.sg (k := 21) hc (by decide +kernel) rfl) (Ev.sg (k := 22) hc (by decide +kernel) rfl)))) q
theorem len__law_kinds (S : Sy) : ∀ ds W Q E, sp__law_kinds S ds W Q E → ds.length = 1 := fun ds W Q E h => by
  obtain ⟨c, fs, rfl, _⟩ := h
  rfl
theorem pf__law_kinds (S : Sy) : ∀ ds W Q2 E2, sp__law_kinds S ds W Q2 E2 → t__law_kinds S { nx := fun _ W => Q2 .non W, rt := Q2 } (startD ["_law_error", "_law_sign", "_law_is_so"] ds) W (fun x _ W => E2 x W) := by
  intro ds W Q E h
  obtain ⟨c, fs, rfl, hc, q⟩ := h
  unfold t__law_kinds
  have all : xsub c 1 = true := by simp [xsub]
  refine St.ret (Ev.iteT (Eb.tst (Ev.isk' (k := 1) (v := true) hc (by decide +kernel) all .v)) (Ev.lc (xs := SG) (h := signD c) (P := fun e => xsub c e.2) (f := fun e => .str e.1) (fun Q E q => iSq_v (Ev.call (.one .v) fun Q E q => ⟨c, fs, rfl, hc, q⟩) q) (fun e _ W K1 K0 q => ?_) (by decide))) ?_
  · refine ⟨rfl, ?_⟩
    rw [gNs_e, gN_e, gNs_e, gN_e, gN0_e]
    refine Eb.tst (v := xsub c e.2) .v _ _ ?_
    cases hx : xsub c e.2 with
    | true =>
      rw [hx] at q
      rw [if_pos rfl]
      rw [if_pos rfl] at q
      refine Ev.v rfl _ _ ?_
      exact q
    | false =>
      rw [hx] at q
      exact q
  · show Q (.lst ((SG.filter fun e => xsub c e.2).map fun e => .str e.1)) W
    rw [kinds, List.map_map] at q
    exact q
theorem len__law_inputs (S : Sy) : ∀ ds W Q E, sp__law_inputs S ds W Q E → ds.length = 1 := fun ds W Q E h => by
  obtain ⟨d, rfl, _⟩ := h
  rfl
theorem len__law_others (S : Sy) : ∀ ds W Q E, sp__law_others S ds W Q E → ds.length = 1 := fun ds W Q E h => by
  obtain ⟨d, rfl, _⟩ := h
  rfl
section
variable {sd : SD} {W : Wd} {d : D} {i : Nat}
theorem Ev.n1 {k f : Nat} (h : sd[0]? = some (some d) := by rfl) : Ev (dNewX k [f] (dCons (dVar 0) dNil)) sd W (.exn k [(f, d)]) := .nx (.one (.v h))
theorem Ev.k1 {k f : Nat} (h : sd[0]? = some (some d) := by rfl) : Ev (dNewXK k 1 [f] [0] (dCons (dVar 0) dNil)) sd W (.exn k [(f, d)]) := .nk (.one (.v h))
theorem Ev.row {l : List Nat} {k f : Nat} {s : Str} (h : sd[i]? = some (some (.exn k [(f, d)])) := by rfl) (hc : k ∈ l := by decide) : Ev (dTup (dCons (dVar i) (dCons (dC (.str s)) (dCons (dXat l f (dVar i)) dNil)))) sd W (rowD d (k, f, s)) :=
  .tup (.k (.v h) (.two .k (.xat (fs := [(f, d)]) (.v h) hc lk1)))
end
theorem all5 : ∀ e ∈ INP.take 5, e.1 ∈ [3, 6, 7, 9, 12] ∧ e.2.1 = 44 := by decide
theorem pf__law_inputs (S : Sy) : ∀ ds W Q2 E2, sp__law_inputs S ds W Q2 E2 → t__law_inputs S { nx := fun _ W => Q2 .non W, rt := Q2 } (startD ["_law_thing", "_law_made", "_law_found", "_law_error", "_law_sign", "_law_one", "_law_two", "_law_three"] ds) W (fun x _ W => E2 x W) := by
  intro ds W Q E h
  obtain ⟨d, rfl, q⟩ := h
  unfold t__law_inputs
  refine St.asg (Ev.lst (.k (Ev.tup (.two .n1 .k)) (.two (Ev.tup (.two .k1 .k)) (Ev.tup (.two .n1 .k))))) ?_
  refine St.asg (Ev.addL .v (Ev.lst (.two (Ev.tup (.two .k1 .k)) (Ev.tup (.two .n1 .k))))) ?_
  refine St.asg (Ev.lc (xs := INP.take 5) (h := fun e => .tup [.exn e.1 [(e.2.1, d)], .str e.2.2]) (P := fun _ => true) (f := rowD d) (fun Q E q => iSq_v .v q) (fun e he W K1 K0 q => ?_) (by decide)) ?_
  · refine ⟨rfl, ?_⟩
    rw [if_pos rfl] at q
    have hx := all5 e he
    obtain ⟨k, f, s⟩ := e
    obtain ⟨h1, rfl⟩ := (show k ∈ [3, 6, 7, 9, 12] ∧ f = 44 from hx)
    rw [gNs_e, gN_e, gNs_e, gN_e, gN0_e]
    refine Eb.yes _ _ ?_
    rw [if_pos rfl]
    refine Ev.tup (ds := [.exn k [(44, d)], .str s, d]) (.k .v (.two .v (.xat (k := k) (fs := [(44, d)]) .v h1 lk1))) (by show 3 ≤ 1000; decide) _ _ ?_
    exact q
  refine St.par3 .k1 .n1 .k1 ?_
  refine St.asg (Ev.addL .v (Ev.lst (.k .row (.two .row .row)))) ?_
  refine St.par3 .k1 .n1 .k1 ?_
  refine St.asg (Ev.addL .v (Ev.lst (.k .row (.two .row .row)))) ?_
  refine St.par .k1 .k1 ?_
  exact St.ret (Ev.addL .v (Ev.lst (.two .row .row))) q
theorem pf__law_others (S : Sy) : ∀ ds W Q2 E2, sp__law_others S ds W Q2 E2 → t__law_others S { nx := fun _ W => Q2 .non W, rt := Q2 } (startD ["_law_thing", "_law_one", "_law_two", "_law_three", "_law_found"] ds) W (fun x _ W => E2 x W) := by
  intro ds W Q E h
  obtain ⟨d, rfl, q⟩ := h
  unfold t__law_others
  refine St.par3 .k1 .n1 .k1 ?_
  refine St.asg (Ev.lst (.k .row (.two .row .row))) ?_
  refine St.par .n1 .k1 ?_
  exact St.ret (Ev.addL .v (Ev.lst (.two .row .row))) q
end Mv
end
section
set_option Elab.async false
set_option linter.all false
set_option maxRecDepth 100000
set_option maxHeartbeats 1000000
namespace Mv
open PySem PySem.Spec L2
theorem len__law_named_right (S : Sy) : ∀ ds W Q E, sp__law_named_right S ds W Q E → ds.length = 1 := fun ds W Q E h => by
  obtain ⟨d, rfl, _⟩ := h
  rfl
section
variable {sd : SD} {W : Wd} {d : D}
theorem Ev.fn {l : List Nat} {k f : Nat} (h : sd[0]? = some (some d) := by rfl) (hc : k ∈ l := by decide) : Ev (dXat l f (dNewX k [f] (dCons (dVar 0) dNil))) sd W d := .xat (fs := [(f, d)]) (.n1 h) hc lk1
theorem Ev.fk {l : List Nat} {k f : Nat} (h : sd[0]? = some (some d) := by rfl) (hc : k ∈ l := by decide) : Ev (dXat l f (dNewXK k 1 [f] [0] (dCons (dVar 0) dNil))) sd W d := .xat (fs := [(f, d)]) (.k1 h) hc lk1
end
theorem pf__law_named_right (S : Sy) : ∀ ds W Q2 E2, sp__law_named_right S ds W Q2 E2 → t__law_named_right S { nx := fun _ W => Q2 .non W, rt := Q2 } (startD ["_law_thing", "_law_told", "_law_one"] ds) W (fun x _ W => E2 x W) := by
  intro ds W Q E h
  obtain ⟨d, rfl, td, q⟩ := h
  unfold t__law_named_right
  refine St.asg (Ev.lst (.k .fk (.k .fk (.two .fk .fk)))) ?_
  refine St.asg (Ev.addL .v (Ev.lst (.k .fk (.two .fk .fk)))) ?_
  refine St.asg (Ev.addL .v (Ev.lst (.k .fn (.k .fn (.two .fn .fn))))) ?_
  refine St.asg (Ev.addL .v (Ev.lst (.k .fn (.k .fn (.k .fn (.two .fn .fn)))))) ?_
  refine St.asg (Ev.addL .v (Ev.lst (.two .fn .fn))) ?_
  refine St.ret (d := .bl true) (Ev.eq (cl := qN) (ne := false) (v := true) (Ev.lc (xs := List.replicate 18 d) (h := id) (P := fun _ => false) (f := id) (fun Q E q => iSq_v .v q) (fun e he W K1 K0 q => ?_) (by rw [List.length_replicate]; decide)) (Ev.lst .n) ?_ ?_) q
  · obtain rfl := List.eq_of_mem_replicate he
    exact Eb.tbl (Ev.reps td .v .v) _ _ q
  · rw [List.filter_eq_nil_iff.mpr fun _ _ z => by cases z]
    rfl
  · rw [List.filter_eq_nil_iff.mpr fun _ _ z => by cases z]
    decide
theorem len__law_pairs_right (S : Sy) : ∀ ds W Q E, sp__law_pairs_right S ds W Q E → ds.length = 2 := fun ds W Q E h => by
  obtain ⟨d, e, rfl, _⟩ := h
  rfl
section
variable {sd : SD} {W : Wd} {c d : D} {i : Nat}
theorem Ev.n2 {k f g : Nat} (h : sd[0]? = some (some c) := by rfl) (h2 : sd[1]? = some (some d) := by rfl) : Ev (dNewX k [f, g] (dCons (dVar 0) (dCons (dVar 1) dNil))) sd W (.exn k [(g, d), (f, c)]) := .nx (.two (.v h) (.v h2))
theorem Ev.k2 {k f g : Nat} (h : sd[0]? = some (some c) := by rfl) (h2 : sd[1]? = some (some d) := by rfl) : Ev (dNewXK k 2 [f, g] [1, 0] (dCons (dVar 1) (dCons (dVar 0) dNil))) sd W (.exn k [(g, d), (f, c)]) := .nk (.two (.v h2) (.v h))
theorem Ev.kd {k : Nat} {fs : List (Nat × D)} {zs : List Str} {S : Sy} {a b : DE} {ne : Bool} (h : Ev a sd W (.exn k fs)) (hb : Ev b sd W (.lst (zs.map .str))) (hk : kinds k = zs := by decide) (hc : k ∈ XC := by decide) : Ev (dOp (rEqQ qN ne 6) (dCall 1 [] (sp__law_kinds S) (dCons a dNil)) b) sd W (.bl (if ne = true then false else true)) := by
  subst hk
  exact Ev.eq (v := true) (Ev.call (.one h) fun Q E q => ⟨k, fs, rfl, hc, q⟩) hb (eq_strs qN _) (dp_strs _)
theorem Ev.fs2 {l m : List Nat} {k f g : Nat} (hc : Thing c) (hd : Thing d) (h : sd[i]? = some (some (.exn k [(g, d), (f, c)])) := by rfl) (h0 : sd[0]? = some (some c) := by rfl) (h1 : sd[1]? = some (some d) := by rfl) (hf : f ≠ g := by decide) (kl : k ∈ l := by decide) (km : k ∈ m := by decide) :
    Ev (dOp (rEqQ qN false 6) (dCB rReprE (dCons (dLst (dCons (dXat l f (dVar i)) (dCons (dXat m g (dVar i)) dNil))) dNil)) (dCB rReprE (dCons (dLst (dCons (dVar 0) (dCons (dVar 1) dNil))) dNil))) sd W (.bl true) := by
  have e1 : List.lookup f [(g, d), (f, c)] = some c := by
    have h1 : (f == g) = false := beq_eq_false_iff_ne.mpr hf
    simp [List.lookup, h1]
  have e2 : List.lookup g [(g, d), (f, c)] = some d := by simp [List.lookup]
  exact .repP hc hd (.lst (.two (.xat (.v h) kl e1) (.xat (.v h) km e2))) (.lst (.two (.v h0) (.v h1)))
end
theorem pf__law_pairs_right (S : Sy) : ∀ ds W Q2 E2, sp__law_pairs_right S ds W Q2 E2 → t__law_pairs_right S { nx := fun _ W => Q2 .non W, rt := Q2 } (startD ["_law_thing", "_law_more", "_law_told", "_law_told_so", "_law_pair_so", "_law_many"] ds) W (fun x _ W => E2 x W) := by
  intro ds W Q E h
  obtain ⟨c, d, rfl, tc, td, q⟩ := h
  unfold t__law_pairs_right
  refine St.lstM .n (by decide) fun p hp => ?_
  refine dFor_2 (P1 := fun sd W1 => (∃ x, sd = [some c, some d, some (.ptr p), x, none, none]) ∧ W1 = put W p (.lst [.bl true, .bl true])) (P2 := fun sd W1 => (∃ x, sd = [some c, some d, some (.ptr p), x, none, none]) ∧ W1 = put W p (.lst [.bl true, .bl true, .bl true, .bl true])) (Ev.lst (.two .n2 .k2)) (fun K hK => ?_) (fun sd W1 ⟨⟨x, hs⟩, hw⟩ K hK => ?_) fun sd W1 ⟨⟨x, hs⟩, hw⟩ => ?_
  · refine St.app (x := p) .v put_same (Ev.kd (zs := ["input", "text"]) .v (Ev.lst (.two .k .k))) (by decide) ?_
    refine St.app0 (x := p) .v put_same (Ev.fs2 tc td) (by decide) (hK _ _ ⟨⟨_, rfl⟩, ?_⟩)
    rw [put_put, put_put]
    rfl
  · subst hs hw
    refine St.app (x := p) .v put_same (Ev.kd (zs := ["input", "text"]) .v (Ev.lst (.two .k .k))) (by decide) ?_
    refine St.app0 (x := p) .v put_same (Ev.fs2 tc td) (by decide) (hK _ _ ⟨⟨_, rfl⟩, ?_⟩)
    rw [put_put, put_put]
    rfl
  subst hs hw
  refine dFor_2 (P1 := fun sd W1 => (∃ x y, sd = [some c, some d, some (.ptr p), x, y, none]) ∧ W1 = put W p (.lst (List.replicate 6 (.bl true)))) (P2 := fun sd W1 => (∃ x y, sd = [some c, some d, some (.ptr p), x, y, none]) ∧ W1 = put W p (.lst (List.replicate 8 (.bl true)))) (Ev.lst (.two .n2 .k2)) (fun K hK => ?_) (fun sd W1 ⟨⟨x, y, hs⟩, hw⟩ K hK => ?_) fun sd W1 ⟨⟨x, y, hs⟩, hw⟩ => ?_
  · refine St.app (x := p) .v put_same (Ev.kd (zs := ["refused", "nopair"]) .v (Ev.lst (.two .k .k))) (by decide) ?_
    refine St.app0 (x := p) .v put_same (Ev.fs2 tc td) (by decide) (hK _ _ ⟨⟨_, _, rfl⟩, ?_⟩)
    rw [put_put, put_put]
    rfl
  · subst hs hw
    refine St.app (x := p) .v put_same (Ev.kd (zs := ["refused", "nopair"]) .v (Ev.lst (.two .k .k))) (by decide) ?_
    refine St.app0 (x := p) .v put_same (Ev.fs2 tc td) (by decide) (hK _ _ ⟨⟨_, _, rfl⟩, ?_⟩)
    rw [put_put, put_put]
    rfl
  subst hs hw
  refine dFor_2 (P1 := fun sd W1 => (∃ x y z, sd = [some c, some d, some (.lst (List.replicate 10 (.bl true))), x, y, z]) ∧ W1 = W) (P2 := fun sd W1 => (∃ x y z, sd = [some c, some d, some (.lst (List.replicate 12 (.bl true))), x, y, z]) ∧ W1 = W) (Ev.lst (.two .n2 .k2)) (fun K hK => ?_) (fun sd W1 ⟨⟨x, y, z, hs⟩, hw⟩ K hK => ?_) fun sd W1 ⟨⟨x, y, z, hs⟩, hw⟩ => ?_
  · refine ⟨.ptr p, rfl, ?_⟩
    show fzL (.ptr p) (put W p (.lst (List.replicate 8 (.bl true)))) _
    rw [fzL_p put_same, cut_put hp]
    refine Ev.lst (.two (Ev.kd (zs := ["refused", "many"]) .v (Ev.lst (.two .k .k))) (Ev.fs2 tc td)) (by show 2 ≤ 1000; decide) _ _ ⟨by decide, ?_⟩
    exact hK _ _ ⟨⟨_, _, _, rfl⟩, rfl⟩
  · subst hs hw
    refine ⟨.lst (List.replicate 10 (.bl true)), rfl, ?_⟩
    show fzL (.lst (List.replicate 10 (.bl true))) _ _
    rw [fzL_l]
    refine Ev.lst (.two (Ev.kd (zs := ["refused", "many"]) .v (Ev.lst (.two .k .k))) (Ev.fs2 tc td)) (by show 2 ≤ 1000; decide) _ _ ⟨by decide, ?_⟩
    exact hK _ _ ⟨⟨_, _, _, rfl⟩, rfl⟩
  subst hs hw
  refine ⟨.lst (List.replicate 12 (.bl true)), rfl, ?_⟩
  show fzL (.lst (List.replicate 12 (.bl true))) _ _
  rw [fzL_l]
  exact ⟨by decide, by decide, q⟩
end Mv
end
section
set_option Elab.async false
set_option linter.all false
set_option maxRecDepth 100000
set_option maxHeartbeats 1000000
namespace Mv
open PySem PySem.Spec L2
section
variable {sd : SD} {W : Wd} {a b : DE}
theorem Ev.and_t {c : D} (ha : Ev a sd W (.bl true)) (hb : Ev b sd W c) : Ev (dAndV a b) sd W c := fun Q E q => ha _ _ (hb _ _ q)
theorem dSeq_for {ti : DI} {g : DG} {tb s : DS} {D : DEnds} {E : QX} (h : dFor ti g tb { D with nx := fun sd W => s D sd W E } sd W E) : dSeq (dFor ti g tb) s D sd W E := h
theorem Ev.kc {S : Sy} {k : Nat} {fs : List (Nat × D)} (h : Ev a sd W (.exn k fs)) (hc : k ∈ XC := by decide) : Ev (dCall 1 [] (sp__law_kinds S) (dCons a dNil)) sd W (.lst ((kinds k).map .str)) := Ev.call (.one h) fun Q E q => ⟨k, fs, rfl, hc, q⟩
end
section
variable {sd : SD} {W : Wd} {a b : DE}
theorem Ev.kn {k : Nat} {fs : List (Nat × D)} {zs : List Str} {S : Sy} (h : Ev a sd W (.exn k fs)) (hb : Ev b sd W (.lst (zs.map .str))) (hk : kinds k = zs := by decide) (hc : k ∈ XC := by decide) : Ev (dOp (rEqQ qN true 6) (dCall 1 [] (sp__law_kinds S) (dCons a dNil)) b) sd W (.bl false) := Ev.kd (ne := true) h hb hk hc
theorem Ev.pr {S : Sy} {d e : D} (ha : Ev a sd W d) (hb : Ev b sd W e) (td : Thing d) (te : Thing e) : Ev (dCall 2 [] (sp__law_pairs_right S) (dCons a (dCons b dNil))) sd W (.bl true) := Ev.call (.two ha hb) fun Q E q => ⟨d, e, rfl, td, te, q⟩
theorem Ev.nr {S : Sy} {d : D} (ha : Ev a sd W d) (td : Thing d) : Ev (dCall 1 [] (sp__law_named_right S) (dCons a dNil)) sd W (.bl true) := Ev.call (.one ha) fun Q E q => ⟨d, rfl, td, q⟩
end
def Lw (p : Addr) (d e : D) (sd : SD) : Prop := sd.length = 11 ∧ sd[1]? = some (some (.ptr p)) ∧ sd[3]? = some (some d) ∧ sd[4]? = some (some e)
theorem Lw.set {p : Addr} {d e x : D} {sd : SD} {i : Nat} (h : Lw p d e sd) (h1 : i ≠ 1 := by decide) (h3 : i ≠ 3 := by decide) (h4 : i ≠ 4 := by decide) : Lw p d e (sd.set i (some x)) := by
  obtain ⟨a, b, c, f⟩ := h
  exact ⟨by rw [List.length_set]; exact a, by rw [List.getElem?_set_ne h1]; exact b, by rw [List.getElem?_set_ne h3]; exact c, by rw [List.getElem?_set_ne h4]; exact f⟩
theorem Lw.at_ {p : Addr} {d e x : D} {sd : SD} {i : Nat} (h : Lw p d e sd) (hi : i < 11 := by decide) : (sd.set i (some x))[i]? = some (some x) := List.getElem?_set_self (by rw [h.1]; exact hi)
theorem set_at {x y : D} {sd : SD} {i j : Nat} (h : sd[i]? = some (some y)) (hj : j ≠ i := by decide) : (sd.set j (some x))[i]? = some (some y) := by
  rw [List.getElem?_set_ne hj]
  exact h
def ROWS : List (Str × List (Nat × Nat × Str)) := [("input", INP), ("refused", OTH)]
theorem all_rows : ∀ y ∈ ROWS, ∀ e ∈ y.2, kinds e.1 = [y.1, e.2.2] ∧ e.1 ∈ XC := by decide
theorem pf_law (S : Sy) : ∀ ds W Q2 E2, sp_lawN S ds W Q2 E2 → t_law S { nx := fun _ W => Q2 .non W, rt := Q2 } (startD ["_law_script", "_law_pen_here", "_law_turn", "_law_thing", "_law_more", "_law_group", "_law_rows", "_law_error", "_law_sign", "_law_field", "_law_groups"] ds) W (fun x _ W => E2 x W) := by
  intro ds W Q E h
  obtain ⟨ns, rfl, hl, hq⟩ := h
  unfold t_law
  show dCall 1 [] (sp__law_pen S) _ _ _ _ _
  refine call_w (ds := [.frl (ns.map D.int)]) (.one .v) rfl ⟨ns, rfl, fun p cs hp hcs => ?_⟩
  show gN 1 (.ptr p) _ _ _
  rw [gN_e]
  dsimp only
  refine dSeq_for ?_
  refine dFor_n (xs := rngD 0 6) (h := id) (I := fun n sd W' => sd[1]? = some (some (.ptr p)) ∧ sd.length = 11 ∧ ∃ k g, PenAt W' p cs k g ∧ k + 4 * n ≤ 24) (fun Q E q => ?_) (fun x hx n sd W1 ⟨s1, sl, k, g, ⟨hW, _, k0, k1⟩, hk⟩ K hK => ?_) ⟨rfl, rfl, 0, 0, ⟨put_same, hcs, by decide, by decide⟩, by decide⟩ fun sd W1 ⟨s1, sl, k, g, hp, hk⟩ => ?_
  · refine El.one .k _ _ ?_
    rw [List.map_id] at q
    exact ⟨by decide, by decide, q⟩
  · rw [gN_e]
    have t1 : (sd.set 2 (some (id x)))[1]? = some (some (.ptr p)) := set_at s1
    have tl : (sd.set 2 (some (id x))).length = 11 := by rw [List.length_set]; exact sl
    revert t1 tl
    generalize sd.set 2 (some (id x)) = sd
    intro t1 tl
    show dCall 1 [] (sp__law_value S) _ _ _ _ _
    refine call_w (ds := [.ptr p]) (.one (.v t1)) rfl ⟨cs, k, g, ⟨hW, hcs, k0, k1⟩, by omega, rfl, fun d td k' g' h1 h2 => ?_⟩
    show dCall 1 [] (sp__law_value S) _ _ _ _ _
    refine call_w (ds := [.ptr p]) (.one (.v t1)) rfl ⟨cs, k', g', ⟨put_same, hcs, by omega, by omega⟩, by omega, rfl, fun e te k2 g2 h3 h4 => ?_⟩
    have hP : PenAt (put (put W1 p (penM cs k' g')) p (penM cs k2 g2)) p cs k2 g2 := ⟨put_same, hcs, by omega, by omega⟩
    revert hP
    generalize put (put W1 p (penM cs k' g')) p (penM cs k2 g2) = W2
    intro hP
    have w0 : Lw p d e ((sd.set 3 (some d)).set 4 (some e)) := ⟨by rw [List.length_set, List.length_set]; exact tl, by rw [List.getElem?_set_ne (by decide), List.getElem?_set_ne (by decide)]; exact t1, by rw [List.getElem?_set_ne (by decide)]; exact List.getElem?_set_self (by omega), List.getElem?_set_self (by rw [List.length_set]; omega)⟩
    dsimp only [dNil_e]
    revert w0
    generalize (sd.set 3 (some d)).set 4 (some e) = sd
    intro w0
    refine dSeq_for ?_
    refine dFor_all (xs := ROWS) (h := fun y => .tup [.str y.1, .lst (y.2.map (rowD d))]) (I := fun sd' W' => Lw p d e sd' ∧ W' = W2) (fun Q E q => iSq_v (Ev.lst (.two (Ev.tup (.two .k (Ev.call (.one (.v w0.2.2.1)) fun Q E q => ⟨d, rfl, q⟩))) (Ev.tup (.two .k (Ev.call (.one (.v w0.2.2.1)) fun Q E q => ⟨d, rfl, q⟩))))) q) (fun y hy sd' W' ⟨w1, hw⟩ K2 hK2 => ?_) ⟨w0, rfl⟩ fun sd' W' ⟨w1, hw⟩ => ?_
    · subst hw
      refine ⟨rfl, ?_⟩
      rw [gNs_e, gN_e, gNs_e, gN_e, gN0_e]
      have y5 : ((sd'.set 5 (some (.str y.1))).set 6 (some (.lst (y.2.map (rowD d)))))[5]? = some (some (.str y.1)) := set_at w1.at_
      have y6 : ((sd'.set 5 (some (.str y.1))).set 6 (some (.lst (y.2.map (rowD d)))))[6]? = some (some (.lst (y.2.map (rowD d)))) := (Lw.set w1).at_
      refine dFor_all (xs := y.2) (h := rowD d) (I := fun sd' W3 => Lw p d e sd' ∧ W3 = W' ∧ sd'[5]? = some (some (.str y.1))) (fun Q E q => iSq_v (.v y6) q) (fun r hr sd3 W3 ⟨w2, hw, z5⟩ K3 hK3 => ?_) ⟨(Lw.set w1).set, rfl, y5⟩ fun sd3 W3 ⟨w2, hw, z5⟩ => hK2 _ _ ⟨w2, hw⟩
      subst hw
      refine ⟨rfl, ?_⟩
      rw [gNs_e, gN_e, gNs_e, gN_e, gNs_e, gN_e, gN0_e]
      have w3 := Lw.set (i := 9) (x := d) (Lw.set (i := 8) (x := .str r.2.2) (Lw.set (i := 7) (x := .exn r.1 [(r.2.1, d)]) w2))
      obtain ⟨hk1, hc1⟩ := all_rows y hy r hr
      refine St.pass0 (Eb.or_f (Eb.tbl (Ev.reps td (.v (Lw.at_ (Lw.set (i := 8) (x := .str r.2.2) (Lw.set (i := 7) (x := .exn r.1 [(r.2.1, d)]) w2)))) (.v w3.2.2.1))) (Eb.tbl (Ev.kn (zs := [y.1, r.2.2]) (.v (set_at (set_at w2.at_))) (Ev.lst (.two (.v (set_at (set_at (set_at z5)))) (.v (set_at (Lw.at_ (Lw.set w2)))))) hk1 hc1))) (hK3 _ _ ⟨w3, rfl, set_at (set_at (set_at z5))⟩)
    · subst hw
      dsimp only
      exact St.pass0 (Eb.or_f (Eb.not (v := true) (Eb.tst (Ev.pr (.v w1.2.2.1) (.v w1.2.2.2) td te))) (Eb.not (v := true) (Eb.tst (Ev.nr (.v w1.2.2.1) td)))) (hK _ _ ⟨w1.2.1, w1.1, k2, g2, hP, by omega⟩)
  · dsimp only
    refine St.pass (Eb.or_f (Eb.tbl (Ev.kn (k := 21) (zs := ["answer", "deed"]) .n0 (Ev.lst (.two .k .k)))) (Eb.tbl (Ev.kn (k := 22) (zs := ["answer", "budget"]) .n0 (Ev.lst (.two .k .k))))) ?_
    refine St.asg (Ev.lst (.k (Ev.kc (k := 1) .n0) (.k (Ev.kc (k := 2) .n0) (.two (Ev.kc (k := 15) .n0) (Ev.kc (k := 20) .n0))))) ?_
    refine St.ret (d := .bl true) (Ev.and_t (Ev.eq (cl := qN) (ne := false) (v := true) (.v (List.getElem?_set_self (by omega))) (Ev.lst (.k (Ev.lst .n) (.k (Ev.lst (.one .k)) (.two (Ev.lst (.one .k)) (Ev.lst (.one .k)))))) (by decide +kernel) (by decide +kernel)) (Ev.isx .n0 (by decide))) (hq _)
end Mv
end
section
set_option Elab.async false
set_option linter.all false
set_option maxRecDepth 100000
set_option maxHeartbeats 8000000
namespace Mv
open PySem PySem.Spec L2 SX
theorem pf__law_draw (S : Sy) : ∀ ds W Q2 E2, sp__law_draw S ds W Q2 E2 → t__law_draw S { nx := fun _ W => Q2 .non W, rt := Q2 } (startD ["_law_pen_here", "_law_many", "_law_digit", "_law_spot", "_law_cell", "_law_great", "_law_mixed"] ds) W (fun x _ W => E2 x W) :=
  pf_draw (c1 := 40771) (c2 := 1409) (p1 := 2147483563) (c3 := 46729) (c4 := 431) (p2 := 2147483629) (c5 := 163) (c6 := 52813) (c7 := 97) (p3 := 2147483587) (q := qN) (n := 5) (by decide) (by decide) (by decide) (by decide) (by decide) (by decide) (by decide) (by decide) (by decide)
theorem pf__law_pick (S : Sy) : ∀ ds W Q2 E2, sp__law_pick S ds W Q2 E2 → t__law_pick S { nx := fun _ W => Q2 .non W, rt := Q2 } (startD ["_law_pen_here", "_law_some"] ds) W (fun x _ W => E2 x W) := pf_pick
theorem len__law_pen (S : Sy) : ∀ ds W Q E, sp__law_pen S ds W Q E → ds.length = 1 := fun ds W Q E h => by
  obtain ⟨_, rfl, _⟩ := h
  rfl
theorem pf__law_pen (S : Sy) : ∀ ds W Q2 E2, sp__law_pen S ds W Q2 E2 → t__law_pen S { nx := fun _ W => Q2 .non W, rt := Q2 } (startD ["_law_script"] ds) W (fun x _ W => E2 x W) := pf_pen
end Mv
end
section
set_option Elab.async false
set_option linter.all false
set_option maxRecDepth 100000
set_option maxHeartbeats 8000000
namespace Mv.K01
open PySem PySem.Spec L2 PyProof.Rows
open He (ga ma)
open He5 (DefA wf)
structure Wk (K : PySem.W.Frag) (mg : Str → Option Value) (base : Heap) : Prop where
  says : SaysM mf fn K
  kin : K.In base
  ns : base.Ns mainGlobals mg
variable {P : Program} {w : World} {K : PySem.W.Frag} {mg : Str → Option Value} {base : Heap}
theorem fa_0 (W : Wk K mg base) : f_0 K = true := W.says.fact 0 rfl
theorem fa_1 (W : Wk K mg base) : f_1 K = true := W.says.fact 1 rfl
theorem fa_2 (W : Wk K mg base) : f_2 K = true := W.says.fact 2 rfl
theorem fa_3 (W : Wk K mg base) : f_3 K = true := W.says.fact 3 rfl
theorem fa_4 (W : Wk K mg base) : f_4 K = true := W.says.fact 4 rfl
theorem fa_5 (W : Wk K mg base) : f_5 K = true := W.says.fact 5 rfl
theorem fa_6 (W : Wk K mg base) : f_6 K = true := W.says.fact 6 rfl
theorem fa_7 (W : Wk K mg base) : f_7 K = true := W.says.fact 7 rfl
theorem fa_8 (W : Wk K mg base) : f_8 K = true := W.says.fact 8 rfl
theorem fa_9 (W : Wk K mg base) : f_9 K = true := W.says.fact 9 rfl
theorem fa_10 (W : Wk K mg base) : f_10 K = true := W.says.fact 10 rfl
theorem fa_11 (W : Wk K mg base) : f_11 K = true := W.says.fact 11 rfl
theorem fa_12 (W : Wk K mg base) : f_12 K = true := W.says.fact 12 rfl
theorem fa_13 (W : Wk K mg base) : f_13 K = true := W.says.fact 13 rfl
theorem fa_14 (W : Wk K mg base) : f_14 K = true := W.says.fact 14 rfl
theorem fa_15 (W : Wk K mg base) : f_15 K = true := W.says.fact 15 rfl
theorem fa_16 (W : Wk K mg base) : f_16 K = true := W.says.fact 16 rfl
theorem fa_17 (W : Wk K mg base) : f_17 K = true := W.says.fact 17 rfl
theorem fa_18 (W : Wk K mg base) : f_18 K = true := W.says.fact 18 rfl
theorem fa_19 (W : Wk K mg base) : f_19 K = true := W.says.fact 19 rfl
theorem fa_20 (W : Wk K mg base) : f_20 K = true := W.says.fact 20 rfl
theorem fa_21 (W : Wk K mg base) : f_21 K = true := W.says.fact 21 rfl
theorem fa_22 (W : Wk K mg base) : f_22 K = true := W.says.fact 22 rfl
theorem fa_23 (W : Wk K mg base) : f_23 K = true := W.says.fact 23 rfl
theorem fa_24 (W : Wk K mg base) : f_24 K = true := W.says.fact 24 rfl
theorem fa_25 (W : Wk K mg base) : f_25 K = true := W.says.fact 25 rfl
theorem fa_26 (W : Wk K mg base) : f_26 K = true := W.says.fact 26 rfl
theorem fa_27 (W : Wk K mg base) : f_27 K = true := W.says.fact 27 rfl
theorem fa_28 (W : Wk K mg base) : f_28 K = true := W.says.fact 28 rfl
theorem fa_29 (W : Wk K mg base) : f_29 K = true := W.says.fact 29 rfl
theorem fa_30 (W : Wk K mg base) : f_30 K = true := W.says.fact 30 rfl
theorem fa_31 (W : Wk K mg base) : f_31 K = true := W.says.fact 31 rfl
theorem fa_32 (W : Wk K mg base) : f_32 K = true := W.says.fact 32 rfl
theorem fa_33 (W : Wk K mg base) : f_33 K = true := W.says.fact 33 rfl
theorem fa_34 (W : Wk K mg base) : f_34 K = true := W.says.fact 34 rfl
theorem fa_35 (W : Wk K mg base) : f_35 K = true := W.says.fact 35 rfl
theorem fa_36 (W : Wk K mg base) : f_36 K = true := W.says.fact 36 rfl
theorem fa_37 (W : Wk K mg base) : f_37 K = true := W.says.fact 37 rfl
theorem fa_38 (W : Wk K mg base) : f_38 K = true := W.says.fact 38 rfl
theorem fa_39 (W : Wk K mg base) : f_39 K = true := W.says.fact 39 rfl
theorem fa_40 (W : Wk K mg base) : f_40 K = true := W.says.fact 40 rfl
theorem fa_41 (W : Wk K mg base) : f_41 K = true := W.says.fact 41 rfl
theorem fa_42 (W : Wk K mg base) : f_42 K = true := W.says.fact 42 rfl
theorem fa_43 (W : Wk K mg base) : f_43 K = true := W.says.fact 43 rfl
theorem fa_44 (W : Wk K mg base) : f_44 K = true := W.says.fact 44 rfl
theorem fa_45 (W : Wk K mg base) : f_45 K = true := W.says.fact 45 rfl
theorem fa_46 (W : Wk K mg base) : f_46 K = true := W.says.fact 46 rfl
theorem fa_47 (W : Wk K mg base) : f_47 K = true := W.says.fact 47 rfl
theorem fa_48 (W : Wk K mg base) : f_48 K = true := W.says.fact 48 rfl
theorem fa_49 (W : Wk K mg base) : f_49 K = true := W.says.fact 49 rfl
theorem fa_50 (W : Wk K mg base) : f_50 K = true := W.says.fact 50 rfl
theorem fa_51 (W : Wk K mg base) : f_51 K = true := W.says.fact 51 rfl
theorem fa_52 (W : Wk K mg base) : f_52 K = true := W.says.fact 52 rfl
theorem fa_53 (W : Wk K mg base) : f_53 K = true := W.says.fact 53 rfl
theorem fa_54 (W : Wk K mg base) : f_54 K = true := W.says.fact 54 rfl
theorem fa_55 (W : Wk K mg base) : f_55 K = true := W.says.fact 55 rfl
theorem fa_56 (W : Wk K mg base) : f_56 K = true := W.says.fact 56 rfl
theorem fa_57 (W : Wk K mg base) : f_57 K = true := W.says.fact 57 rfl
theorem fa_58 (W : Wk K mg base) : f_58 K = true := W.says.fact 58 rfl
theorem fa_59 (W : Wk K mg base) : f_59 K = true := W.says.fact 59 rfl
theorem fa_60 (W : Wk K mg base) : f_60 K = true := W.says.fact 60 rfl
theorem fa_61 (W : Wk K mg base) : f_61 K = true := W.says.fact 61 rfl
theorem fa_62 (W : Wk K mg base) : f_62 K = true := W.says.fact 62 rfl
theorem fa_63 (W : Wk K mg base) : f_63 K = true := W.says.fact 63 rfl
theorem fa_64 (W : Wk K mg base) : f_64 K = true := W.says.fact 64 rfl
theorem fa_65 (W : Wk K mg base) : f_65 K = true := W.says.fact 65 rfl
theorem fa_66 (W : Wk K mg base) : f_66 K = true := W.says.fact 66 rfl
theorem fa_67 (W : Wk K mg base) : f_67 K = true := W.says.fact 67 rfl
theorem fa_68 (W : Wk K mg base) : f_68 K = true := W.says.fact 68 rfl
theorem fa_69 (W : Wk K mg base) : f_69 K = true := W.says.fact 69 rfl
theorem fa_70 (W : Wk K mg base) : f_70 K = true := W.says.fact 70 rfl
theorem fa_71 (W : Wk K mg base) : f_71 K = true := W.says.fact 71 rfl
theorem fa_72 (W : Wk K mg base) : f_72 K = true := W.says.fact 72 rfl
theorem fa_73 (W : Wk K mg base) : f_73 K = true := W.says.fact 73 rfl
theorem fa_74 (W : Wk K mg base) : f_74 K = true := W.says.fact 74 rfl
theorem fa_75 (W : Wk K mg base) : f_75 K = true := W.says.fact 75 rfl
theorem fa_76 (W : Wk K mg base) : f_76 K = true := W.says.fact 76 rfl
theorem fa_77 (W : Wk K mg base) : f_77 K = true := W.says.fact 77 rfl
theorem fa_78 (W : Wk K mg base) : f_78 K = true := W.says.fact 78 rfl
theorem fa_79 (W : Wk K mg base) : f_79 K = true := W.says.fact 79 rfl
theorem fa_80 (W : Wk K mg base) : f_80 K = true := W.says.fact 80 rfl
theorem fa_81 (W : Wk K mg base) : f_81 K = true := W.says.fact 81 rfl
theorem fa_82 (W : Wk K mg base) : f_82 K = true := W.says.fact 82 rfl
theorem fa_83 (W : Wk K mg base) : f_83 K = true := W.says.fact 83 rfl
theorem fa_84 (W : Wk K mg base) : f_84 K = true := W.says.fact 84 rfl
theorem fa_85 (W : Wk K mg base) : f_85 K = true := W.says.fact 85 rfl
theorem fa_86 (W : Wk K mg base) : f_86 K = true := W.says.fact 86 rfl
theorem fa_87 (W : Wk K mg base) : f_87 K = true := W.says.fact 87 rfl
theorem fa_88 (W : Wk K mg base) : f_88 K = true := W.says.fact 88 rfl
theorem fa_89 (W : Wk K mg base) : f_89 K = true := W.says.fact 89 rfl
theorem fa_90 (W : Wk K mg base) : f_90 K = true := W.says.fact 90 rfl
theorem fa_91 (W : Wk K mg base) : f_91 K = true := W.says.fact 91 rfl
theorem fa_92 (W : Wk K mg base) : f_92 K = true := W.says.fact 92 rfl
theorem fa_93 (W : Wk K mg base) : f_93 K = true := W.says.fact 93 rfl
theorem fa_94 (W : Wk K mg base) : f_94 K = true := W.says.fact 94 rfl
theorem fa_95 (W : Wk K mg base) : f_95 K = true := W.says.fact 95 rfl
theorem fa_96 (W : Wk K mg base) : f_96 K = true := W.says.fact 96 rfl
theorem fa_97 (W : Wk K mg base) : f_97 K = true := W.says.fact 97 rfl
theorem fa_98 (W : Wk K mg base) : f_98 K = true := W.says.fact 98 rfl
theorem fa_99 (W : Wk K mg base) : f_99 K = true := W.says.fact 99 rfl
theorem fa_100 (W : Wk K mg base) : f_100 K = true := W.says.fact 100 rfl
theorem fa_101 (W : Wk K mg base) : f_101 K = true := W.says.fact 101 rfl
theorem fa_102 (W : Wk K mg base) : f_102 K = true := W.says.fact 102 rfl
theorem fa_103 (W : Wk K mg base) : f_103 K = true := W.says.fact 103 rfl
theorem fa_104 (W : Wk K mg base) : f_104 K = true := W.says.fact 104 rfl
theorem fa_105 (W : Wk K mg base) : f_105 K = true := W.says.fact 105 rfl
theorem fa_106 (W : Wk K mg base) : f_106 K = true := W.says.fact 106 rfl
theorem fa_107 (W : Wk K mg base) : f_107 K = true := W.says.fact 107 rfl
theorem fa_108 (W : Wk K mg base) : f_108 K = true := W.says.fact 108 rfl
theorem fa_109 (W : Wk K mg base) : f_109 K = true := W.says.fact 109 rfl
theorem fa_110 (W : Wk K mg base) : f_110 K = true := W.says.fact 110 rfl
theorem fa_111 (W : Wk K mg base) : f_111 K = true := W.says.fact 111 rfl
theorem fa_112 (W : Wk K mg base) : f_112 K = true := W.says.fact 112 rfl
theorem fa_113 (W : Wk K mg base) : f_113 K = true := W.says.fact 113 rfl
theorem fa_114 (W : Wk K mg base) : f_114 K = true := W.says.fact 114 rfl
theorem fa_115 (W : Wk K mg base) : f_115 K = true := W.says.fact 115 rfl
theorem fa_116 (W : Wk K mg base) : f_116 K = true := W.says.fact 116 rfl
theorem fa_117 (W : Wk K mg base) : f_117 K = true := W.says.fact 117 rfl
theorem fa_118 (W : Wk K mg base) : f_118 K = true := W.says.fact 118 rfl
theorem fa_119 (W : Wk K mg base) : f_119 K = true := W.says.fact 119 rfl
theorem fa_120 (W : Wk K mg base) : f_120 K = true := W.says.fact 120 rfl
theorem fa_121 (W : Wk K mg base) : f_121 K = true := W.says.fact 121 rfl
theorem fa_122 (W : Wk K mg base) : f_122 K = true := W.says.fact 122 rfl
theorem fa_123 (W : Wk K mg base) : f_123 K = true := W.says.fact 123 rfl
theorem fa_124 (W : Wk K mg base) : f_124 K = true := W.says.fact 124 rfl
theorem fa_125 (W : Wk K mg base) : f_125 K = true := W.says.fact 125 rfl
theorem fa_126 (W : Wk K mg base) : f_126 K = true := W.says.fact 126 rfl
theorem fa_127 (W : Wk K mg base) : f_127 K = true := W.says.fact 127 rfl
theorem fa_128 (W : Wk K mg base) : f_128 K = true := W.says.fact 128 rfl
theorem fa_129 (W : Wk K mg base) : f_129 K = true := W.says.fact 129 rfl
theorem fa_130 (W : Wk K mg base) : f_130 K = true := W.says.fact 130 rfl
theorem fa_131 (W : Wk K mg base) : f_131 K = true := W.says.fact 131 rfl
theorem fa_132 (W : Wk K mg base) : f_132 K = true := W.says.fact 132 rfl
theorem fa_133 (W : Wk K mg base) : f_133 K = true := W.says.fact 133 rfl
theorem fa_134 (W : Wk K mg base) : f_134 K = true := W.says.fact 134 rfl
theorem fa_135 (W : Wk K mg base) : f_135 K = true := W.says.fact 135 rfl
theorem fa_136 (W : Wk K mg base) : f_136 K = true := W.says.fact 136 rfl
theorem fa_137 (W : Wk K mg base) : f_137 K = true := W.says.fact 137 rfl
theorem fa_138 (W : Wk K mg base) : f_138 K = true := W.says.fact 138 rfl
theorem fa_139 (W : Wk K mg base) : f_139 K = true := W.says.fact 139 rfl
theorem fa_140 (W : Wk K mg base) : f_140 K = true := W.says.fact 140 rfl
theorem fa_141 (W : Wk K mg base) : f_141 K = true := W.says.fact 141 rfl
theorem fa_142 (W : Wk K mg base) : f_142 K = true := W.says.fact 142 rfl
theorem fa_143 (W : Wk K mg base) : f_143 K = true := W.says.fact 143 rfl
theorem fa_144 (W : Wk K mg base) : f_144 K = true := W.says.fact 144 rfl
theorem fa_145 (W : Wk K mg base) : f_145 K = true := W.says.fact 145 rfl
theorem fa_146 (W : Wk K mg base) : f_146 K = true := W.says.fact 146 rfl
theorem fa_147 (W : Wk K mg base) : f_147 K = true := W.says.fact 147 rfl
theorem fa_148 (W : Wk K mg base) : f_148 K = true := W.says.fact 148 rfl
theorem fa_149 (W : Wk K mg base) : f_149 K = true := W.says.fact 149 rfl
theorem fa_150 (W : Wk K mg base) : f_150 K = true := W.says.fact 150 rfl
theorem fa_151 (W : Wk K mg base) : f_151 K = true := W.says.fact 151 rfl
theorem fa_152 (W : Wk K mg base) : f_152 K = true := W.says.fact 152 rfl
theorem fa_153 (W : Wk K mg base) : f_153 K = true := W.says.fact 153 rfl
theorem fa_154 (W : Wk K mg base) : f_154 K = true := W.says.fact 154 rfl
theorem fa_155 (W : Wk K mg base) : f_155 K = true := W.says.fact 155 rfl
theorem fa_156 (W : Wk K mg base) : f_156 K = true := W.says.fact 156 rfl
theorem fa_157 (W : Wk K mg base) : f_157 K = true := W.says.fact 157 rfl
theorem fa_158 (W : Wk K mg base) : f_158 K = true := W.says.fact 158 rfl
theorem fa_159 (W : Wk K mg base) : f_159 K = true := W.says.fact 159 rfl
theorem fa_160 (W : Wk K mg base) : f_160 K = true := W.says.fact 160 rfl
theorem fa_161 (W : Wk K mg base) : f_161 K = true := W.says.fact 161 rfl
theorem fa_162 (W : Wk K mg base) : f_162 K = true := W.says.fact 162 rfl
theorem fa_163 (W : Wk K mg base) : f_163 K = true := W.says.fact 163 rfl
theorem fa_164 (W : Wk K mg base) : f_164 K = true := W.says.fact 164 rfl
theorem fa_165 (W : Wk K mg base) : f_165 K = true := W.says.fact 165 rfl
theorem fa_166 (W : Wk K mg base) : f_166 K = true := W.says.fact 166 rfl
theorem fa_167 (W : Wk K mg base) : f_167 K = true := W.says.fact 167 rfl
theorem fa_168 (W : Wk K mg base) : f_168 K = true := W.says.fact 168 rfl
theorem fa_169 (W : Wk K mg base) : f_169 K = true := W.says.fact 169 rfl
abbrev sy (W : Wk K mg base) : Sy := syK cn cpl K (fa_0 W)
theorem smok (W : Wk K mg base) : SmOk (sy W).K := smB_ok (fa_1 W)
theorem b_list (W : Wk K mg base) : mg "list" = none := He.free_ok W.kin W.ns (fa_2 W)
theorem sc__law_pen : FnScope ["_law_script"] ["_law_script"] (defScope s__law_pen) := ⟨rfl, rfl, rfl, by decide +kernel, rfl, by decide +kernel, by decide +kernel⟩
theorem dv__law_pen {P : Program} {w : World} {K : PySem.W.Frag} {mg : Str → Option Value} {base : Heap} (W : Wk K mg base) : ∀ (cdv : Value) (A : Around) (outer : List Env) (s : Shared) (H : Hp) (E : XK), Room 3 (A.deeper (envOfC d__law_pen.qual d__law_pen.scope s.heap.objs.size (d__law_pen.at_ K) cdv)) →
    Takes (cxOf (L2.CX P w) P w K mg base ["_law_script"] d__law_pen.qual d__law_pen.scope (d__law_pen.at_ K) cdv A outer s H E) (fun cls d _ H => E cls d H) → PBd (cxOf (L2.CX P w) P w K mg base ["_law_script"] d__law_pen.qual d__law_pen.scope (d__law_pen.at_ K) cdv A outer s H E) (sy W) (fun cls d _ H => E cls d H) d__law_pen.body (t__law_pen (sy W)) :=
  fun cdv A outer s H E hr tk => (pb_one (psd_ret (pd_lstM (pad_cons (pd_callTy (cl_list rfl) (pad_cons (pd_slice rfl (pd_var 0) pod_none (pod_some pd_int)) pad_nil) (b_list W)) (pad_cons pd_int (pad_cons pd_int pad_nil))))))
theorem fn__law_pen {P : Program} {w : World} {K : PySem.W.Frag} {mg : Str → Option Value} {base : Heap} (W : Wk K mg base) : FnD P w (sy W) mg base 4 (d__law_pen.at_ K) 1 [] (sp__law_pen (sy W)) := by
  obtain ⟨fd, F⟩ := W.says.def_ 0 (d := d__law_pen) rfl
  exact fnD_mk (ps := ["_law_script"]) (S := sy W) F (fnD_of (S := sy W) F sc__law_pen (len__law_pen (sy W)) (dv__law_pen W) (pf__law_pen (sy W))) fun _ _ _ _ _ _ us hl => match us, hl with | [_], _ => rfl
theorem b_int (W : Wk K mg base) : mg "int" = none := He.free_ok W.kin W.ns (fa_3 W)
theorem eqo_qN {P : Program} {w : World} {K : PySem.W.Frag} {mg : Str → Option Value} {base : Heap} (W : Wk K mg base) (X : Cx) (hK : X.K = K) (hP : X.prog = P) (hw : X.w = w) (hm : X.mg = mg) (hb : X.base = base) : EqO X (sy W) qN 0 := ⟨hK, fun _ _ _ _ h => (nomatch h), fun _ _ _ _ h => (nomatch h), fun _ _ _ _ h => (nomatch h)⟩
theorem b_len (W : Wk K mg base) : mg "len" = none := He.free_ok W.kin W.ns (fa_4 W)
theorem b_abs (W : Wk K mg base) : mg "abs" = none := He.free_ok W.kin W.ns (fa_5 W)
theorem sc__law_draw : FnScope ["_law_pen_here", "_law_many", "_law_digit", "_law_spot", "_law_cell", "_law_great", "_law_mixed"] ["_law_pen_here", "_law_many"] (defScope s__law_draw) := ⟨rfl, rfl, rfl, by decide +kernel, rfl, by decide +kernel, by decide +kernel⟩
theorem dv__law_draw {P : Program} {w : World} {K : PySem.W.Frag} {mg : Str → Option Value} {base : Heap} (W : Wk K mg base) : ∀ (cdv : Value) (A : Around) (outer : List Env) (s : Shared) (H : Hp) (E : XK), Room 12 (A.deeper (envOfC d__law_draw.qual d__law_draw.scope s.heap.objs.size (d__law_draw.at_ K) cdv)) →
    Takes (cxOf (L2.CX P w) P w K mg base ["_law_pen_here", "_law_many", "_law_digit", "_law_spot", "_law_cell", "_law_great", "_law_mixed"] d__law_draw.qual d__law_draw.scope (d__law_draw.at_ K) cdv A outer s H E) (fun cls d _ H => E cls d H) → PBd (cxOf (L2.CX P w) P w K mg base ["_law_pen_here", "_law_many", "_law_digit", "_law_spot", "_law_cell", "_law_great", "_law_mixed"] d__law_draw.qual d__law_draw.scope (d__law_draw.at_ K) cdv A outer s H E) (sy W) (fun cls d _ H => E cls d H) d__law_draw.body (t__law_draw (sy W)) :=
  fun cdv A outer s H E hr tk => (pb_cons (psd_if (pt_cmpD (od_gt rfl tk hr OwnCm.none) (pd_ix (ix_d rfl) (pd_var 0) pd_int) pd_int (L2.nomark _)) (pb_cons (psd_set sc__law_draw.nd (pd_op (od_mod rfl tk hr OwnOp.none) (pd_callTy cl_int (pad_cons (pd_ix (ix_d rfl) (pd_var 0) pd_int) pad_nil) (b_int W)) (pd_var 1))) (pb_cons (psd_asg (pd_op (od_fdiv rfl tk hr OwnOp.none) (pd_callTy cl_int (pad_cons (pd_ix (ix_d rfl) (pd_var 0) pd_int) pad_nil) (b_int W)) (pd_var 1)) (pgd_setL (pd_var 0) pd_int)) (pb_one (psd_ret (pd_var 2))))) pb_nil) (pb_cons (psd_set sc__law_draw.nd (pd_ix (ix_d rfl) (pd_var 0) pd_int)) (pb_cons (psd_asg (pd_op (od_add rfl tk hr OwnOp.none) (pd_var 3) pd_int) (pgd_setL (pd_var 0) pd_int)) (pb_cons (psd_set sc__law_draw.nd (pd_op (od_add rfl tk hr OwnOp.none) (pd_op (od_mul rfl tk hr OwnOp.none) pd_int (pd_var 3)) pd_int)) (pb_cons (psd_if (pt_cmpD (od_ne (eqo_qN W _ rfl rfl rfl rfl rfl) hr (by decide)) (pd_ix (ix_d rfl) (pd_var 0) pd_int) (pd_lst pad_nil) (L2.nomark _)) (pb_one (psd_set sc__law_draw.nd (pd_ix (ix_d rfl) (pd_ix (ix_d rfl) (pd_var 0) pd_int) (pd_op (od_mod rfl tk hr OwnOp.none) (pd_callTy cl_int (pad_cons (pd_var 3) pad_nil) (b_int W)) (pd_callB (cl_len rfl) (pad_cons (pd_ix (ix_d rfl) (pd_var 0) pd_int) pad_nil) (b_len W)))))) pb_nil) (pb_cons (psd_if (PWd.pt (pw_and (pt_cmpD (od_lt rfl tk hr OwnCm.none) (pd_var 3) (pd_callB (cl_len rfl) (pad_cons (pd_ix (ix_d rfl) (pd_var 0) pd_int) pad_nil) (b_len W)) (L2.nomark _)) (pw_and1 (pt_cmpD (od_ge rfl tk hr OwnCm.none) (pd_callB cl_abs (pad_cons (pd_var 4) pad_nil) (b_abs W)) (pd_op od_pow pd_int pd_int) (L2.nomark _))))) (pb_cons (psd_set sc__law_draw.nd (pd_op (od_add rfl tk hr OwnOp.none) (pd_op (od_mul rfl tk hr OwnOp.none) pd_int (pd_op (od_sub rfl tk hr OwnOp.none) (pd_callB cl_abs (pad_cons (pd_var 4) pad_nil) (b_abs W)) (pd_op od_pow pd_int pd_int))) (pd_callTy cl_int (pad_cons (pd_cmp (od_lt rfl tk hr OwnCm.none) (pd_var 4) pd_int (L2.nomark _)) pad_nil) (b_int W)))) (pb_cons (psd_asg (pd_op (od_fdiv rfl tk hr OwnOp.none) (pd_callTy cl_int (pad_cons (pd_var 5) pad_nil) (b_int W)) (pd_var 1)) (pgd_setL (pd_var 0) pd_int)) (pb_one (psd_ret (pd_op (od_mod rfl tk hr OwnOp.none) (pd_callTy cl_int (pad_cons (pd_var 5) pad_nil) (b_int W)) (pd_var 1)))))) pb_nil) (pb_cons (psd_set sc__law_draw.nd (pd_op (od_mod rfl tk hr OwnOp.none) (pd_callTy cl_int (pad_cons (pd_op od_pow (pd_op (od_add rfl tk hr OwnOp.none) (pd_op (od_add rfl tk hr OwnOp.none) (pd_op (od_mod rfl tk hr OwnOp.none) (pd_callTy cl_int (pad_cons (pd_var 4) pad_nil) (b_int W)) pd_int) (pd_op (od_mul rfl tk hr OwnOp.none) pd_int (pd_var 3))) pd_int) pd_int) pad_nil) (b_int W)) pd_int)) (pb_cons (psd_set sc__law_draw.nd (pd_op (od_mod rfl tk hr OwnOp.none) (pd_callTy cl_int (pad_cons (pd_op od_pow (pd_op (od_add rfl tk hr OwnOp.none) (pd_op (od_add rfl tk hr OwnOp.none) (pd_op (od_mul rfl tk hr OwnOp.none) (pd_var 6) (pd_op (od_add rfl tk hr OwnOp.none) (pd_op (od_mul rfl tk hr OwnOp.none) pd_int (pd_var 3)) pd_int)) (pd_op (od_mul rfl tk hr OwnOp.none) (pd_op (od_mul rfl tk hr OwnOp.none) pd_int (pd_var 3)) (pd_var 3))) pd_int) pd_int) pad_nil) (b_int W)) pd_int)) (pb_one (psd_ret (pd_op (od_mod rfl tk hr OwnOp.none) (pd_callTy cl_int (pad_cons (pd_op (od_fdiv rfl tk hr OwnOp.none) (pd_var 6) pd_int) pad_nil) (b_int W)) (pd_var 1))))))))))))
theorem fn__law_draw {P : Program} {w : World} {K : PySem.W.Frag} {mg : Str → Option Value} {base : Heap} (W : Wk K mg base) : FnD P w (sy W) mg base 13 (d__law_draw.at_ K) 2 [] (sp__law_draw (sy W)) := by
  obtain ⟨fd, F⟩ := W.says.def_ 1 (d := d__law_draw) rfl
  exact fnD_mk (ps := ["_law_pen_here", "_law_many"]) (S := sy W) F (fnD_of (S := sy W) F sc__law_draw (len__law_draw (sy W)) (dv__law_draw W) (pf__law_draw (sy W))) fun _ _ _ _ _ _ us hl => match us, hl with | [_, _], _ => rfl
theorem g__law_draw (W : Wk K mg base) : mg "_law_draw" = some (.ref (ga K "_law_draw")) := He.glo_ok W.kin W.ns (fa_6 W)
theorem sc__law_pick : FnScope ["_law_pen_here", "_law_some"] ["_law_pen_here", "_law_some"] (defScope s__law_pick) := ⟨rfl, rfl, rfl, by decide +kernel, rfl, by decide +kernel, by decide +kernel⟩
theorem dv__law_pick {P : Program} {w : World} {K : PySem.W.Frag} {mg : Str → Option Value} {base : Heap} (W : Wk K mg base) : ∀ (cdv : Value) (A : Around) (outer : List Env) (s : Shared) (H : Hp) (E : XK), Room 16 (A.deeper (envOfC d__law_pick.qual d__law_pick.scope s.heap.objs.size (d__law_pick.at_ K) cdv)) →
    Takes (cxOf (L2.CX P w) P w K mg base ["_law_pen_here", "_law_some"] d__law_pick.qual d__law_pick.scope (d__law_pick.at_ K) cdv A outer s H E) (fun cls d _ H => E cls d H) → PBd (cxOf (L2.CX P w) P w K mg base ["_law_pen_here", "_law_some"] d__law_pick.qual d__law_pick.scope (d__law_pick.at_ K) cdv A outer s H E) (sy W) (fun cls d _ H => E cls d H) d__law_pick.body (t__law_pick (sy W)) :=
  fun cdv A outer s H E hr tk => (pb_one (psd_ret (pd_ix (ix_d rfl) (pd_var 1) (pd_call rfl tk hr ((fn__law_draw W).mono (by decide)) (g__law_draw W) (pad_cons (pd_var 0) (pad_cons (pd_callB (cl_len rfl) (pad_cons (pd_var 1) pad_nil) (b_len W)) pad_nil))))))
theorem fn__law_pick {P : Program} {w : World} {K : PySem.W.Frag} {mg : Str → Option Value} {base : Heap} (W : Wk K mg base) : FnD P w (sy W) mg base 17 (d__law_pick.at_ K) 2 [] (sp__law_pick (sy W)) := by
  obtain ⟨fd, F⟩ := W.says.def_ 2 (d := d__law_pick) rfl
  exact fnD_mk (ps := ["_law_pen_here", "_law_some"]) (S := sy W) F (fnD_of (S := sy W) F sc__law_pick (len__law_pick (sy W)) (dv__law_pick W) (pf__law_pick (sy W))) fun _ _ _ _ _ _ us hl => match us, hl with | [_, _], _ => rfl
theorem g__law_pick (W : Wk K mg base) : mg "_law_pick" = some (.ref (ga K "_law_pick")) := He.glo_ok W.kin W.ns (fa_7 W)
theorem sc__law_value : FnScope ["_law_pen_here", "_law_some"] ["_law_pen_here"] (defScope s__law_value) := ⟨rfl, rfl, rfl, by decide +kernel, rfl, by decide +kernel, by decide +kernel⟩
theorem dv__law_value {P : Program} {w : World} {K : PySem.W.Frag} {mg : Str → Option Value} {base : Heap} (W : Wk K mg base) : ∀ (cdv : Value) (A : Around) (outer : List Env) (s : Shared) (H : Hp) (E : XK), Room 20 (A.deeper (envOfC d__law_value.qual d__law_value.scope s.heap.objs.size (d__law_value.at_ K) cdv)) →
    Takes (cxOf (L2.CX P w) P w K mg base ["_law_pen_here", "_law_some"] d__law_value.qual d__law_value.scope (d__law_value.at_ K) cdv A outer s H E) (fun cls d _ H => E cls d H) → PBd (cxOf (L2.CX P w) P w K mg base ["_law_pen_here", "_law_some"] d__law_value.qual d__law_value.scope (d__law_value.at_ K) cdv A outer s H E) (sy W) (fun cls d _ H => E cls d H) d__law_value.body (t__law_value (sy W)) :=
  fun cdv A outer s H E hr tk => (pb_cons (psd_set sc__law_value.nd (pd_lst (pad_cons pd_non (pad_cons pd_bl (pad_cons pd_int (pad_cons (pd_neg pd_int) (pad_cons (pd_op od_pow pd_int pd_int) (pad_cons pd_str (pad_cons pd_str (pad_cons (pd_tup (pad_cons pd_int (pad_cons pd_str pad_nil))) (pad_cons (pd_lst (pad_cons pd_non pad_nil)) (pad_cons (pd_dp1K pd_str (pd_lst (pad_cons pd_int pad_nil))) (pad_cons (pd_op od_repS pd_str pd_int) (pad_cons (pd_tup pad_nil) pad_nil)))))))))))))) (pb_one (psd_ret (pd_call rfl tk hr ((fn__law_pick W).mono (by decide)) (g__law_pick W) (pad_cons (pd_var 0) (pad_cons (pd_op (od_add rfl tk hr OwnOp.none) (pd_var 1) (pd_lst (pad_cons (pd_call rfl tk hr ((fn__law_draw W).mono (by decide)) (g__law_draw W) (pad_cons (pd_var 0) (pad_cons (pd_op od_pow pd_int pd_int) pad_nil))) pad_nil))) pad_nil))))))
theorem fn__law_value {P : Program} {w : World} {K : PySem.W.Frag} {mg : Str → Option Value} {base : Heap} (W : Wk K mg base) : FnD P w (sy W) mg base 21 (d__law_value.at_ K) 1 [] (sp__law_value (sy W)) := by
  obtain ⟨fd, F⟩ := W.says.def_ 3 (d := d__law_value) rfl
  exact fnD_mk (ps := ["_law_pen_here"]) (S := sy W) F (fnD_of (S := sy W) F sc__law_value (len__law_value (sy W)) (dv__law_value W) (pf__law_value (sy W))) fun _ _ _ _ _ _ us hl => match us, hl with | [_], _ => rfl
theorem ix_BadInput (W : Wk K mg base) : IsxF (sy W) ((sy W).ca 2) (lkX [(3, true), (4, true), (5, true), (6, true), (7, true), (8, true), (9, true), (50, true), (10, true), (11, true), (12, true), (51, true), (13, true), (14, true), (16, false), (17, false), (18, false), (52, false), (53, false), (54, false), (19, false), (1, false), (2, true), (15, false), (20, false), (21, false), (22, false)]) := ⟨isxs_core (ca := (sy W).ca) (cs := [3, 4, 5, 6, 7, 8, 9, 50, 10, 11, 12, 51, 13, 14, 16, 17, 18, 52, 53, 54, 19, 1, 2, 15, 20, 21, 22]) (l := ([(3, true), (4, true), (5, true), (6, true), (7, true), (8, true), (9, true), (50, true), (10, true), (11, true), (12, true), (51, true), (13, true), (14, true), (16, false), (17, false), (18, false), (52, false), (53, false), (54, false), (19, false), (1, false), (2, true), (15, false), (20, false), (21, false), (22, false)] : List (Nat × Bool))) (fa_8 W) (fa_9 W) (by decide)⟩
theorem g_BadInput (W : Wk K mg base) : mg "BadInput" = some (.ref (ga K "BadInput")) := He.glo_ok W.kin W.ns (fa_10 W)
theorem b_isinstance (W : Wk K mg base) : mg "isinstance" = none := He.free_ok W.kin W.ns (fa_11 W)
theorem ix_Refused (W : Wk K mg base) : IsxF (sy W) ((sy W).ca 15) (lkX [(3, false), (4, false), (5, false), (6, false), (7, false), (8, false), (9, false), (50, false), (10, false), (11, false), (12, false), (51, false), (13, false), (14, false), (16, true), (17, true), (18, true), (52, true), (53, true), (54, true), (19, true), (1, false), (2, false), (15, true), (20, false), (21, false), (22, false)]) := ⟨isxs_core (ca := (sy W).ca) (cs := [3, 4, 5, 6, 7, 8, 9, 50, 10, 11, 12, 51, 13, 14, 16, 17, 18, 52, 53, 54, 19, 1, 2, 15, 20, 21, 22]) (l := ([(3, false), (4, false), (5, false), (6, false), (7, false), (8, false), (9, false), (50, false), (10, false), (11, false), (12, false), (51, false), (13, false), (14, false), (16, true), (17, true), (18, true), (52, true), (53, true), (54, true), (19, true), (1, false), (2, false), (15, true), (20, false), (21, false), (22, false)] : List (Nat × Bool))) (fa_8 W) (fa_12 W) (by decide)⟩
theorem g_Refused (W : Wk K mg base) : mg "Refused" = some (.ref (ga K "Refused")) := He.glo_ok W.kin W.ns (fa_13 W)
theorem ix_NoAnswer (W : Wk K mg base) : IsxF (sy W) ((sy W).ca 20) (lkX [(3, false), (4, false), (5, false), (6, false), (7, false), (8, false), (9, false), (50, false), (10, false), (11, false), (12, false), (51, false), (13, false), (14, false), (16, false), (17, false), (18, false), (52, false), (53, false), (54, false), (19, false), (1, false), (2, false), (15, false), (20, true), (21, true), (22, true)]) := ⟨isxs_core (ca := (sy W).ca) (cs := [3, 4, 5, 6, 7, 8, 9, 50, 10, 11, 12, 51, 13, 14, 16, 17, 18, 52, 53, 54, 19, 1, 2, 15, 20, 21, 22]) (l := ([(3, false), (4, false), (5, false), (6, false), (7, false), (8, false), (9, false), (50, false), (10, false), (11, false), (12, false), (51, false), (13, false), (14, false), (16, false), (17, false), (18, false), (52, false), (53, false), (54, false), (19, false), (1, false), (2, false), (15, false), (20, true), (21, true), (22, true)] : List (Nat × Bool))) (fa_8 W) (fa_14 W) (by decide)⟩
theorem g_NoAnswer (W : Wk K mg base) : mg "NoAnswer" = some (.ref (ga K "NoAnswer")) := He.glo_ok W.kin W.ns (fa_15 W)
theorem ix_BadAmount (W : Wk K mg base) : IsxF (sy W) ((sy W).ca 3) (lkX [(3, true), (4, false), (5, false), (6, false), (7, false), (8, false), (9, false), (50, false), (10, false), (11, false), (12, false), (51, false), (13, false), (14, false), (16, false), (17, false), (18, false), (52, false), (53, false), (54, false), (19, false), (1, false), (2, false), (15, false), (20, false), (21, false), (22, false)]) := ⟨isxs_core (ca := (sy W).ca) (cs := [3, 4, 5, 6, 7, 8, 9, 50, 10, 11, 12, 51, 13, 14, 16, 17, 18, 52, 53, 54, 19, 1, 2, 15, 20, 21, 22]) (l := ([(3, true), (4, false), (5, false), (6, false), (7, false), (8, false), (9, false), (50, false), (10, false), (11, false), (12, false), (51, false), (13, false), (14, false), (16, false), (17, false), (18, false), (52, false), (53, false), (54, false), (19, false), (1, false), (2, false), (15, false), (20, false), (21, false), (22, false)] : List (Nat × Bool))) (fa_8 W) (fa_16 W) (by decide)⟩
theorem g_BadAmount (W : Wk K mg base) : mg "BadAmount" = some (.ref (ga K "BadAmount")) := He.glo_ok W.kin W.ns (fa_17 W)
theorem ix_BadName (W : Wk K mg base) : IsxF (sy W) ((sy W).ca 4) (lkX [(3, false), (4, true), (5, false), (6, false), (7, false), (8, false), (9, false), (50, false), (10, false), (11, false), (12, false), (51, false), (13, false), (14, false), (16, false), (17, false), (18, false), (52, false), (53, false), (54, false), (19, false), (1, false), (2, false), (15, false), (20, false), (21, false), (22, false)]) := ⟨isxs_core (ca := (sy W).ca) (cs := [3, 4, 5, 6, 7, 8, 9, 50, 10, 11, 12, 51, 13, 14, 16, 17, 18, 52, 53, 54, 19, 1, 2, 15, 20, 21, 22]) (l := ([(3, false), (4, true), (5, false), (6, false), (7, false), (8, false), (9, false), (50, false), (10, false), (11, false), (12, false), (51, false), (13, false), (14, false), (16, false), (17, false), (18, false), (52, false), (53, false), (54, false), (19, false), (1, false), (2, false), (15, false), (20, false), (21, false), (22, false)] : List (Nat × Bool))) (fa_8 W) (fa_18 W) (by decide)⟩
theorem g_BadName (W : Wk K mg base) : mg "BadName" = some (.ref (ga K "BadName")) := He.glo_ok W.kin W.ns (fa_19 W)
theorem ix_BadCount (W : Wk K mg base) : IsxF (sy W) ((sy W).ca 5) (lkX [(3, false), (4, false), (5, true), (6, false), (7, false), (8, false), (9, false), (50, false), (10, false), (11, false), (12, false), (51, false), (13, false), (14, false), (16, false), (17, false), (18, false), (52, false), (53, false), (54, false), (19, false), (1, false), (2, false), (15, false), (20, false), (21, false), (22, false)]) := ⟨isxs_core (ca := (sy W).ca) (cs := [3, 4, 5, 6, 7, 8, 9, 50, 10, 11, 12, 51, 13, 14, 16, 17, 18, 52, 53, 54, 19, 1, 2, 15, 20, 21, 22]) (l := ([(3, false), (4, false), (5, true), (6, false), (7, false), (8, false), (9, false), (50, false), (10, false), (11, false), (12, false), (51, false), (13, false), (14, false), (16, false), (17, false), (18, false), (52, false), (53, false), (54, false), (19, false), (1, false), (2, false), (15, false), (20, false), (21, false), (22, false)] : List (Nat × Bool))) (fa_8 W) (fa_20 W) (by decide)⟩
theorem g_BadCount (W : Wk K mg base) : mg "BadCount" = some (.ref (ga K "BadCount")) := He.glo_ok W.kin W.ns (fa_21 W)
theorem ix_BadLimit (W : Wk K mg base) : IsxF (sy W) ((sy W).ca 6) (lkX [(3, false), (4, false), (5, false), (6, true), (7, false), (8, false), (9, false), (50, false), (10, false), (11, false), (12, false), (51, false), (13, false), (14, false), (16, false), (17, false), (18, false), (52, false), (53, false), (54, false), (19, false), (1, false), (2, false), (15, false), (20, false), (21, false), (22, false)]) := ⟨isxs_core (ca := (sy W).ca) (cs := [3, 4, 5, 6, 7, 8, 9, 50, 10, 11, 12, 51, 13, 14, 16, 17, 18, 52, 53, 54, 19, 1, 2, 15, 20, 21, 22]) (l := ([(3, false), (4, false), (5, false), (6, true), (7, false), (8, false), (9, false), (50, false), (10, false), (11, false), (12, false), (51, false), (13, false), (14, false), (16, false), (17, false), (18, false), (52, false), (53, false), (54, false), (19, false), (1, false), (2, false), (15, false), (20, false), (21, false), (22, false)] : List (Nat × Bool))) (fa_8 W) (fa_22 W) (by decide)⟩
theorem g_BadLimit (W : Wk K mg base) : mg "BadLimit" = some (.ref (ga K "BadLimit")) := He.glo_ok W.kin W.ns (fa_23 W)
theorem ix_BadBook (W : Wk K mg base) : IsxF (sy W) ((sy W).ca 7) (lkX [(3, false), (4, false), (5, false), (6, false), (7, true), (8, false), (9, false), (50, false), (10, false), (11, false), (12, false), (51, false), (13, false), (14, false), (16, false), (17, false), (18, false), (52, false), (53, false), (54, false), (19, false), (1, false), (2, false), (15, false), (20, false), (21, false), (22, false)]) := ⟨isxs_core (ca := (sy W).ca) (cs := [3, 4, 5, 6, 7, 8, 9, 50, 10, 11, 12, 51, 13, 14, 16, 17, 18, 52, 53, 54, 19, 1, 2, 15, 20, 21, 22]) (l := ([(3, false), (4, false), (5, false), (6, false), (7, true), (8, false), (9, false), (50, false), (10, false), (11, false), (12, false), (51, false), (13, false), (14, false), (16, false), (17, false), (18, false), (52, false), (53, false), (54, false), (19, false), (1, false), (2, false), (15, false), (20, false), (21, false), (22, false)] : List (Nat × Bool))) (fa_8 W) (fa_24 W) (by decide)⟩
theorem g_BadBook (W : Wk K mg base) : mg "BadBook" = some (.ref (ga K "BadBook")) := He.glo_ok W.kin W.ns (fa_25 W)
theorem ix_BadFirsts (W : Wk K mg base) : IsxF (sy W) ((sy W).ca 8) (lkX [(3, false), (4, false), (5, false), (6, false), (7, false), (8, true), (9, false), (50, false), (10, false), (11, false), (12, false), (51, false), (13, false), (14, false), (16, false), (17, false), (18, false), (52, false), (53, false), (54, false), (19, false), (1, false), (2, false), (15, false), (20, false), (21, false), (22, false)]) := ⟨isxs_core (ca := (sy W).ca) (cs := [3, 4, 5, 6, 7, 8, 9, 50, 10, 11, 12, 51, 13, 14, 16, 17, 18, 52, 53, 54, 19, 1, 2, 15, 20, 21, 22]) (l := ([(3, false), (4, false), (5, false), (6, false), (7, false), (8, true), (9, false), (50, false), (10, false), (11, false), (12, false), (51, false), (13, false), (14, false), (16, false), (17, false), (18, false), (52, false), (53, false), (54, false), (19, false), (1, false), (2, false), (15, false), (20, false), (21, false), (22, false)] : List (Nat × Bool))) (fa_8 W) (fa_26 W) (by decide)⟩
theorem g_BadFirsts (W : Wk K mg base) : mg "BadFirsts" = some (.ref (ga K "BadFirsts")) := He.glo_ok W.kin W.ns (fa_27 W)
theorem ix_BadMove (W : Wk K mg base) : IsxF (sy W) ((sy W).ca 9) (lkX [(3, false), (4, false), (5, false), (6, false), (7, false), (8, false), (9, true), (50, false), (10, false), (11, false), (12, false), (51, false), (13, false), (14, false), (16, false), (17, false), (18, false), (52, false), (53, false), (54, false), (19, false), (1, false), (2, false), (15, false), (20, false), (21, false), (22, false)]) := ⟨isxs_core (ca := (sy W).ca) (cs := [3, 4, 5, 6, 7, 8, 9, 50, 10, 11, 12, 51, 13, 14, 16, 17, 18, 52, 53, 54, 19, 1, 2, 15, 20, 21, 22]) (l := ([(3, false), (4, false), (5, false), (6, false), (7, false), (8, false), (9, true), (50, false), (10, false), (11, false), (12, false), (51, false), (13, false), (14, false), (16, false), (17, false), (18, false), (52, false), (53, false), (54, false), (19, false), (1, false), (2, false), (15, false), (20, false), (21, false), (22, false)] : List (Nat × Bool))) (fa_8 W) (fa_28 W) (by decide)⟩
theorem g_BadMove (W : Wk K mg base) : mg "BadMove" = some (.ref (ga K "BadMove")) := He.glo_ok W.kin W.ns (fa_29 W)
theorem ix_BadTotals (W : Wk K mg base) : IsxF (sy W) ((sy W).ca 50) (lkX [(3, false), (4, false), (5, false), (6, false), (7, false), (8, false), (9, false), (50, true), (10, false), (11, false), (12, false), (51, false), (13, false), (14, false), (16, false), (17, false), (18, false), (52, false), (53, false), (54, false), (19, false), (1, false), (2, false), (15, false), (20, false), (21, false), (22, false)]) := ⟨isxs_core (ca := (sy W).ca) (cs := [3, 4, 5, 6, 7, 8, 9, 50, 10, 11, 12, 51, 13, 14, 16, 17, 18, 52, 53, 54, 19, 1, 2, 15, 20, 21, 22]) (l := ([(3, false), (4, false), (5, false), (6, false), (7, false), (8, false), (9, false), (50, true), (10, false), (11, false), (12, false), (51, false), (13, false), (14, false), (16, false), (17, false), (18, false), (52, false), (53, false), (54, false), (19, false), (1, false), (2, false), (15, false), (20, false), (21, false), (22, false)] : List (Nat × Bool))) (fa_8 W) (fa_30 W) (by decide)⟩
theorem g_BadTotals (W : Wk K mg base) : mg "BadTotals" = some (.ref (ga K "BadTotals")) := He.glo_ok W.kin W.ns (fa_31 W)
theorem ix_BadEnds (W : Wk K mg base) : IsxF (sy W) ((sy W).ca 10) (lkX [(3, false), (4, false), (5, false), (6, false), (7, false), (8, false), (9, false), (50, false), (10, true), (11, false), (12, false), (51, false), (13, false), (14, false), (16, false), (17, false), (18, false), (52, false), (53, false), (54, false), (19, false), (1, false), (2, false), (15, false), (20, false), (21, false), (22, false)]) := ⟨isxs_core (ca := (sy W).ca) (cs := [3, 4, 5, 6, 7, 8, 9, 50, 10, 11, 12, 51, 13, 14, 16, 17, 18, 52, 53, 54, 19, 1, 2, 15, 20, 21, 22]) (l := ([(3, false), (4, false), (5, false), (6, false), (7, false), (8, false), (9, false), (50, false), (10, true), (11, false), (12, false), (51, false), (13, false), (14, false), (16, false), (17, false), (18, false), (52, false), (53, false), (54, false), (19, false), (1, false), (2, false), (15, false), (20, false), (21, false), (22, false)] : List (Nat × Bool))) (fa_8 W) (fa_32 W) (by decide)⟩
theorem g_BadEnds (W : Wk K mg base) : mg "BadEnds" = some (.ref (ga K "BadEnds")) := He.glo_ok W.kin W.ns (fa_33 W)
theorem ix_BadPrices (W : Wk K mg base) : IsxF (sy W) ((sy W).ca 11) (lkX [(3, false), (4, false), (5, false), (6, false), (7, false), (8, false), (9, false), (50, false), (10, false), (11, true), (12, false), (51, false), (13, false), (14, false), (16, false), (17, false), (18, false), (52, false), (53, false), (54, false), (19, false), (1, false), (2, false), (15, false), (20, false), (21, false), (22, false)]) := ⟨isxs_core (ca := (sy W).ca) (cs := [3, 4, 5, 6, 7, 8, 9, 50, 10, 11, 12, 51, 13, 14, 16, 17, 18, 52, 53, 54, 19, 1, 2, 15, 20, 21, 22]) (l := ([(3, false), (4, false), (5, false), (6, false), (7, false), (8, false), (9, false), (50, false), (10, false), (11, true), (12, false), (51, false), (13, false), (14, false), (16, false), (17, false), (18, false), (52, false), (53, false), (54, false), (19, false), (1, false), (2, false), (15, false), (20, false), (21, false), (22, false)] : List (Nat × Bool))) (fa_8 W) (fa_34 W) (by decide)⟩
theorem g_BadPrices (W : Wk K mg base) : mg "BadPrices" = some (.ref (ga K "BadPrices")) := He.glo_ok W.kin W.ns (fa_35 W)
theorem ix_BadRun (W : Wk K mg base) : IsxF (sy W) ((sy W).ca 12) (lkX [(3, false), (4, false), (5, false), (6, false), (7, false), (8, false), (9, false), (50, false), (10, false), (11, false), (12, true), (51, false), (13, false), (14, false), (16, false), (17, false), (18, false), (52, false), (53, false), (54, false), (19, false), (1, false), (2, false), (15, false), (20, false), (21, false), (22, false)]) := ⟨isxs_core (ca := (sy W).ca) (cs := [3, 4, 5, 6, 7, 8, 9, 50, 10, 11, 12, 51, 13, 14, 16, 17, 18, 52, 53, 54, 19, 1, 2, 15, 20, 21, 22]) (l := ([(3, false), (4, false), (5, false), (6, false), (7, false), (8, false), (9, false), (50, false), (10, false), (11, false), (12, true), (51, false), (13, false), (14, false), (16, false), (17, false), (18, false), (52, false), (53, false), (54, false), (19, false), (1, false), (2, false), (15, false), (20, false), (21, false), (22, false)] : List (Nat × Bool))) (fa_8 W) (fa_36 W) (by decide)⟩
theorem g_BadRun (W : Wk K mg base) : mg "BadRun" = some (.ref (ga K "BadRun")) := He.glo_ok W.kin W.ns (fa_37 W)
theorem ix_BadAsk (W : Wk K mg base) : IsxF (sy W) ((sy W).ca 51) (lkX [(3, false), (4, false), (5, false), (6, false), (7, false), (8, false), (9, false), (50, false), (10, false), (11, false), (12, false), (51, true), (13, false), (14, false), (16, false), (17, false), (18, false), (52, false), (53, false), (54, false), (19, false), (1, false), (2, false), (15, false), (20, false), (21, false), (22, false)]) := ⟨isxs_core (ca := (sy W).ca) (cs := [3, 4, 5, 6, 7, 8, 9, 50, 10, 11, 12, 51, 13, 14, 16, 17, 18, 52, 53, 54, 19, 1, 2, 15, 20, 21, 22]) (l := ([(3, false), (4, false), (5, false), (6, false), (7, false), (8, false), (9, false), (50, false), (10, false), (11, false), (12, false), (51, true), (13, false), (14, false), (16, false), (17, false), (18, false), (52, false), (53, false), (54, false), (19, false), (1, false), (2, false), (15, false), (20, false), (21, false), (22, false)] : List (Nat × Bool))) (fa_8 W) (fa_38 W) (by decide)⟩
theorem g_BadAsk (W : Wk K mg base) : mg "BadAsk" = some (.ref (ga K "BadAsk")) := He.glo_ok W.kin W.ns (fa_39 W)
theorem ix_BadText (W : Wk K mg base) : IsxF (sy W) ((sy W).ca 13) (lkX [(3, false), (4, false), (5, false), (6, false), (7, false), (8, false), (9, false), (50, false), (10, false), (11, false), (12, false), (51, false), (13, true), (14, false), (16, false), (17, false), (18, false), (52, false), (53, false), (54, false), (19, false), (1, false), (2, false), (15, false), (20, false), (21, false), (22, false)]) := ⟨isxs_core (ca := (sy W).ca) (cs := [3, 4, 5, 6, 7, 8, 9, 50, 10, 11, 12, 51, 13, 14, 16, 17, 18, 52, 53, 54, 19, 1, 2, 15, 20, 21, 22]) (l := ([(3, false), (4, false), (5, false), (6, false), (7, false), (8, false), (9, false), (50, false), (10, false), (11, false), (12, false), (51, false), (13, true), (14, false), (16, false), (17, false), (18, false), (52, false), (53, false), (54, false), (19, false), (1, false), (2, false), (15, false), (20, false), (21, false), (22, false)] : List (Nat × Bool))) (fa_8 W) (fa_40 W) (by decide)⟩
theorem g_BadText (W : Wk K mg base) : mg "BadText" = some (.ref (ga K "BadText")) := He.glo_ok W.kin W.ns (fa_41 W)
theorem ix_BadLine (W : Wk K mg base) : IsxF (sy W) ((sy W).ca 14) (lkX [(3, false), (4, false), (5, false), (6, false), (7, false), (8, false), (9, false), (50, false), (10, false), (11, false), (12, false), (51, false), (13, false), (14, true), (16, false), (17, false), (18, false), (52, false), (53, false), (54, false), (19, false), (1, false), (2, false), (15, false), (20, false), (21, false), (22, false)]) := ⟨isxs_core (ca := (sy W).ca) (cs := [3, 4, 5, 6, 7, 8, 9, 50, 10, 11, 12, 51, 13, 14, 16, 17, 18, 52, 53, 54, 19, 1, 2, 15, 20, 21, 22]) (l := ([(3, false), (4, false), (5, false), (6, false), (7, false), (8, false), (9, false), (50, false), (10, false), (11, false), (12, false), (51, false), (13, false), (14, true), (16, false), (17, false), (18, false), (52, false), (53, false), (54, false), (19, false), (1, false), (2, false), (15, false), (20, false), (21, false), (22, false)] : List (Nat × Bool))) (fa_8 W) (fa_42 W) (by decide)⟩
theorem g_BadLine (W : Wk K mg base) : mg "BadLine" = some (.ref (ga K "BadLine")) := He.glo_ok W.kin W.ns (fa_43 W)
theorem ix_NoLine (W : Wk K mg base) : IsxF (sy W) ((sy W).ca 16) (lkX [(3, false), (4, false), (5, false), (6, false), (7, false), (8, false), (9, false), (50, false), (10, false), (11, false), (12, false), (51, false), (13, false), (14, false), (16, true), (17, false), (18, false), (52, false), (53, false), (54, false), (19, false), (1, false), (2, false), (15, false), (20, false), (21, false), (22, false)]) := ⟨isxs_core (ca := (sy W).ca) (cs := [3, 4, 5, 6, 7, 8, 9, 50, 10, 11, 12, 51, 13, 14, 16, 17, 18, 52, 53, 54, 19, 1, 2, 15, 20, 21, 22]) (l := ([(3, false), (4, false), (5, false), (6, false), (7, false), (8, false), (9, false), (50, false), (10, false), (11, false), (12, false), (51, false), (13, false), (14, false), (16, true), (17, false), (18, false), (52, false), (53, false), (54, false), (19, false), (1, false), (2, false), (15, false), (20, false), (21, false), (22, false)] : List (Nat × Bool))) (fa_8 W) (fa_44 W) (by decide)⟩
theorem g_NoLine (W : Wk K mg base) : mg "NoLine" = some (.ref (ga K "NoLine")) := He.glo_ok W.kin W.ns (fa_45 W)
theorem ix_NoPair (W : Wk K mg base) : IsxF (sy W) ((sy W).ca 17) (lkX [(3, false), (4, false), (5, false), (6, false), (7, false), (8, false), (9, false), (50, false), (10, false), (11, false), (12, false), (51, false), (13, false), (14, false), (16, false), (17, true), (18, false), (52, false), (53, false), (54, false), (19, false), (1, false), (2, false), (15, false), (20, false), (21, false), (22, false)]) := ⟨isxs_core (ca := (sy W).ca) (cs := [3, 4, 5, 6, 7, 8, 9, 50, 10, 11, 12, 51, 13, 14, 16, 17, 18, 52, 53, 54, 19, 1, 2, 15, 20, 21, 22]) (l := ([(3, false), (4, false), (5, false), (6, false), (7, false), (8, false), (9, false), (50, false), (10, false), (11, false), (12, false), (51, false), (13, false), (14, false), (16, false), (17, true), (18, false), (52, false), (53, false), (54, false), (19, false), (1, false), (2, false), (15, false), (20, false), (21, false), (22, false)] : List (Nat × Bool))) (fa_8 W) (fa_46 W) (by decide)⟩
theorem g_NoPair (W : Wk K mg base) : mg "NoPair" = some (.ref (ga K "NoPair")) := He.glo_ok W.kin W.ns (fa_47 W)
theorem ix_Over (W : Wk K mg base) : IsxF (sy W) ((sy W).ca 18) (lkX [(3, false), (4, false), (5, false), (6, false), (7, false), (8, false), (9, false), (50, false), (10, false), (11, false), (12, false), (51, false), (13, false), (14, false), (16, false), (17, false), (18, true), (52, false), (53, false), (54, false), (19, false), (1, false), (2, false), (15, false), (20, false), (21, false), (22, false)]) := ⟨isxs_core (ca := (sy W).ca) (cs := [3, 4, 5, 6, 7, 8, 9, 50, 10, 11, 12, 51, 13, 14, 16, 17, 18, 52, 53, 54, 19, 1, 2, 15, 20, 21, 22]) (l := ([(3, false), (4, false), (5, false), (6, false), (7, false), (8, false), (9, false), (50, false), (10, false), (11, false), (12, false), (51, false), (13, false), (14, false), (16, false), (17, false), (18, true), (52, false), (53, false), (54, false), (19, false), (1, false), (2, false), (15, false), (20, false), (21, false), (22, false)] : List (Nat × Bool))) (fa_8 W) (fa_48 W) (by decide)⟩
theorem g_Over (W : Wk K mg base) : mg "Over" = some (.ref (ga K "Over")) := He.glo_ok W.kin W.ns (fa_49 W)
theorem ix_Unfed (W : Wk K mg base) : IsxF (sy W) ((sy W).ca 52) (lkX [(3, false), (4, false), (5, false), (6, false), (7, false), (8, false), (9, false), (50, false), (10, false), (11, false), (12, false), (51, false), (13, false), (14, false), (16, false), (17, false), (18, false), (52, true), (53, false), (54, false), (19, false), (1, false), (2, false), (15, false), (20, false), (21, false), (22, false)]) := ⟨isxs_core (ca := (sy W).ca) (cs := [3, 4, 5, 6, 7, 8, 9, 50, 10, 11, 12, 51, 13, 14, 16, 17, 18, 52, 53, 54, 19, 1, 2, 15, 20, 21, 22]) (l := ([(3, false), (4, false), (5, false), (6, false), (7, false), (8, false), (9, false), (50, false), (10, false), (11, false), (12, false), (51, false), (13, false), (14, false), (16, false), (17, false), (18, false), (52, true), (53, false), (54, false), (19, false), (1, false), (2, false), (15, false), (20, false), (21, false), (22, false)] : List (Nat × Bool))) (fa_8 W) (fa_50 W) (by decide)⟩
theorem g_Unfed (W : Wk K mg base) : mg "Unfed" = some (.ref (ga K "Unfed")) := He.glo_ok W.kin W.ns (fa_51 W)
theorem ix_Shut (W : Wk K mg base) : IsxF (sy W) ((sy W).ca 53) (lkX [(3, false), (4, false), (5, false), (6, false), (7, false), (8, false), (9, false), (50, false), (10, false), (11, false), (12, false), (51, false), (13, false), (14, false), (16, false), (17, false), (18, false), (52, false), (53, true), (54, false), (19, false), (1, false), (2, false), (15, false), (20, false), (21, false), (22, false)]) := ⟨isxs_core (ca := (sy W).ca) (cs := [3, 4, 5, 6, 7, 8, 9, 50, 10, 11, 12, 51, 13, 14, 16, 17, 18, 52, 53, 54, 19, 1, 2, 15, 20, 21, 22]) (l := ([(3, false), (4, false), (5, false), (6, false), (7, false), (8, false), (9, false), (50, false), (10, false), (11, false), (12, false), (51, false), (13, false), (14, false), (16, false), (17, false), (18, false), (52, false), (53, true), (54, false), (19, false), (1, false), (2, false), (15, false), (20, false), (21, false), (22, false)] : List (Nat × Bool))) (fa_8 W) (fa_52 W) (by decide)⟩
theorem g_Shut (W : Wk K mg base) : mg "Shut" = some (.ref (ga K "Shut")) := He.glo_ok W.kin W.ns (fa_53 W)
theorem ix_Known (W : Wk K mg base) : IsxF (sy W) ((sy W).ca 54) (lkX [(3, false), (4, false), (5, false), (6, false), (7, false), (8, false), (9, false), (50, false), (10, false), (11, false), (12, false), (51, false), (13, false), (14, false), (16, false), (17, false), (18, false), (52, false), (53, false), (54, true), (19, false), (1, false), (2, false), (15, false), (20, false), (21, false), (22, false)]) := ⟨isxs_core (ca := (sy W).ca) (cs := [3, 4, 5, 6, 7, 8, 9, 50, 10, 11, 12, 51, 13, 14, 16, 17, 18, 52, 53, 54, 19, 1, 2, 15, 20, 21, 22]) (l := ([(3, false), (4, false), (5, false), (6, false), (7, false), (8, false), (9, false), (50, false), (10, false), (11, false), (12, false), (51, false), (13, false), (14, false), (16, false), (17, false), (18, false), (52, false), (53, false), (54, true), (19, false), (1, false), (2, false), (15, false), (20, false), (21, false), (22, false)] : List (Nat × Bool))) (fa_8 W) (fa_54 W) (by decide)⟩
theorem g_Known (W : Wk K mg base) : mg "Known" = some (.ref (ga K "Known")) := He.glo_ok W.kin W.ns (fa_55 W)
theorem ix_TooMany (W : Wk K mg base) : IsxF (sy W) ((sy W).ca 19) (lkX [(3, false), (4, false), (5, false), (6, false), (7, false), (8, false), (9, false), (50, false), (10, false), (11, false), (12, false), (51, false), (13, false), (14, false), (16, false), (17, false), (18, false), (52, false), (53, false), (54, false), (19, true), (1, false), (2, false), (15, false), (20, false), (21, false), (22, false)]) := ⟨isxs_core (ca := (sy W).ca) (cs := [3, 4, 5, 6, 7, 8, 9, 50, 10, 11, 12, 51, 13, 14, 16, 17, 18, 52, 53, 54, 19, 1, 2, 15, 20, 21, 22]) (l := ([(3, false), (4, false), (5, false), (6, false), (7, false), (8, false), (9, false), (50, false), (10, false), (11, false), (12, false), (51, false), (13, false), (14, false), (16, false), (17, false), (18, false), (52, false), (53, false), (54, false), (19, true), (1, false), (2, false), (15, false), (20, false), (21, false), (22, false)] : List (Nat × Bool))) (fa_8 W) (fa_56 W) (by decide)⟩
theorem g_TooMany (W : Wk K mg base) : mg "TooMany" = some (.ref (ga K "TooMany")) := He.glo_ok W.kin W.ns (fa_57 W)
theorem ix_NoDeed (W : Wk K mg base) : IsxF (sy W) ((sy W).ca 21) (lkX [(3, false), (4, false), (5, false), (6, false), (7, false), (8, false), (9, false), (50, false), (10, false), (11, false), (12, false), (51, false), (13, false), (14, false), (16, false), (17, false), (18, false), (52, false), (53, false), (54, false), (19, false), (1, false), (2, false), (15, false), (20, false), (21, true), (22, false)]) := ⟨isxs_core (ca := (sy W).ca) (cs := [3, 4, 5, 6, 7, 8, 9, 50, 10, 11, 12, 51, 13, 14, 16, 17, 18, 52, 53, 54, 19, 1, 2, 15, 20, 21, 22]) (l := ([(3, false), (4, false), (5, false), (6, false), (7, false), (8, false), (9, false), (50, false), (10, false), (11, false), (12, false), (51, false), (13, false), (14, false), (16, false), (17, false), (18, false), (52, false), (53, false), (54, false), (19, false), (1, false), (2, false), (15, false), (20, false), (21, true), (22, false)] : List (Nat × Bool))) (fa_8 W) (fa_58 W) (by decide)⟩
theorem g_NoDeed (W : Wk K mg base) : mg "NoDeed" = some (.ref (ga K "NoDeed")) := He.glo_ok W.kin W.ns (fa_59 W)
theorem ix_NoBudget (W : Wk K mg base) : IsxF (sy W) ((sy W).ca 22) (lkX [(3, false), (4, false), (5, false), (6, false), (7, false), (8, false), (9, false), (50, false), (10, false), (11, false), (12, false), (51, false), (13, false), (14, false), (16, false), (17, false), (18, false), (52, false), (53, false), (54, false), (19, false), (1, false), (2, false), (15, false), (20, false), (21, false), (22, true)]) := ⟨isxs_core (ca := (sy W).ca) (cs := [3, 4, 5, 6, 7, 8, 9, 50, 10, 11, 12, 51, 13, 14, 16, 17, 18, 52, 53, 54, 19, 1, 2, 15, 20, 21, 22]) (l := ([(3, false), (4, false), (5, false), (6, false), (7, false), (8, false), (9, false), (50, false), (10, false), (11, false), (12, false), (51, false), (13, false), (14, false), (16, false), (17, false), (18, false), (52, false), (53, false), (54, false), (19, false), (1, false), (2, false), (15, false), (20, false), (21, false), (22, true)] : List (Nat × Bool))) (fa_8 W) (fa_60 W) (by decide)⟩
theorem g_NoBudget (W : Wk K mg base) : mg "NoBudget" = some (.ref (ga K "NoBudget")) := He.glo_ok W.kin W.ns (fa_61 W)
theorem sc__law_signs : FnScope ["_law_error", "_law_found"] ["_law_error"] (defScope s__law_signs) := ⟨rfl, rfl, rfl, by decide +kernel, rfl, by decide +kernel, by decide +kernel⟩
theorem dv__law_signs {P : Program} {w : World} {K : PySem.W.Frag} {mg : Str → Option Value} {base : Heap} (W : Wk K mg base) : ∀ (cdv : Value) (A : Around) (outer : List Env) (s : Shared) (H : Hp) (E : XK), Room 3 (A.deeper (envOfC d__law_signs.qual d__law_signs.scope s.heap.objs.size (d__law_signs.at_ K) cdv)) →
    Takes (cxOf (L2.CX P w) P w K mg base ["_law_error", "_law_found"] d__law_signs.qual d__law_signs.scope (d__law_signs.at_ K) cdv A outer s H E) (fun cls d _ H => E cls d H) → PBd (cxOf (L2.CX P w) P w K mg base ["_law_error", "_law_found"] d__law_signs.qual d__law_signs.scope (d__law_signs.at_ K) cdv A outer s H E) (sy W) (fun cls d _ H => E cls d H) d__law_signs.body (t__law_signs (sy W)) :=
  fun cdv A outer s H E hr tk => (pb_cons (psd_set sc__law_signs.nd (pd_lst (pad_cons (pd_tup (pad_cons pd_str (pad_cons (pd_callB (cl_isX rfl (ix_BadInput W)) (pad_cons (pd_var 0) (pad_cons (pd_gref (a := (sy W).ca 2) (g_BadInput W)) pad_nil)) (b_isinstance W)) pad_nil))) (pad_cons (pd_tup (pad_cons pd_str (pad_cons (pd_callB (cl_isX rfl (ix_Refused W)) (pad_cons (pd_var 0) (pad_cons (pd_gref (a := (sy W).ca 15) (g_Refused W)) pad_nil)) (b_isinstance W)) pad_nil))) pad_nil)))) (pb_cons (psd_set sc__law_signs.nd (pd_op (od_add rfl tk hr OwnOp.none) (pd_var 1) (pd_lst (pad_cons (pd_tup (pad_cons pd_str (pad_cons (pd_callB (cl_isX rfl (ix_NoAnswer W)) (pad_cons (pd_var 0) (pad_cons (pd_gref (a := (sy W).ca 20) (g_NoAnswer W)) pad_nil)) (b_isinstance W)) pad_nil))) (pad_cons (pd_tup (pad_cons pd_str (pad_cons (pd_callB (cl_isX rfl (ix_BadAmount W)) (pad_cons (pd_var 0) (pad_cons (pd_gref (a := (sy W).ca 3) (g_BadAmount W)) pad_nil)) (b_isinstance W)) pad_nil))) pad_nil))))) (pb_cons (psd_set sc__law_signs.nd (pd_op (od_add rfl tk hr OwnOp.none) (pd_var 1) (pd_lst (pad_cons (pd_tup (pad_cons pd_str (pad_cons (pd_callB (cl_isX rfl (ix_BadName W)) (pad_cons (pd_var 0) (pad_cons (pd_gref (a := (sy W).ca 4) (g_BadName W)) pad_nil)) (b_isinstance W)) pad_nil))) (pad_cons (pd_tup (pad_cons pd_str (pad_cons (pd_callB (cl_isX rfl (ix_BadCount W)) (pad_cons (pd_var 0) (pad_cons (pd_gref (a := (sy W).ca 5) (g_BadCount W)) pad_nil)) (b_isinstance W)) pad_nil))) pad_nil))))) (pb_cons (psd_set sc__law_signs.nd (pd_op (od_add rfl tk hr OwnOp.none) (pd_var 1) (pd_lst (pad_cons (pd_tup (pad_cons pd_str (pad_cons (pd_callB (cl_isX rfl (ix_BadLimit W)) (pad_cons (pd_var 0) (pad_cons (pd_gref (a := (sy W).ca 6) (g_BadLimit W)) pad_nil)) (b_isinstance W)) pad_nil))) (pad_cons (pd_tup (pad_cons pd_str (pad_cons (pd_callB (cl_isX rfl (ix_BadBook W)) (pad_cons (pd_var 0) (pad_cons (pd_gref (a := (sy W).ca 7) (g_BadBook W)) pad_nil)) (b_isinstance W)) pad_nil))) pad_nil))))) (pb_cons (psd_set sc__law_signs.nd (pd_op (od_add rfl tk hr OwnOp.none) (pd_var 1) (pd_lst (pad_cons (pd_tup (pad_cons pd_str (pad_cons (pd_callB (cl_isX rfl (ix_BadFirsts W)) (pad_cons (pd_var 0) (pad_cons (pd_gref (a := (sy W).ca 8) (g_BadFirsts W)) pad_nil)) (b_isinstance W)) pad_nil))) (pad_cons (pd_tup (pad_cons pd_str (pad_cons (pd_callB (cl_isX rfl (ix_BadMove W)) (pad_cons (pd_var 0) (pad_cons (pd_gref (a := (sy W).ca 9) (g_BadMove W)) pad_nil)) (b_isinstance W)) pad_nil))) pad_nil))))) (pb_cons (psd_set sc__law_signs.nd (pd_op (od_add rfl tk hr OwnOp.none) (pd_var 1) (pd_lst (pad_cons (pd_tup (pad_cons pd_str (pad_cons (pd_callB (cl_isX rfl (ix_BadTotals W)) (pad_cons (pd_var 0) (pad_cons (pd_gref (a := (sy W).ca 50) (g_BadTotals W)) pad_nil)) (b_isinstance W)) pad_nil))) (pad_cons (pd_tup (pad_cons pd_str (pad_cons (pd_callB (cl_isX rfl (ix_BadEnds W)) (pad_cons (pd_var 0) (pad_cons (pd_gref (a := (sy W).ca 10) (g_BadEnds W)) pad_nil)) (b_isinstance W)) pad_nil))) pad_nil))))) (pb_cons (psd_set sc__law_signs.nd (pd_op (od_add rfl tk hr OwnOp.none) (pd_var 1) (pd_lst (pad_cons (pd_tup (pad_cons pd_str (pad_cons (pd_callB (cl_isX rfl (ix_BadPrices W)) (pad_cons (pd_var 0) (pad_cons (pd_gref (a := (sy W).ca 11) (g_BadPrices W)) pad_nil)) (b_isinstance W)) pad_nil))) (pad_cons (pd_tup (pad_cons pd_str (pad_cons (pd_callB (cl_isX rfl (ix_BadRun W)) (pad_cons (pd_var 0) (pad_cons (pd_gref (a := (sy W).ca 12) (g_BadRun W)) pad_nil)) (b_isinstance W)) pad_nil))) pad_nil))))) (pb_cons (psd_set sc__law_signs.nd (pd_op (od_add rfl tk hr OwnOp.none) (pd_var 1) (pd_lst (pad_cons (pd_tup (pad_cons pd_str (pad_cons (pd_callB (cl_isX rfl (ix_BadAsk W)) (pad_cons (pd_var 0) (pad_cons (pd_gref (a := (sy W).ca 51) (g_BadAsk W)) pad_nil)) (b_isinstance W)) pad_nil))) (pad_cons (pd_tup (pad_cons pd_str (pad_cons (pd_callB (cl_isX rfl (ix_BadText W)) (pad_cons (pd_var 0) (pad_cons (pd_gref (a := (sy W).ca 13) (g_BadText W)) pad_nil)) (b_isinstance W)) pad_nil))) pad_nil))))) (pb_cons (psd_set sc__law_signs.nd (pd_op (od_add rfl tk hr OwnOp.none) (pd_var 1) (pd_lst (pad_cons (pd_tup (pad_cons pd_str (pad_cons (pd_callB (cl_isX rfl (ix_BadLine W)) (pad_cons (pd_var 0) (pad_cons (pd_gref (a := (sy W).ca 14) (g_BadLine W)) pad_nil)) (b_isinstance W)) pad_nil))) (pad_cons (pd_tup (pad_cons pd_str (pad_cons (pd_callB (cl_isX rfl (ix_NoLine W)) (pad_cons (pd_var 0) (pad_cons (pd_gref (a := (sy W).ca 16) (g_NoLine W)) pad_nil)) (b_isinstance W)) pad_nil))) pad_nil))))) (pb_cons (psd_set sc__law_signs.nd (pd_op (od_add rfl tk hr OwnOp.none) (pd_var 1) (pd_lst (pad_cons (pd_tup (pad_cons pd_str (pad_cons (pd_callB (cl_isX rfl (ix_NoPair W)) (pad_cons (pd_var 0) (pad_cons (pd_gref (a := (sy W).ca 17) (g_NoPair W)) pad_nil)) (b_isinstance W)) pad_nil))) (pad_cons (pd_tup (pad_cons pd_str (pad_cons (pd_callB (cl_isX rfl (ix_Over W)) (pad_cons (pd_var 0) (pad_cons (pd_gref (a := (sy W).ca 18) (g_Over W)) pad_nil)) (b_isinstance W)) pad_nil))) pad_nil))))) (pb_cons (psd_set sc__law_signs.nd (pd_op (od_add rfl tk hr OwnOp.none) (pd_var 1) (pd_lst (pad_cons (pd_tup (pad_cons pd_str (pad_cons (pd_callB (cl_isX rfl (ix_Unfed W)) (pad_cons (pd_var 0) (pad_cons (pd_gref (a := (sy W).ca 52) (g_Unfed W)) pad_nil)) (b_isinstance W)) pad_nil))) (pad_cons (pd_tup (pad_cons pd_str (pad_cons (pd_callB (cl_isX rfl (ix_Shut W)) (pad_cons (pd_var 0) (pad_cons (pd_gref (a := (sy W).ca 53) (g_Shut W)) pad_nil)) (b_isinstance W)) pad_nil))) pad_nil))))) (pb_cons (psd_set sc__law_signs.nd (pd_op (od_add rfl tk hr OwnOp.none) (pd_var 1) (pd_lst (pad_cons (pd_tup (pad_cons pd_str (pad_cons (pd_callB (cl_isX rfl (ix_Known W)) (pad_cons (pd_var 0) (pad_cons (pd_gref (a := (sy W).ca 54) (g_Known W)) pad_nil)) (b_isinstance W)) pad_nil))) (pad_cons (pd_tup (pad_cons pd_str (pad_cons (pd_callB (cl_isX rfl (ix_TooMany W)) (pad_cons (pd_var 0) (pad_cons (pd_gref (a := (sy W).ca 19) (g_TooMany W)) pad_nil)) (b_isinstance W)) pad_nil))) pad_nil))))) (pb_one (psd_ret (pd_op (od_add rfl tk hr OwnOp.none) (pd_var 1) (pd_lst (pad_cons (pd_tup (pad_cons pd_str (pad_cons (pd_callB (cl_isX rfl (ix_NoDeed W)) (pad_cons (pd_var 0) (pad_cons (pd_gref (a := (sy W).ca 21) (g_NoDeed W)) pad_nil)) (b_isinstance W)) pad_nil))) (pad_cons (pd_tup (pad_cons pd_str (pad_cons (pd_callB (cl_isX rfl (ix_NoBudget W)) (pad_cons (pd_var 0) (pad_cons (pd_gref (a := (sy W).ca 22) (g_NoBudget W)) pad_nil)) (b_isinstance W)) pad_nil))) pad_nil))))))))))))))))))
theorem fn__law_signs {P : Program} {w : World} {K : PySem.W.Frag} {mg : Str → Option Value} {base : Heap} (W : Wk K mg base) : FnD P w (sy W) mg base 4 (d__law_signs.at_ K) 1 [] (sp__law_signs (sy W)) := by
  obtain ⟨fd, F⟩ := W.says.def_ 4 (d := d__law_signs) rfl
  exact fnD_mk (ps := ["_law_error"]) (S := sy W) F (fnD_of (S := sy W) F sc__law_signs (len__law_signs (sy W)) (dv__law_signs W) (pf__law_signs (sy W))) fun _ _ _ _ _ _ us hl => match us, hl with | [_], _ => rfl
theorem ix_MoneyError (W : Wk K mg base) : IsxF (sy W) ((sy W).ca 1) (lkX [(3, true), (4, true), (5, true), (6, true), (7, true), (8, true), (9, true), (50, true), (10, true), (11, true), (12, true), (51, true), (13, true), (14, true), (16, true), (17, true), (18, true), (52, true), (53, true), (54, true), (19, true), (1, true), (2, true), (15, true), (20, true), (21, true), (22, true)]) := ⟨isxs_core (ca := (sy W).ca) (cs := [3, 4, 5, 6, 7, 8, 9, 50, 10, 11, 12, 51, 13, 14, 16, 17, 18, 52, 53, 54, 19, 1, 2, 15, 20, 21, 22]) (l := ([(3, true), (4, true), (5, true), (6, true), (7, true), (8, true), (9, true), (50, true), (10, true), (11, true), (12, true), (51, true), (13, true), (14, true), (16, true), (17, true), (18, true), (52, true), (53, true), (54, true), (19, true), (1, true), (2, true), (15, true), (20, true), (21, true), (22, true)] : List (Nat × Bool))) (fa_8 W) (fa_62 W) (by decide)⟩
theorem g_MoneyError (W : Wk K mg base) : mg "MoneyError" = some (.ref (ga K "MoneyError")) := He.glo_ok W.kin W.ns (fa_63 W)
theorem g__law_signs (W : Wk K mg base) : mg "_law_signs" = some (.ref (ga K "_law_signs")) := He.glo_ok W.kin W.ns (fa_64 W)
theorem sc__law_kinds : FnScope ["_law_error", "_law_sign", "_law_is_so"] ["_law_error"] (defScope s__law_kinds) := ⟨rfl, rfl, rfl, by decide +kernel, rfl, by decide +kernel, by decide +kernel⟩
theorem dv__law_kinds {P : Program} {w : World} {K : PySem.W.Frag} {mg : Str → Option Value} {base : Heap} (W : Wk K mg base) : ∀ (cdv : Value) (A : Around) (outer : List Env) (s : Shared) (H : Hp) (E : XK), Room 7 (A.deeper (envOfC d__law_kinds.qual d__law_kinds.scope s.heap.objs.size (d__law_kinds.at_ K) cdv)) →
    Takes (cxOf (L2.CX P w) P w K mg base ["_law_error", "_law_sign", "_law_is_so"] d__law_kinds.qual d__law_kinds.scope (d__law_kinds.at_ K) cdv A outer s H E) (fun cls d _ H => E cls d H) → PBd (cxOf (L2.CX P w) P w K mg base ["_law_error", "_law_sign", "_law_is_so"] d__law_kinds.qual d__law_kinds.scope (d__law_kinds.at_ K) cdv A outer s H E) (sy W) (fun cls d _ H => E cls d H) d__law_kinds.body (t__law_kinds (sy W)) :=
  fun cdv A outer s H E hr tk => (pb_one (psd_ret (pd_ifExp (pt_plain rfl (pd_callB (cl_isX rfl (ix_MoneyError W)) (pad_cons (pd_var 0) (pad_cons (pd_gref (a := (sy W).ca 1) (g_MoneyError W)) pad_nil)) (b_isinstance W))) (pd_lc (own := [("_law_sign", 1), ("_law_is_so", 2)]) rfl sc__law_kinds.nd (pid_seq rfl (pd_call rfl tk hr ((fn__law_signs W).mono (by decide)) (g__law_signs W) (pad_cons (pd_var 0) pad_nil))) (show BlkOk ["_law_error", "_law_sign", "_law_is_so"] (defScope s__law_kinds) _ _ from ⟨rfl, by decide +kernel, by decide +kernel, by decide +kernel, by decide +kernel⟩) (fun _ _ _ _ _ => (pgc_tup rfl rfl (pgcs_cons (pgc_name sc__law_kinds.nd) (pgcs_cons (pgc_name sc__law_kinds.nd) pgcs_nil)))) (fun _ _ _ _ _ => (ptsd_one (pt_plain rfl (pd_var 2)))) (fun _ _ _ _ _ => (pd_var 1))) pd_non)))
theorem fn__law_kinds {P : Program} {w : World} {K : PySem.W.Frag} {mg : Str → Option Value} {base : Heap} (W : Wk K mg base) : FnD P w (sy W) mg base 8 (d__law_kinds.at_ K) 1 [] (sp__law_kinds (sy W)) := by
  obtain ⟨fd, F⟩ := W.says.def_ 5 (d := d__law_kinds) rfl
  exact fnD_mk (ps := ["_law_error"]) (S := sy W) F (fnD_of (S := sy W) F sc__law_kinds (len__law_kinds (sy W)) (dv__law_kinds W) (pf__law_kinds (sy W))) fun _ _ _ _ _ _ us hl => match us, hl with | [_], _ => rfl
theorem sc_xBadAmount : FnScope ["self", "part"] ["self", "part"] (defScope s_xBadAmount) := ⟨rfl, rfl, rfl, by decide +kernel, rfl, by decide +kernel, by decide +kernel⟩
theorem rs_BadAmount {P : Program} {w : World} {K : PySem.W.Frag} {mg : Str → Option Value} {base : Heap} (W : Wk K mg base) {k : Nat} (h : 2 ≤ k) : RsD P w (sy W) mg base k 3 [44] := by
  obtain ⟨fd, F⟩ := W.says.def_ 11 (d := d_xBadAmount) rfl
  obtain ⟨h1, h2⟩ := He.ba (fa_66 W)
  have T := oexB_ok (fa_65 W)
  exact RsD.mono ⟨T, ma K (ga K "BadAmount") "__init__", fd, ["self", "part"], He.eqO_ok h1, of_decide_eq_true h2, exinit1 F sc_xBadAmount T (He.eqO_ok (fa_67 W)) (by first | exact Or.inl rfl | exact Or.inr (Or.inl rfl)) (by first | exact Or.inl rfl | exact Or.inr (Or.inl rfl)) (by decide) (by decide) (by decide) (by decide), F.bindsN fun _ _ _ _ _ _ us hl => match us, hl with | [_, _], _ => rfl⟩ h
theorem sc_xBadLimit : FnScope ["self", "part"] ["self", "part"] (defScope s_xBadLimit) := ⟨rfl, rfl, rfl, by decide +kernel, rfl, by decide +kernel, by decide +kernel⟩
theorem rk_BadLimit__part {P : Program} {w : World} {K : PySem.W.Frag} {mg : Str → Option Value} {base : Heap} (W : Wk K mg base) {k : Nat} (h : 2 ≤ k) : RsK P w (sy W) mg base k 6 [44] ["part"] [0] := by
  obtain ⟨fd, F⟩ := W.says.def_ 12 (d := d_xBadLimit) rfl
  obtain ⟨h1, h2⟩ := He.ba (fa_69 W)
  have T := oexB_ok (fa_68 W)
  exact RsK.mono ⟨T, ma K (ga K "BadLimit") "__init__", fd, ["self", "part"], He.eqO_ok h1, of_decide_eq_true h2, exinit1 F sc_xBadLimit T (He.eqO_ok (fa_70 W)) (by first | exact Or.inl rfl | exact Or.inr (Or.inl rfl)) (by first | exact Or.inl rfl | exact Or.inr (Or.inl rfl)) (by decide) (by decide) (by decide) (by decide), bindsK F fun _ _ _ _ _ _ _ ws hl => match ws, hl with | [_], _ => rfl⟩ h
theorem sc_xBadBook : FnScope ["self", "part"] ["self", "part"] (defScope s_xBadBook) := ⟨rfl, rfl, rfl, by decide +kernel, rfl, by decide +kernel, by decide +kernel⟩
theorem rs_BadBook {P : Program} {w : World} {K : PySem.W.Frag} {mg : Str → Option Value} {base : Heap} (W : Wk K mg base) {k : Nat} (h : 2 ≤ k) : RsD P w (sy W) mg base k 7 [44] := by
  obtain ⟨fd, F⟩ := W.says.def_ 13 (d := d_xBadBook) rfl
  obtain ⟨h1, h2⟩ := He.ba (fa_72 W)
  have T := oexB_ok (fa_71 W)
  exact RsD.mono ⟨T, ma K (ga K "BadBook") "__init__", fd, ["self", "part"], He.eqO_ok h1, of_decide_eq_true h2, exinit1 F sc_xBadBook T (He.eqO_ok (fa_73 W)) (by first | exact Or.inl rfl | exact Or.inr (Or.inl rfl)) (by first | exact Or.inl rfl | exact Or.inr (Or.inl rfl)) (by decide) (by decide) (by decide) (by decide), F.bindsN fun _ _ _ _ _ _ us hl => match us, hl with | [_, _], _ => rfl⟩ h
theorem sc_xBadMove : FnScope ["self", "part"] ["self", "part"] (defScope s_xBadMove) := ⟨rfl, rfl, rfl, by decide +kernel, rfl, by decide +kernel, by decide +kernel⟩
theorem rk_BadMove__part {P : Program} {w : World} {K : PySem.W.Frag} {mg : Str → Option Value} {base : Heap} (W : Wk K mg base) {k : Nat} (h : 2 ≤ k) : RsK P w (sy W) mg base k 9 [44] ["part"] [0] := by
  obtain ⟨fd, F⟩ := W.says.def_ 14 (d := d_xBadMove) rfl
  obtain ⟨h1, h2⟩ := He.ba (fa_75 W)
  have T := oexB_ok (fa_74 W)
  exact RsK.mono ⟨T, ma K (ga K "BadMove") "__init__", fd, ["self", "part"], He.eqO_ok h1, of_decide_eq_true h2, exinit1 F sc_xBadMove T (He.eqO_ok (fa_76 W)) (by first | exact Or.inl rfl | exact Or.inr (Or.inl rfl)) (by first | exact Or.inl rfl | exact Or.inr (Or.inl rfl)) (by decide) (by decide) (by decide) (by decide), bindsK F fun _ _ _ _ _ _ _ ws hl => match ws, hl with | [_], _ => rfl⟩ h
theorem sc_xBadRun : FnScope ["self", "part"] ["self", "part"] (defScope s_xBadRun) := ⟨rfl, rfl, rfl, by decide +kernel, rfl, by decide +kernel, by decide +kernel⟩
theorem rs_BadRun {P : Program} {w : World} {K : PySem.W.Frag} {mg : Str → Option Value} {base : Heap} (W : Wk K mg base) {k : Nat} (h : 2 ≤ k) : RsD P w (sy W) mg base k 12 [44] := by
  obtain ⟨fd, F⟩ := W.says.def_ 15 (d := d_xBadRun) rfl
  obtain ⟨h1, h2⟩ := He.ba (fa_78 W)
  have T := oexB_ok (fa_77 W)
  exact RsD.mono ⟨T, ma K (ga K "BadRun") "__init__", fd, ["self", "part"], He.eqO_ok h1, of_decide_eq_true h2, exinit1 F sc_xBadRun T (He.eqO_ok (fa_79 W)) (by first | exact Or.inl rfl | exact Or.inr (Or.inl rfl)) (by first | exact Or.inl rfl | exact Or.inr (Or.inl rfl)) (by decide) (by decide) (by decide) (by decide), F.bindsN fun _ _ _ _ _ _ us hl => match us, hl with | [_, _], _ => rfl⟩ h
theorem xa_part (W : Wk K mg base) : ∀ c, c ∈ [3, 6, 7, 9, 12] → XfC (sy W).K ((sy W).ca c) ∧ PySem.W.findIn (sy W).K (.ref ((sy W).ca c)) "part" = some none := by
  intro c hc
  rcases List.mem_cons.mp hc with rfl | hc
  · exact ⟨(excCB_ok (fa_80 W)).2.2, He.eqO_ok (fa_67 W)⟩
  rcases List.mem_cons.mp hc with rfl | hc
  · exact ⟨(excCB_ok (fa_81 W)).2.2, He.eqO_ok (fa_70 W)⟩
  rcases List.mem_cons.mp hc with rfl | hc
  · exact ⟨(excCB_ok (fa_82 W)).2.2, He.eqO_ok (fa_73 W)⟩
  rcases List.mem_cons.mp hc with rfl | hc
  · exact ⟨(excCB_ok (fa_83 W)).2.2, He.eqO_ok (fa_76 W)⟩
  rcases List.mem_cons.mp hc with rfl | hc
  · exact ⟨(excCB_ok (fa_84 W)).2.2, He.eqO_ok (fa_79 W)⟩
  exact absurd hc (by simp)
theorem sc_xBadName : FnScope ["self", "value"] ["self", "value"] (defScope s_xBadName) := ⟨rfl, rfl, rfl, by decide +kernel, rfl, by decide +kernel, by decide +kernel⟩
theorem rk_BadName__value {P : Program} {w : World} {K : PySem.W.Frag} {mg : Str → Option Value} {base : Heap} (W : Wk K mg base) {k : Nat} (h : 2 ≤ k) : RsK P w (sy W) mg base k 4 [63] ["value"] [0] := by
  obtain ⟨fd, F⟩ := W.says.def_ 16 (d := d_xBadName) rfl
  obtain ⟨h1, h2⟩ := He.ba (fa_86 W)
  have T := oexB_ok (fa_85 W)
  exact RsK.mono ⟨T, ma K (ga K "BadName") "__init__", fd, ["self", "value"], He.eqO_ok h1, of_decide_eq_true h2, exinit1 F sc_xBadName T (He.eqO_ok (fa_87 W)) (by first | exact Or.inl rfl | exact Or.inr (Or.inl rfl)) (by first | exact Or.inl rfl | exact Or.inr (Or.inl rfl)) (by decide) (by decide) (by decide) (by decide), bindsK F fun _ _ _ _ _ _ _ ws hl => match ws, hl with | [_], _ => rfl⟩ h
theorem sc_xBadCount : FnScope ["self", "value"] ["self", "value"] (defScope s_xBadCount) := ⟨rfl, rfl, rfl, by decide +kernel, rfl, by decide +kernel, by decide +kernel⟩
theorem rs_BadCount {P : Program} {w : World} {K : PySem.W.Frag} {mg : Str → Option Value} {base : Heap} (W : Wk K mg base) {k : Nat} (h : 2 ≤ k) : RsD P w (sy W) mg base k 5 [63] := by
  obtain ⟨fd, F⟩ := W.says.def_ 17 (d := d_xBadCount) rfl
  obtain ⟨h1, h2⟩ := He.ba (fa_89 W)
  have T := oexB_ok (fa_88 W)
  exact RsD.mono ⟨T, ma K (ga K "BadCount") "__init__", fd, ["self", "value"], He.eqO_ok h1, of_decide_eq_true h2, exinit1 F sc_xBadCount T (He.eqO_ok (fa_90 W)) (by first | exact Or.inl rfl | exact Or.inr (Or.inl rfl)) (by first | exact Or.inl rfl | exact Or.inr (Or.inl rfl)) (by decide) (by decide) (by decide) (by decide), F.bindsN fun _ _ _ _ _ _ us hl => match us, hl with | [_, _], _ => rfl⟩ h
theorem sc_xBadFirsts : FnScope ["self", "line"] ["self", "line"] (defScope s_xBadFirsts) := ⟨rfl, rfl, rfl, by decide +kernel, rfl, by decide +kernel, by decide +kernel⟩
theorem rk_BadFirsts__line {P : Program} {w : World} {K : PySem.W.Frag} {mg : Str → Option Value} {base : Heap} (W : Wk K mg base) {k : Nat} (h : 2 ≤ k) : RsK P w (sy W) mg base k 8 [28] ["line"] [0] := by
  obtain ⟨fd, F⟩ := W.says.def_ 18 (d := d_xBadFirsts) rfl
  obtain ⟨h1, h2⟩ := He.ba (fa_92 W)
  have T := oexB_ok (fa_91 W)
  exact RsK.mono ⟨T, ma K (ga K "BadFirsts") "__init__", fd, ["self", "line"], He.eqO_ok h1, of_decide_eq_true h2, exinit1 F sc_xBadFirsts T (He.eqO_ok (fa_93 W)) (by first | exact Or.inl rfl | exact Or.inr (Or.inl rfl)) (by first | exact Or.inl rfl | exact Or.inr (Or.inl rfl)) (by decide) (by decide) (by decide) (by decide), bindsK F fun _ _ _ _ _ _ _ ws hl => match ws, hl with | [_], _ => rfl⟩ h
theorem xa_value (W : Wk K mg base) : ∀ c, c ∈ [4, 5] → XfC (sy W).K ((sy W).ca c) ∧ PySem.W.findIn (sy W).K (.ref ((sy W).ca c)) "value" = some none := by
  intro c hc
  rcases List.mem_cons.mp hc with rfl | hc
  · exact ⟨(excCB_ok (fa_94 W)).2.2, He.eqO_ok (fa_87 W)⟩
  rcases List.mem_cons.mp hc with rfl | hc
  · exact ⟨(excCB_ok (fa_95 W)).2.2, He.eqO_ok (fa_90 W)⟩
  exact absurd hc (by simp)
theorem xa_line (W : Wk K mg base) : ∀ c, c ∈ [8, 10, 13, 16] → XfC (sy W).K ((sy W).ca c) ∧ PySem.W.findIn (sy W).K (.ref ((sy W).ca c)) "line" = some none := by
  intro c hc
  rcases List.mem_cons.mp hc with rfl | hc
  · exact ⟨(excCB_ok (fa_96 W)).2.2, He.eqO_ok (fa_93 W)⟩
  rcases List.mem_cons.mp hc with rfl | hc
  · exact ⟨(excCB_ok (fa_97 W)).2.2, He.eqO_ok (fa_98 W)⟩
  rcases List.mem_cons.mp hc with rfl | hc
  · exact ⟨(excCB_ok (fa_99 W)).2.2, He.eqO_ok (fa_100 W)⟩
  rcases List.mem_cons.mp hc with rfl | hc
  · exact ⟨(excCB_ok (fa_101 W)).2.2, He.eqO_ok (fa_102 W)⟩
  exact absurd hc (by simp)
theorem sc_xBadTotals : FnScope ["self", "pair"] ["self", "pair"] (defScope s_xBadTotals) := ⟨rfl, rfl, rfl, by decide +kernel, rfl, by decide +kernel, by decide +kernel⟩
theorem rk_BadTotals__pair {P : Program} {w : World} {K : PySem.W.Frag} {mg : Str → Option Value} {base : Heap} (W : Wk K mg base) {k : Nat} (h : 2 ≤ k) : RsK P w (sy W) mg base k 50 [41] ["pair"] [0] := by
  obtain ⟨fd, F⟩ := W.says.def_ 19 (d := d_xBadTotals) rfl
  obtain ⟨h1, h2⟩ := He.ba (fa_104 W)
  have T := oexB_ok (fa_103 W)
  exact RsK.mono ⟨T, ma K (ga K "BadTotals") "__init__", fd, ["self", "pair"], He.eqO_ok h1, of_decide_eq_true h2, exinit1 F sc_xBadTotals T (He.eqO_ok (fa_105 W)) (by first | exact Or.inl rfl | exact Or.inr (Or.inl rfl)) (by first | exact Or.inl rfl | exact Or.inr (Or.inl rfl)) (by decide) (by decide) (by decide) (by decide), bindsK F fun _ _ _ _ _ _ _ ws hl => match ws, hl with | [_], _ => rfl⟩ h
theorem sc_xBadEnds : FnScope ["self", "line"] ["self", "line"] (defScope s_xBadEnds) := ⟨rfl, rfl, rfl, by decide +kernel, rfl, by decide +kernel, by decide +kernel⟩
theorem rs_BadEnds {P : Program} {w : World} {K : PySem.W.Frag} {mg : Str → Option Value} {base : Heap} (W : Wk K mg base) {k : Nat} (h : 2 ≤ k) : RsD P w (sy W) mg base k 10 [28] := by
  obtain ⟨fd, F⟩ := W.says.def_ 20 (d := d_xBadEnds) rfl
  obtain ⟨h1, h2⟩ := He.ba (fa_107 W)
  have T := oexB_ok (fa_106 W)
  exact RsD.mono ⟨T, ma K (ga K "BadEnds") "__init__", fd, ["self", "line"], He.eqO_ok h1, of_decide_eq_true h2, exinit1 F sc_xBadEnds T (He.eqO_ok (fa_98 W)) (by first | exact Or.inl rfl | exact Or.inr (Or.inl rfl)) (by first | exact Or.inl rfl | exact Or.inr (Or.inl rfl)) (by decide) (by decide) (by decide) (by decide), F.bindsN fun _ _ _ _ _ _ us hl => match us, hl with | [_, _], _ => rfl⟩ h
theorem sc_xBadPrices : FnScope ["self", "key"] ["self", "key"] (defScope s_xBadPrices) := ⟨rfl, rfl, rfl, by decide +kernel, rfl, by decide +kernel, by decide +kernel⟩
theorem rk_BadPrices__key {P : Program} {w : World} {K : PySem.W.Frag} {mg : Str → Option Value} {base : Heap} (W : Wk K mg base) {k : Nat} (h : 2 ≤ k) : RsK P w (sy W) mg base k 11 [23] ["key"] [0] := by
  obtain ⟨fd, F⟩ := W.says.def_ 21 (d := d_xBadPrices) rfl
  obtain ⟨h1, h2⟩ := He.ba (fa_109 W)
  have T := oexB_ok (fa_108 W)
  exact RsK.mono ⟨T, ma K (ga K "BadPrices") "__init__", fd, ["self", "key"], He.eqO_ok h1, of_decide_eq_true h2, exinit1 F sc_xBadPrices T (He.eqO_ok (fa_110 W)) (by first | exact Or.inl rfl | exact Or.inr (Or.inl rfl)) (by first | exact Or.inl rfl | exact Or.inr (Or.inl rfl)) (by decide) (by decide) (by decide) (by decide), bindsK F fun _ _ _ _ _ _ _ ws hl => match ws, hl with | [_], _ => rfl⟩ h
theorem xa_pair (W : Wk K mg base) : ∀ c, c ∈ [50] → XfC (sy W).K ((sy W).ca c) ∧ PySem.W.findIn (sy W).K (.ref ((sy W).ca c)) "pair" = some none := by
  intro c hc
  rcases List.mem_cons.mp hc with rfl | hc
  · exact ⟨(excCB_ok (fa_111 W)).2.2, He.eqO_ok (fa_105 W)⟩
  exact absurd hc (by simp)
theorem xa_key (W : Wk K mg base) : ∀ c, c ∈ [11] → XfC (sy W).K ((sy W).ca c) ∧ PySem.W.findIn (sy W).K (.ref ((sy W).ca c)) "key" = some none := by
  intro c hc
  rcases List.mem_cons.mp hc with rfl | hc
  · exact ⟨(excCB_ok (fa_112 W)).2.2, He.eqO_ok (fa_110 W)⟩
  exact absurd hc (by simp)
theorem sc_xBadAsk : FnScope ["self", "at"] ["self", "at"] (defScope s_xBadAsk) := ⟨rfl, rfl, rfl, by decide +kernel, rfl, by decide +kernel, by decide +kernel⟩
theorem rk_BadAsk__at {P : Program} {w : World} {K : PySem.W.Frag} {mg : Str → Option Value} {base : Heap} (W : Wk K mg base) {k : Nat} (h : 2 ≤ k) : RsK P w (sy W) mg base k 51 [2] ["at"] [0] := by
  obtain ⟨fd, F⟩ := W.says.def_ 22 (d := d_xBadAsk) rfl
  obtain ⟨h1, h2⟩ := He.ba (fa_114 W)
  have T := oexB_ok (fa_113 W)
  exact RsK.mono ⟨T, ma K (ga K "BadAsk") "__init__", fd, ["self", "at"], He.eqO_ok h1, of_decide_eq_true h2, exinit1 F sc_xBadAsk T (He.eqO_ok (fa_115 W)) (by first | exact Or.inl rfl | exact Or.inr (Or.inl rfl)) (by first | exact Or.inl rfl | exact Or.inr (Or.inl rfl)) (by decide) (by decide) (by decide) (by decide), bindsK F fun _ _ _ _ _ _ _ ws hl => match ws, hl with | [_], _ => rfl⟩ h
theorem sc_xBadLine : FnScope ["self", "word"] ["self", "word"] (defScope s_xBadLine) := ⟨rfl, rfl, rfl, by decide +kernel, rfl, by decide +kernel, by decide +kernel⟩
theorem rk_BadLine__word {P : Program} {w : World} {K : PySem.W.Frag} {mg : Str → Option Value} {base : Heap} (W : Wk K mg base) {k : Nat} (h : 2 ≤ k) : RsK P w (sy W) mg base k 14 [66] ["word"] [0] := by
  obtain ⟨fd, F⟩ := W.says.def_ 23 (d := d_xBadLine) rfl
  obtain ⟨h1, h2⟩ := He.ba (fa_117 W)
  have T := oexB_ok (fa_116 W)
  exact RsK.mono ⟨T, ma K (ga K "BadLine") "__init__", fd, ["self", "word"], He.eqO_ok h1, of_decide_eq_true h2, exinit1 F sc_xBadLine T (He.eqO_ok (fa_118 W)) (by first | exact Or.inl rfl | exact Or.inr (Or.inl rfl)) (by first | exact Or.inl rfl | exact Or.inr (Or.inl rfl)) (by decide) (by decide) (by decide) (by decide), bindsK F fun _ _ _ _ _ _ _ ws hl => match ws, hl with | [_], _ => rfl⟩ h
theorem xa_at (W : Wk K mg base) : ∀ c, c ∈ [51] → XfC (sy W).K ((sy W).ca c) ∧ PySem.W.findIn (sy W).K (.ref ((sy W).ca c)) "at" = some none := by
  intro c hc
  rcases List.mem_cons.mp hc with rfl | hc
  · exact ⟨(excCB_ok (fa_119 W)).2.2, He.eqO_ok (fa_115 W)⟩
  exact absurd hc (by simp)
theorem xa_word (W : Wk K mg base) : ∀ c, c ∈ [13, 14] → XfC (sy W).K ((sy W).ca c) ∧ PySem.W.findIn (sy W).K (.ref ((sy W).ca c)) "word" = some none := by
  intro c hc
  rcases List.mem_cons.mp hc with rfl | hc
  · exact ⟨(excCB_ok (fa_99 W)).2.2, He.eqO_ok (fa_120 W)⟩
  rcases List.mem_cons.mp hc with rfl | hc
  · exact ⟨(excCB_ok (fa_121 W)).2.2, He.eqO_ok (fa_118 W)⟩
  exact absurd hc (by simp)
theorem sc__law_inputs : FnScope ["_law_thing", "_law_made", "_law_found", "_law_error", "_law_sign", "_law_one", "_law_two", "_law_three"] ["_law_thing"] (defScope s__law_inputs) := ⟨rfl, rfl, rfl, by decide +kernel, rfl, by decide +kernel, by decide +kernel⟩
theorem dv__law_inputs {P : Program} {w : World} {K : PySem.W.Frag} {mg : Str → Option Value} {base : Heap} (W : Wk K mg base) : ∀ (cdv : Value) (A : Around) (outer : List Env) (s : Shared) (H : Hp) (E : XK), Room 3 (A.deeper (envOfC d__law_inputs.qual d__law_inputs.scope s.heap.objs.size (d__law_inputs.at_ K) cdv)) →
    Takes (cxOf (L2.CX P w) P w K mg base ["_law_thing", "_law_made", "_law_found", "_law_error", "_law_sign", "_law_one", "_law_two", "_law_three"] d__law_inputs.qual d__law_inputs.scope (d__law_inputs.at_ K) cdv A outer s H E) (fun cls d _ H => E cls d H) → PBd (cxOf (L2.CX P w) P w K mg base ["_law_thing", "_law_made", "_law_found", "_law_error", "_law_sign", "_law_one", "_law_two", "_law_three"] d__law_inputs.qual d__law_inputs.scope (d__law_inputs.at_ K) cdv A outer s H E) (sy W) (fun cls d _ H => E cls d H) d__law_inputs.body (t__law_inputs (sy W)) :=
  fun cdv A outer s H E hr tk => (pb_cons (psd_set sc__law_inputs.nd (pd_lst (pad_cons (pd_tup (pad_cons (pd_newX rfl tk hr (rs_BadAmount W (by decide)) (g_BadAmount W) (pad_cons (pd_var 0) pad_nil)) (pad_cons pd_str pad_nil))) (pad_cons (pd_tup (pad_cons (pd_newXK rfl tk hr (rk_BadLimit__part W (by decide)) (g_BadLimit W) (pkd_cons (pd_var 0) pkd_nil)) (pad_cons pd_str pad_nil))) (pad_cons (pd_tup (pad_cons (pd_newX rfl tk hr (rs_BadBook W (by decide)) (g_BadBook W) (pad_cons (pd_var 0) pad_nil)) (pad_cons pd_str pad_nil))) pad_nil))))) (pb_cons (psd_set sc__law_inputs.nd (pd_op (od_add rfl tk hr OwnOp.none) (pd_var 1) (pd_lst (pad_cons (pd_tup (pad_cons (pd_newXK rfl tk hr (rk_BadMove__part W (by decide)) (g_BadMove W) (pkd_cons (pd_var 0) pkd_nil)) (pad_cons pd_str pad_nil))) (pad_cons (pd_tup (pad_cons (pd_newX rfl tk hr (rs_BadRun W (by decide)) (g_BadRun W) (pad_cons (pd_var 0) pad_nil)) (pad_cons pd_str pad_nil))) pad_nil))))) (pb_cons (psd_setLc (own := [("_law_error", 3), ("_law_sign", 4)]) rfl sc__law_inputs.nd rfl (pid_seq rfl (pd_var 1)) (show BlkOk ["_law_thing", "_law_made", "_law_found", "_law_error", "_law_sign", "_law_one", "_law_two", "_law_three"] (defScope s__law_inputs) _ _ from ⟨rfl, by decide +kernel, by decide +kernel, by decide +kernel, by decide +kernel⟩) (fun _ _ _ _ _ => (pgc_tup rfl rfl (pgcs_cons (pgc_name sc__law_inputs.nd) (pgcs_cons (pgc_name sc__law_inputs.nd) pgcs_nil)))) (fun _ _ _ _ _ => ptsd_nil) (fun _ _ _ _ _ => (pd_tup (pad_cons (pd_var 3) (pad_cons (pd_var 4) (pad_cons (pd_xat rfl (xa_part W) rfl (pd_var 3)) pad_nil)))))) (pb_cons (psd_par3 rfl sc__law_inputs.nd (pad_cons (pd_newXK rfl tk hr (rk_BadName__value W (by decide)) (g_BadName W) (pkd_cons (pd_var 0) pkd_nil)) (pad_cons (pd_newX rfl tk hr (rs_BadCount W (by decide)) (g_BadCount W) (pad_cons (pd_var 0) pad_nil)) (pad_cons (pd_newXK rfl tk hr (rk_BadFirsts__line W (by decide)) (g_BadFirsts W) (pkd_cons (pd_var 0) pkd_nil)) pad_nil)))) (pb_cons (psd_set sc__law_inputs.nd (pd_op (od_add rfl tk hr OwnOp.none) (pd_var 2) (pd_lst (pad_cons (pd_tup (pad_cons (pd_var 5) (pad_cons pd_str (pad_cons (pd_xat rfl (xa_value W) rfl (pd_var 5)) pad_nil)))) (pad_cons (pd_tup (pad_cons (pd_var 6) (pad_cons pd_str (pad_cons (pd_xat rfl (xa_value W) rfl (pd_var 6)) pad_nil)))) (pad_cons (pd_tup (pad_cons (pd_var 7) (pad_cons pd_str (pad_cons (pd_xat rfl (xa_line W) rfl (pd_var 7)) pad_nil)))) pad_nil)))))) (pb_cons (psd_par3 rfl sc__law_inputs.nd (pad_cons (pd_newXK rfl tk hr (rk_BadTotals__pair W (by decide)) (g_BadTotals W) (pkd_cons (pd_var 0) pkd_nil)) (pad_cons (pd_newX rfl tk hr (rs_BadEnds W (by decide)) (g_BadEnds W) (pad_cons (pd_var 0) pad_nil)) (pad_cons (pd_newXK rfl tk hr (rk_BadPrices__key W (by decide)) (g_BadPrices W) (pkd_cons (pd_var 0) pkd_nil)) pad_nil)))) (pb_cons (psd_set sc__law_inputs.nd (pd_op (od_add rfl tk hr OwnOp.none) (pd_var 2) (pd_lst (pad_cons (pd_tup (pad_cons (pd_var 5) (pad_cons pd_str (pad_cons (pd_xat rfl (xa_pair W) rfl (pd_var 5)) pad_nil)))) (pad_cons (pd_tup (pad_cons (pd_var 6) (pad_cons pd_str (pad_cons (pd_xat rfl (xa_line W) rfl (pd_var 6)) pad_nil)))) (pad_cons (pd_tup (pad_cons (pd_var 7) (pad_cons pd_str (pad_cons (pd_xat rfl (xa_key W) rfl (pd_var 7)) pad_nil)))) pad_nil)))))) (pb_cons (psd_par rfl sc__law_inputs.nd (pad_cons (pd_newXK rfl tk hr (rk_BadAsk__at W (by decide)) (g_BadAsk W) (pkd_cons (pd_var 0) pkd_nil)) (pad_cons (pd_newXK rfl tk hr (rk_BadLine__word W (by decide)) (g_BadLine W) (pkd_cons (pd_var 0) pkd_nil)) pad_nil))) (pb_one (psd_ret (pd_op (od_add rfl tk hr OwnOp.none) (pd_var 2) (pd_lst (pad_cons (pd_tup (pad_cons (pd_var 5) (pad_cons pd_str (pad_cons (pd_xat rfl (xa_at W) rfl (pd_var 5)) pad_nil)))) (pad_cons (pd_tup (pad_cons (pd_var 6) (pad_cons pd_str (pad_cons (pd_xat rfl (xa_word W) rfl (pd_var 6)) pad_nil)))) pad_nil))))))))))))))
theorem fn__law_inputs {P : Program} {w : World} {K : PySem.W.Frag} {mg : Str → Option Value} {base : Heap} (W : Wk K mg base) : FnD P w (sy W) mg base 4 (d__law_inputs.at_ K) 1 [] (sp__law_inputs (sy W)) := by
  obtain ⟨fd, F⟩ := W.says.def_ 6 (d := d__law_inputs) rfl
  exact fnD_mk (ps := ["_law_thing"]) (S := sy W) F (fnD_of (S := sy W) F sc__law_inputs (len__law_inputs (sy W)) (dv__law_inputs W) (pf__law_inputs (sy W))) fun _ _ _ _ _ _ us hl => match us, hl with | [_], _ => rfl
theorem sc_xNoLine : FnScope ["self", "line"] ["self", "line"] (defScope s_xNoLine) := ⟨rfl, rfl, rfl, by decide +kernel, rfl, by decide +kernel, by decide +kernel⟩
theorem rk_NoLine__line {P : Program} {w : World} {K : PySem.W.Frag} {mg : Str → Option Value} {base : Heap} (W : Wk K mg base) {k : Nat} (h : 2 ≤ k) : RsK P w (sy W) mg base k 16 [28] ["line"] [0] := by
  obtain ⟨fd, F⟩ := W.says.def_ 24 (d := d_xNoLine) rfl
  obtain ⟨h1, h2⟩ := He.ba (fa_123 W)
  have T := oexB_ok (fa_122 W)
  exact RsK.mono ⟨T, ma K (ga K "NoLine") "__init__", fd, ["self", "line"], He.eqO_ok h1, of_decide_eq_true h2, exinit1 F sc_xNoLine T (He.eqO_ok (fa_102 W)) (by first | exact Or.inl rfl | exact Or.inr (Or.inl rfl)) (by first | exact Or.inl rfl | exact Or.inr (Or.inl rfl)) (by decide) (by decide) (by decide) (by decide), bindsK F fun _ _ _ _ _ _ _ ws hl => match ws, hl with | [_], _ => rfl⟩ h
theorem sc_xOver : FnScope ["self", "limit"] ["self", "limit"] (defScope s_xOver) := ⟨rfl, rfl, rfl, by decide +kernel, rfl, by decide +kernel, by decide +kernel⟩
theorem rs_Over {P : Program} {w : World} {K : PySem.W.Frag} {mg : Str → Option Value} {base : Heap} (W : Wk K mg base) {k : Nat} (h : 2 ≤ k) : RsD P w (sy W) mg base k 18 [26] := by
  obtain ⟨fd, F⟩ := W.says.def_ 25 (d := d_xOver) rfl
  obtain ⟨h1, h2⟩ := He.ba (fa_125 W)
  have T := oexB_ok (fa_124 W)
  exact RsD.mono ⟨T, ma K (ga K "Over") "__init__", fd, ["self", "limit"], He.eqO_ok h1, of_decide_eq_true h2, exinit1 F sc_xOver T (He.eqO_ok (fa_126 W)) (by first | exact Or.inl rfl | exact Or.inr (Or.inl rfl)) (by first | exact Or.inl rfl | exact Or.inr (Or.inl rfl)) (by decide) (by decide) (by decide) (by decide), F.bindsN fun _ _ _ _ _ _ us hl => match us, hl with | [_, _], _ => rfl⟩ h
theorem sc_xUnfed : FnScope ["self", "lines"] ["self", "lines"] (defScope s_xUnfed) := ⟨rfl, rfl, rfl, by decide +kernel, rfl, by decide +kernel, by decide +kernel⟩
theorem rk_Unfed__lines {P : Program} {w : World} {K : PySem.W.Frag} {mg : Str → Option Value} {base : Heap} (W : Wk K mg base) {k : Nat} (h : 2 ≤ k) : RsK P w (sy W) mg base k 52 [30] ["lines"] [0] := by
  obtain ⟨fd, F⟩ := W.says.def_ 26 (d := d_xUnfed) rfl
  obtain ⟨h1, h2⟩ := He.ba (fa_128 W)
  have T := oexB_ok (fa_127 W)
  exact RsK.mono ⟨T, ma K (ga K "Unfed") "__init__", fd, ["self", "lines"], He.eqO_ok h1, of_decide_eq_true h2, exinit1 F sc_xUnfed T (He.eqO_ok (fa_129 W)) (by first | exact Or.inl rfl | exact Or.inr (Or.inl rfl)) (by first | exact Or.inl rfl | exact Or.inr (Or.inl rfl)) (by decide) (by decide) (by decide) (by decide), bindsK F fun _ _ _ _ _ _ _ ws hl => match ws, hl with | [_], _ => rfl⟩ h
theorem xa_limit (W : Wk K mg base) : ∀ c, c ∈ [18] → XfC (sy W).K ((sy W).ca c) ∧ PySem.W.findIn (sy W).K (.ref ((sy W).ca c)) "limit" = some none := by
  intro c hc
  rcases List.mem_cons.mp hc with rfl | hc
  · exact ⟨(excCB_ok (fa_130 W)).2.2, He.eqO_ok (fa_126 W)⟩
  exact absurd hc (by simp)
theorem xa_lines (W : Wk K mg base) : ∀ c, c ∈ [52, 53] → XfC (sy W).K ((sy W).ca c) ∧ PySem.W.findIn (sy W).K (.ref ((sy W).ca c)) "lines" = some none := by
  intro c hc
  rcases List.mem_cons.mp hc with rfl | hc
  · exact ⟨(excCB_ok (fa_131 W)).2.2, He.eqO_ok (fa_129 W)⟩
  rcases List.mem_cons.mp hc with rfl | hc
  · exact ⟨(excCB_ok (fa_132 W)).2.2, He.eqO_ok (fa_133 W)⟩
  exact absurd hc (by simp)
theorem sc_xShut : FnScope ["self", "lines"] ["self", "lines"] (defScope s_xShut) := ⟨rfl, rfl, rfl, by decide +kernel, rfl, by decide +kernel, by decide +kernel⟩
theorem rs_Shut {P : Program} {w : World} {K : PySem.W.Frag} {mg : Str → Option Value} {base : Heap} (W : Wk K mg base) {k : Nat} (h : 2 ≤ k) : RsD P w (sy W) mg base k 53 [30] := by
  obtain ⟨fd, F⟩ := W.says.def_ 27 (d := d_xShut) rfl
  obtain ⟨h1, h2⟩ := He.ba (fa_135 W)
  have T := oexB_ok (fa_134 W)
  exact RsD.mono ⟨T, ma K (ga K "Shut") "__init__", fd, ["self", "lines"], He.eqO_ok h1, of_decide_eq_true h2, exinit1 F sc_xShut T (He.eqO_ok (fa_133 W)) (by first | exact Or.inl rfl | exact Or.inr (Or.inl rfl)) (by first | exact Or.inl rfl | exact Or.inr (Or.inl rfl)) (by decide) (by decide) (by decide) (by decide), F.bindsN fun _ _ _ _ _ _ us hl => match us, hl with | [_, _], _ => rfl⟩ h
theorem sc_xKnown : FnScope ["self", "name"] ["self", "name"] (defScope s_xKnown) := ⟨rfl, rfl, rfl, by decide +kernel, rfl, by decide +kernel, by decide +kernel⟩
theorem rk_Known__name {P : Program} {w : World} {K : PySem.W.Frag} {mg : Str → Option Value} {base : Heap} (W : Wk K mg base) {k : Nat} (h : 2 ≤ k) : RsK P w (sy W) mg base k 54 [34] ["name"] [0] := by
  obtain ⟨fd, F⟩ := W.says.def_ 28 (d := d_xKnown) rfl
  obtain ⟨h1, h2⟩ := He.ba (fa_137 W)
  have T := oexB_ok (fa_136 W)
  exact RsK.mono ⟨T, ma K (ga K "Known") "__init__", fd, ["self", "name"], He.eqO_ok h1, of_decide_eq_true h2, exinit1 F sc_xKnown T (He.eqO_ok (fa_138 W)) (by first | exact Or.inl rfl | exact Or.inr (Or.inl rfl)) (by first | exact Or.inl rfl | exact Or.inr (Or.inl rfl)) (by decide) (by decide) (by decide) (by decide), bindsK F fun _ _ _ _ _ _ _ ws hl => match ws, hl with | [_], _ => rfl⟩ h
theorem xa_name (W : Wk K mg base) : ∀ c, c ∈ [54] → XfC (sy W).K ((sy W).ca c) ∧ PySem.W.findIn (sy W).K (.ref ((sy W).ca c)) "name" = some none := by
  intro c hc
  rcases List.mem_cons.mp hc with rfl | hc
  · exact ⟨(excCB_ok (fa_139 W)).2.2, He.eqO_ok (fa_138 W)⟩
  exact absurd hc (by simp)
theorem sc__law_others : FnScope ["_law_thing", "_law_one", "_law_two", "_law_three", "_law_found"] ["_law_thing"] (defScope s__law_others) := ⟨rfl, rfl, rfl, by decide +kernel, rfl, by decide +kernel, by decide +kernel⟩
theorem dv__law_others {P : Program} {w : World} {K : PySem.W.Frag} {mg : Str → Option Value} {base : Heap} (W : Wk K mg base) : ∀ (cdv : Value) (A : Around) (outer : List Env) (s : Shared) (H : Hp) (E : XK), Room 3 (A.deeper (envOfC d__law_others.qual d__law_others.scope s.heap.objs.size (d__law_others.at_ K) cdv)) →
    Takes (cxOf (L2.CX P w) P w K mg base ["_law_thing", "_law_one", "_law_two", "_law_three", "_law_found"] d__law_others.qual d__law_others.scope (d__law_others.at_ K) cdv A outer s H E) (fun cls d _ H => E cls d H) → PBd (cxOf (L2.CX P w) P w K mg base ["_law_thing", "_law_one", "_law_two", "_law_three", "_law_found"] d__law_others.qual d__law_others.scope (d__law_others.at_ K) cdv A outer s H E) (sy W) (fun cls d _ H => E cls d H) d__law_others.body (t__law_others (sy W)) :=
  fun cdv A outer s H E hr tk => (pb_cons (psd_par3 rfl sc__law_others.nd (pad_cons (pd_newXK rfl tk hr (rk_NoLine__line W (by decide)) (g_NoLine W) (pkd_cons (pd_var 0) pkd_nil)) (pad_cons (pd_newX rfl tk hr (rs_Over W (by decide)) (g_Over W) (pad_cons (pd_var 0) pad_nil)) (pad_cons (pd_newXK rfl tk hr (rk_Unfed__lines W (by decide)) (g_Unfed W) (pkd_cons (pd_var 0) pkd_nil)) pad_nil)))) (pb_cons (psd_set sc__law_others.nd (pd_lst (pad_cons (pd_tup (pad_cons (pd_var 1) (pad_cons pd_str (pad_cons (pd_xat rfl (xa_line W) rfl (pd_var 1)) pad_nil)))) (pad_cons (pd_tup (pad_cons (pd_var 2) (pad_cons pd_str (pad_cons (pd_xat rfl (xa_limit W) rfl (pd_var 2)) pad_nil)))) (pad_cons (pd_tup (pad_cons (pd_var 3) (pad_cons pd_str (pad_cons (pd_xat rfl (xa_lines W) rfl (pd_var 3)) pad_nil)))) pad_nil))))) (pb_cons (psd_par rfl sc__law_others.nd (pad_cons (pd_newX rfl tk hr (rs_Shut W (by decide)) (g_Shut W) (pad_cons (pd_var 0) pad_nil)) (pad_cons (pd_newXK rfl tk hr (rk_Known__name W (by decide)) (g_Known W) (pkd_cons (pd_var 0) pkd_nil)) pad_nil))) (pb_one (psd_ret (pd_op (od_add rfl tk hr OwnOp.none) (pd_var 4) (pd_lst (pad_cons (pd_tup (pad_cons (pd_var 1) (pad_cons pd_str (pad_cons (pd_xat rfl (xa_lines W) rfl (pd_var 1)) pad_nil)))) (pad_cons (pd_tup (pad_cons (pd_var 2) (pad_cons pd_str (pad_cons (pd_xat rfl (xa_name W) rfl (pd_var 2)) pad_nil)))) pad_nil)))))))))
theorem fn__law_others {P : Program} {w : World} {K : PySem.W.Frag} {mg : Str → Option Value} {base : Heap} (W : Wk K mg base) : FnD P w (sy W) mg base 4 (d__law_others.at_ K) 1 [] (sp__law_others (sy W)) := by
  obtain ⟨fd, F⟩ := W.says.def_ 7 (d := d__law_others) rfl
  exact fnD_mk (ps := ["_law_thing"]) (S := sy W) F (fnD_of (S := sy W) F sc__law_others (len__law_others (sy W)) (dv__law_others W) (pf__law_others (sy W))) fun _ _ _ _ _ _ us hl => match us, hl with | [_], _ => rfl
theorem rk_BadAmount__part {P : Program} {w : World} {K : PySem.W.Frag} {mg : Str → Option Value} {base : Heap} (W : Wk K mg base) {k : Nat} (h : 2 ≤ k) : RsK P w (sy W) mg base k 3 [44] ["part"] [0] := by
  obtain ⟨fd, F⟩ := W.says.def_ 11 (d := d_xBadAmount) rfl
  obtain ⟨h1, h2⟩ := He.ba (fa_66 W)
  have T := oexB_ok (fa_65 W)
  exact RsK.mono ⟨T, ma K (ga K "BadAmount") "__init__", fd, ["self", "part"], He.eqO_ok h1, of_decide_eq_true h2, exinit1 F sc_xBadAmount T (He.eqO_ok (fa_67 W)) (by first | exact Or.inl rfl | exact Or.inr (Or.inl rfl)) (by first | exact Or.inl rfl | exact Or.inr (Or.inl rfl)) (by decide) (by decide) (by decide) (by decide), bindsK F fun _ _ _ _ _ _ _ ws hl => match ws, hl with | [_], _ => rfl⟩ h
theorem rk_BadBook__part {P : Program} {w : World} {K : PySem.W.Frag} {mg : Str → Option Value} {base : Heap} (W : Wk K mg base) {k : Nat} (h : 2 ≤ k) : RsK P w (sy W) mg base k 7 [44] ["part"] [0] := by
  obtain ⟨fd, F⟩ := W.says.def_ 13 (d := d_xBadBook) rfl
  obtain ⟨h1, h2⟩ := He.ba (fa_72 W)
  have T := oexB_ok (fa_71 W)
  exact RsK.mono ⟨T, ma K (ga K "BadBook") "__init__", fd, ["self", "part"], He.eqO_ok h1, of_decide_eq_true h2, exinit1 F sc_xBadBook T (He.eqO_ok (fa_73 W)) (by first | exact Or.inl rfl | exact Or.inr (Or.inl rfl)) (by first | exact Or.inl rfl | exact Or.inr (Or.inl rfl)) (by decide) (by decide) (by decide) (by decide), bindsK F fun _ _ _ _ _ _ _ ws hl => match ws, hl with | [_], _ => rfl⟩ h
theorem rk_BadRun__part {P : Program} {w : World} {K : PySem.W.Frag} {mg : Str → Option Value} {base : Heap} (W : Wk K mg base) {k : Nat} (h : 2 ≤ k) : RsK P w (sy W) mg base k 12 [44] ["part"] [0] := by
  obtain ⟨fd, F⟩ := W.says.def_ 15 (d := d_xBadRun) rfl
  obtain ⟨h1, h2⟩ := He.ba (fa_78 W)
  have T := oexB_ok (fa_77 W)
  exact RsK.mono ⟨T, ma K (ga K "BadRun") "__init__", fd, ["self", "part"], He.eqO_ok h1, of_decide_eq_true h2, exinit1 F sc_xBadRun T (He.eqO_ok (fa_79 W)) (by first | exact Or.inl rfl | exact Or.inr (Or.inl rfl)) (by first | exact Or.inl rfl | exact Or.inr (Or.inl rfl)) (by decide) (by decide) (by decide) (by decide), bindsK F fun _ _ _ _ _ _ _ ws hl => match ws, hl with | [_], _ => rfl⟩ h
theorem rk_BadCount__value {P : Program} {w : World} {K : PySem.W.Frag} {mg : Str → Option Value} {base : Heap} (W : Wk K mg base) {k : Nat} (h : 2 ≤ k) : RsK P w (sy W) mg base k 5 [63] ["value"] [0] := by
  obtain ⟨fd, F⟩ := W.says.def_ 17 (d := d_xBadCount) rfl
  obtain ⟨h1, h2⟩ := He.ba (fa_89 W)
  have T := oexB_ok (fa_88 W)
  exact RsK.mono ⟨T, ma K (ga K "BadCount") "__init__", fd, ["self", "value"], He.eqO_ok h1, of_decide_eq_true h2, exinit1 F sc_xBadCount T (He.eqO_ok (fa_90 W)) (by first | exact Or.inl rfl | exact Or.inr (Or.inl rfl)) (by first | exact Or.inl rfl | exact Or.inr (Or.inl rfl)) (by decide) (by decide) (by decide) (by decide), bindsK F fun _ _ _ _ _ _ _ ws hl => match ws, hl with | [_], _ => rfl⟩ h
theorem rk_BadEnds__line {P : Program} {w : World} {K : PySem.W.Frag} {mg : Str → Option Value} {base : Heap} (W : Wk K mg base) {k : Nat} (h : 2 ≤ k) : RsK P w (sy W) mg base k 10 [28] ["line"] [0] := by
  obtain ⟨fd, F⟩ := W.says.def_ 20 (d := d_xBadEnds) rfl
  obtain ⟨h1, h2⟩ := He.ba (fa_107 W)
  have T := oexB_ok (fa_106 W)
  exact RsK.mono ⟨T, ma K (ga K "BadEnds") "__init__", fd, ["self", "line"], He.eqO_ok h1, of_decide_eq_true h2, exinit1 F sc_xBadEnds T (He.eqO_ok (fa_98 W)) (by first | exact Or.inl rfl | exact Or.inr (Or.inl rfl)) (by first | exact Or.inl rfl | exact Or.inr (Or.inl rfl)) (by decide) (by decide) (by decide) (by decide), bindsK F fun _ _ _ _ _ _ _ ws hl => match ws, hl with | [_], _ => rfl⟩ h
theorem rk_Over__limit {P : Program} {w : World} {K : PySem.W.Frag} {mg : Str → Option Value} {base : Heap} (W : Wk K mg base) {k : Nat} (h : 2 ≤ k) : RsK P w (sy W) mg base k 18 [26] ["limit"] [0] := by
  obtain ⟨fd, F⟩ := W.says.def_ 25 (d := d_xOver) rfl
  obtain ⟨h1, h2⟩ := He.ba (fa_125 W)
  have T := oexB_ok (fa_124 W)
  exact RsK.mono ⟨T, ma K (ga K "Over") "__init__", fd, ["self", "limit"], He.eqO_ok h1, of_decide_eq_true h2, exinit1 F sc_xOver T (He.eqO_ok (fa_126 W)) (by first | exact Or.inl rfl | exact Or.inr (Or.inl rfl)) (by first | exact Or.inl rfl | exact Or.inr (Or.inl rfl)) (by decide) (by decide) (by decide) (by decide), bindsK F fun _ _ _ _ _ _ _ ws hl => match ws, hl with | [_], _ => rfl⟩ h
theorem rk_Shut__lines {P : Program} {w : World} {K : PySem.W.Frag} {mg : Str → Option Value} {base : Heap} (W : Wk K mg base) {k : Nat} (h : 2 ≤ k) : RsK P w (sy W) mg base k 53 [30] ["lines"] [0] := by
  obtain ⟨fd, F⟩ := W.says.def_ 27 (d := d_xShut) rfl
  obtain ⟨h1, h2⟩ := He.ba (fa_135 W)
  have T := oexB_ok (fa_134 W)
  exact RsK.mono ⟨T, ma K (ga K "Shut") "__init__", fd, ["self", "lines"], He.eqO_ok h1, of_decide_eq_true h2, exinit1 F sc_xShut T (He.eqO_ok (fa_133 W)) (by first | exact Or.inl rfl | exact Or.inr (Or.inl rfl)) (by first | exact Or.inl rfl | exact Or.inr (Or.inl rfl)) (by decide) (by decide) (by decide) (by decide), bindsK F fun _ _ _ _ _ _ _ ws hl => match ws, hl with | [_], _ => rfl⟩ h
theorem rs_BadName {P : Program} {w : World} {K : PySem.W.Frag} {mg : Str → Option Value} {base : Heap} (W : Wk K mg base) {k : Nat} (h : 2 ≤ k) : RsD P w (sy W) mg base k 4 [63] := by
  obtain ⟨fd, F⟩ := W.says.def_ 16 (d := d_xBadName) rfl
  obtain ⟨h1, h2⟩ := He.ba (fa_86 W)
  have T := oexB_ok (fa_85 W)
  exact RsD.mono ⟨T, ma K (ga K "BadName") "__init__", fd, ["self", "value"], He.eqO_ok h1, of_decide_eq_true h2, exinit1 F sc_xBadName T (He.eqO_ok (fa_87 W)) (by first | exact Or.inl rfl | exact Or.inr (Or.inl rfl)) (by first | exact Or.inl rfl | exact Or.inr (Or.inl rfl)) (by decide) (by decide) (by decide) (by decide), F.bindsN fun _ _ _ _ _ _ us hl => match us, hl with | [_, _], _ => rfl⟩ h
theorem rs_BadFirsts {P : Program} {w : World} {K : PySem.W.Frag} {mg : Str → Option Value} {base : Heap} (W : Wk K mg base) {k : Nat} (h : 2 ≤ k) : RsD P w (sy W) mg base k 8 [28] := by
  obtain ⟨fd, F⟩ := W.says.def_ 18 (d := d_xBadFirsts) rfl
  obtain ⟨h1, h2⟩ := He.ba (fa_92 W)
  have T := oexB_ok (fa_91 W)
  exact RsD.mono ⟨T, ma K (ga K "BadFirsts") "__init__", fd, ["self", "line"], He.eqO_ok h1, of_decide_eq_true h2, exinit1 F sc_xBadFirsts T (He.eqO_ok (fa_93 W)) (by first | exact Or.inl rfl | exact Or.inr (Or.inl rfl)) (by first | exact Or.inl rfl | exact Or.inr (Or.inl rfl)) (by decide) (by decide) (by decide) (by decide), F.bindsN fun _ _ _ _ _ _ us hl => match us, hl with | [_, _], _ => rfl⟩ h
theorem rs_BadTotals {P : Program} {w : World} {K : PySem.W.Frag} {mg : Str → Option Value} {base : Heap} (W : Wk K mg base) {k : Nat} (h : 2 ≤ k) : RsD P w (sy W) mg base k 50 [41] := by
  obtain ⟨fd, F⟩ := W.says.def_ 19 (d := d_xBadTotals) rfl
  obtain ⟨h1, h2⟩ := He.ba (fa_104 W)
  have T := oexB_ok (fa_103 W)
  exact RsD.mono ⟨T, ma K (ga K "BadTotals") "__init__", fd, ["self", "pair"], He.eqO_ok h1, of_decide_eq_true h2, exinit1 F sc_xBadTotals T (He.eqO_ok (fa_105 W)) (by first | exact Or.inl rfl | exact Or.inr (Or.inl rfl)) (by first | exact Or.inl rfl | exact Or.inr (Or.inl rfl)) (by decide) (by decide) (by decide) (by decide), F.bindsN fun _ _ _ _ _ _ us hl => match us, hl with | [_, _], _ => rfl⟩ h
theorem rs_BadPrices {P : Program} {w : World} {K : PySem.W.Frag} {mg : Str → Option Value} {base : Heap} (W : Wk K mg base) {k : Nat} (h : 2 ≤ k) : RsD P w (sy W) mg base k 11 [23] := by
  obtain ⟨fd, F⟩ := W.says.def_ 21 (d := d_xBadPrices) rfl
  obtain ⟨h1, h2⟩ := He.ba (fa_109 W)
  have T := oexB_ok (fa_108 W)
  exact RsD.mono ⟨T, ma K (ga K "BadPrices") "__init__", fd, ["self", "key"], He.eqO_ok h1, of_decide_eq_true h2, exinit1 F sc_xBadPrices T (He.eqO_ok (fa_110 W)) (by first | exact Or.inl rfl | exact Or.inr (Or.inl rfl)) (by first | exact Or.inl rfl | exact Or.inr (Or.inl rfl)) (by decide) (by decide) (by decide) (by decide), F.bindsN fun _ _ _ _ _ _ us hl => match us, hl with | [_, _], _ => rfl⟩ h
theorem rs_BadLimit {P : Program} {w : World} {K : PySem.W.Frag} {mg : Str → Option Value} {base : Heap} (W : Wk K mg base) {k : Nat} (h : 2 ≤ k) : RsD P w (sy W) mg base k 6 [44] := by
  obtain ⟨fd, F⟩ := W.says.def_ 12 (d := d_xBadLimit) rfl
  obtain ⟨h1, h2⟩ := He.ba (fa_69 W)
  have T := oexB_ok (fa_68 W)
  exact RsD.mono ⟨T, ma K (ga K "BadLimit") "__init__", fd, ["self", "part"], He.eqO_ok h1, of_decide_eq_true h2, exinit1 F sc_xBadLimit T (He.eqO_ok (fa_70 W)) (by first | exact Or.inl rfl | exact Or.inr (Or.inl rfl)) (by first | exact Or.inl rfl | exact Or.inr (Or.inl rfl)) (by decide) (by decide) (by decide) (by decide), F.bindsN fun _ _ _ _ _ _ us hl => match us, hl with | [_, _], _ => rfl⟩ h
theorem rs_BadMove {P : Program} {w : World} {K : PySem.W.Frag} {mg : Str → Option Value} {base : Heap} (W : Wk K mg base) {k : Nat} (h : 2 ≤ k) : RsD P w (sy W) mg base k 9 [44] := by
  obtain ⟨fd, F⟩ := W.says.def_ 14 (d := d_xBadMove) rfl
  obtain ⟨h1, h2⟩ := He.ba (fa_75 W)
  have T := oexB_ok (fa_74 W)
  exact RsD.mono ⟨T, ma K (ga K "BadMove") "__init__", fd, ["self", "part"], He.eqO_ok h1, of_decide_eq_true h2, exinit1 F sc_xBadMove T (He.eqO_ok (fa_76 W)) (by first | exact Or.inl rfl | exact Or.inr (Or.inl rfl)) (by first | exact Or.inl rfl | exact Or.inr (Or.inl rfl)) (by decide) (by decide) (by decide) (by decide), F.bindsN fun _ _ _ _ _ _ us hl => match us, hl with | [_, _], _ => rfl⟩ h
theorem rs_BadAsk {P : Program} {w : World} {K : PySem.W.Frag} {mg : Str → Option Value} {base : Heap} (W : Wk K mg base) {k : Nat} (h : 2 ≤ k) : RsD P w (sy W) mg base k 51 [2] := by
  obtain ⟨fd, F⟩ := W.says.def_ 22 (d := d_xBadAsk) rfl
  obtain ⟨h1, h2⟩ := He.ba (fa_114 W)
  have T := oexB_ok (fa_113 W)
  exact RsD.mono ⟨T, ma K (ga K "BadAsk") "__init__", fd, ["self", "at"], He.eqO_ok h1, of_decide_eq_true h2, exinit1 F sc_xBadAsk T (He.eqO_ok (fa_115 W)) (by first | exact Or.inl rfl | exact Or.inr (Or.inl rfl)) (by first | exact Or.inl rfl | exact Or.inr (Or.inl rfl)) (by decide) (by decide) (by decide) (by decide), F.bindsN fun _ _ _ _ _ _ us hl => match us, hl with | [_, _], _ => rfl⟩ h
theorem rs_BadLine {P : Program} {w : World} {K : PySem.W.Frag} {mg : Str → Option Value} {base : Heap} (W : Wk K mg base) {k : Nat} (h : 2 ≤ k) : RsD P w (sy W) mg base k 14 [66] := by
  obtain ⟨fd, F⟩ := W.says.def_ 23 (d := d_xBadLine) rfl
  obtain ⟨h1, h2⟩ := He.ba (fa_117 W)
  have T := oexB_ok (fa_116 W)
  exact RsD.mono ⟨T, ma K (ga K "BadLine") "__init__", fd, ["self", "word"], He.eqO_ok h1, of_decide_eq_true h2, exinit1 F sc_xBadLine T (He.eqO_ok (fa_118 W)) (by first | exact Or.inl rfl | exact Or.inr (Or.inl rfl)) (by first | exact Or.inl rfl | exact Or.inr (Or.inl rfl)) (by decide) (by decide) (by decide) (by decide), F.bindsN fun _ _ _ _ _ _ us hl => match us, hl with | [_, _], _ => rfl⟩ h
theorem rs_NoLine {P : Program} {w : World} {K : PySem.W.Frag} {mg : Str → Option Value} {base : Heap} (W : Wk K mg base) {k : Nat} (h : 2 ≤ k) : RsD P w (sy W) mg base k 16 [28] := by
  obtain ⟨fd, F⟩ := W.says.def_ 24 (d := d_xNoLine) rfl
  obtain ⟨h1, h2⟩ := He.ba (fa_123 W)
  have T := oexB_ok (fa_122 W)
  exact RsD.mono ⟨T, ma K (ga K "NoLine") "__init__", fd, ["self", "line"], He.eqO_ok h1, of_decide_eq_true h2, exinit1 F sc_xNoLine T (He.eqO_ok (fa_102 W)) (by first | exact Or.inl rfl | exact Or.inr (Or.inl rfl)) (by first | exact Or.inl rfl | exact Or.inr (Or.inl rfl)) (by decide) (by decide) (by decide) (by decide), F.bindsN fun _ _ _ _ _ _ us hl => match us, hl with | [_, _], _ => rfl⟩ h
theorem rs_Unfed {P : Program} {w : World} {K : PySem.W.Frag} {mg : Str → Option Value} {base : Heap} (W : Wk K mg base) {k : Nat} (h : 2 ≤ k) : RsD P w (sy W) mg base k 52 [30] := by
  obtain ⟨fd, F⟩ := W.says.def_ 26 (d := d_xUnfed) rfl
  obtain ⟨h1, h2⟩ := He.ba (fa_128 W)
  have T := oexB_ok (fa_127 W)
  exact RsD.mono ⟨T, ma K (ga K "Unfed") "__init__", fd, ["self", "lines"], He.eqO_ok h1, of_decide_eq_true h2, exinit1 F sc_xUnfed T (He.eqO_ok (fa_129 W)) (by first | exact Or.inl rfl | exact Or.inr (Or.inl rfl)) (by first | exact Or.inl rfl | exact Or.inr (Or.inl rfl)) (by decide) (by decide) (by decide) (by decide), F.bindsN fun _ _ _ _ _ _ us hl => match us, hl with | [_, _], _ => rfl⟩ h
theorem rs_Known {P : Program} {w : World} {K : PySem.W.Frag} {mg : Str → Option Value} {base : Heap} (W : Wk K mg base) {k : Nat} (h : 2 ≤ k) : RsD P w (sy W) mg base k 54 [34] := by
  obtain ⟨fd, F⟩ := W.says.def_ 28 (d := d_xKnown) rfl
  obtain ⟨h1, h2⟩ := He.ba (fa_137 W)
  have T := oexB_ok (fa_136 W)
  exact RsD.mono ⟨T, ma K (ga K "Known") "__init__", fd, ["self", "name"], He.eqO_ok h1, of_decide_eq_true h2, exinit1 F sc_xKnown T (He.eqO_ok (fa_138 W)) (by first | exact Or.inl rfl | exact Or.inr (Or.inl rfl)) (by first | exact Or.inl rfl | exact Or.inr (Or.inl rfl)) (by decide) (by decide) (by decide) (by decide), F.bindsN fun _ _ _ _ _ _ us hl => match us, hl with | [_, _], _ => rfl⟩ h
theorem b_repr (W : Wk K mg base) : mg "repr" = none := He.free_ok W.kin W.ns (fa_140 W)
theorem sc__law_named_right : FnScope ["_law_thing", "_law_told", "_law_one"] ["_law_thing"] (defScope s__law_named_right) := ⟨rfl, rfl, rfl, by decide +kernel, rfl, by decide +kernel, by decide +kernel⟩
theorem dv__law_named_right {P : Program} {w : World} {K : PySem.W.Frag} {mg : Str → Option Value} {base : Heap} (W : Wk K mg base) : ∀ (cdv : Value) (A : Around) (outer : List Env) (s : Shared) (H : Hp) (E : XK), Qt A → Room 12 (A.deeper (envOfC d__law_named_right.qual d__law_named_right.scope s.heap.objs.size (d__law_named_right.at_ K) cdv)) →
    Takes (cxOf (L2.CX P w) P w K mg base ["_law_thing", "_law_told", "_law_one"] d__law_named_right.qual d__law_named_right.scope (d__law_named_right.at_ K) cdv A outer s H E) (fun cls d _ H => E cls d H) → PBd (cxOf (L2.CX P w) P w K mg base ["_law_thing", "_law_told", "_law_one"] d__law_named_right.qual d__law_named_right.scope (d__law_named_right.at_ K) cdv A outer s H E) (sy W) (fun cls d _ H => E cls d H) d__law_named_right.body (t__law_named_right (sy W)) :=
  fun cdv A outer s H E gd0 hr tk => have gd : Qt (A.deeper (envOfC d__law_named_right.qual d__law_named_right.scope s.heap.objs.size (d__law_named_right.at_ K) cdv)) := gd0.deeper _; (pb_cons (psd_set sc__law_named_right.nd (pd_lst (pad_cons (pd_xat rfl (xa_part W) rfl (pd_newXK rfl tk hr (rk_BadAmount__part W (by decide)) (g_BadAmount W) (pkd_cons (pd_var 0) pkd_nil))) (pad_cons (pd_xat rfl (xa_part W) rfl (pd_newXK rfl tk hr (rk_BadBook__part W (by decide)) (g_BadBook W) (pkd_cons (pd_var 0) pkd_nil))) (pad_cons (pd_xat rfl (xa_part W) rfl (pd_newXK rfl tk hr (rk_BadRun__part W (by decide)) (g_BadRun W) (pkd_cons (pd_var 0) pkd_nil))) (pad_cons (pd_xat rfl (xa_value W) rfl (pd_newXK rfl tk hr (rk_BadCount__value W (by decide)) (g_BadCount W) (pkd_cons (pd_var 0) pkd_nil))) pad_nil)))))) (pb_cons (psd_set sc__law_named_right.nd (pd_op (od_add rfl tk hr OwnOp.none) (pd_var 1) (pd_lst (pad_cons (pd_xat rfl (xa_line W) rfl (pd_newXK rfl tk hr (rk_BadEnds__line W (by decide)) (g_BadEnds W) (pkd_cons (pd_var 0) pkd_nil))) (pad_cons (pd_xat rfl (xa_limit W) rfl (pd_newXK rfl tk hr (rk_Over__limit W (by decide)) (g_Over W) (pkd_cons (pd_var 0) pkd_nil))) (pad_cons (pd_xat rfl (xa_lines W) rfl (pd_newXK rfl tk hr (rk_Shut__lines W (by decide)) (g_Shut W) (pkd_cons (pd_var 0) pkd_nil))) pad_nil)))))) (pb_cons (psd_set sc__law_named_right.nd (pd_op (od_add rfl tk hr OwnOp.none) (pd_var 1) (pd_lst (pad_cons (pd_xat rfl (xa_value W) rfl (pd_newX rfl tk hr (rs_BadName W (by decide)) (g_BadName W) (pad_cons (pd_var 0) pad_nil))) (pad_cons (pd_xat rfl (xa_line W) rfl (pd_newX rfl tk hr (rs_BadFirsts W (by decide)) (g_BadFirsts W) (pad_cons (pd_var 0) pad_nil))) (pad_cons (pd_xat rfl (xa_pair W) rfl (pd_newX rfl tk hr (rs_BadTotals W (by decide)) (g_BadTotals W) (pad_cons (pd_var 0) pad_nil))) (pad_cons (pd_xat rfl (xa_key W) rfl (pd_newX rfl tk hr (rs_BadPrices W (by decide)) (g_BadPrices W) (pad_cons (pd_var 0) pad_nil))) pad_nil))))))) (pb_cons (psd_set sc__law_named_right.nd (pd_op (od_add rfl tk hr OwnOp.none) (pd_var 1) (pd_lst (pad_cons (pd_xat rfl (xa_part W) rfl (pd_newX rfl tk hr (rs_BadLimit W (by decide)) (g_BadLimit W) (pad_cons (pd_var 0) pad_nil))) (pad_cons (pd_xat rfl (xa_part W) rfl (pd_newX rfl tk hr (rs_BadMove W (by decide)) (g_BadMove W) (pad_cons (pd_var 0) pad_nil))) (pad_cons (pd_xat rfl (xa_at W) rfl (pd_newX rfl tk hr (rs_BadAsk W (by decide)) (g_BadAsk W) (pad_cons (pd_var 0) pad_nil))) (pad_cons (pd_xat rfl (xa_word W) rfl (pd_newX rfl tk hr (rs_BadLine W (by decide)) (g_BadLine W) (pad_cons (pd_var 0) pad_nil))) (pad_cons (pd_xat rfl (xa_line W) rfl (pd_newX rfl tk hr (rs_NoLine W (by decide)) (g_NoLine W) (pad_cons (pd_var 0) pad_nil))) pad_nil)))))))) (pb_cons (psd_set sc__law_named_right.nd (pd_op (od_add rfl tk hr OwnOp.none) (pd_var 1) (pd_lst (pad_cons (pd_xat rfl (xa_lines W) rfl (pd_newX rfl tk hr (rs_Unfed W (by decide)) (g_Unfed W) (pad_cons (pd_var 0) pad_nil))) (pad_cons (pd_xat rfl (xa_name W) rfl (pd_newX rfl tk hr (rs_Known W (by decide)) (g_Known W) (pad_cons (pd_var 0) pad_nil))) pad_nil))))) (pb_one (psd_ret (pd_cmp (od_eq (eqo_qN W _ rfl rfl rfl rfl rfl) hr (by decide)) (pd_lc (own := [("_law_one", 2)]) rfl sc__law_named_right.nd (pid_seq rfl (pd_var 1)) (show BlkOk ["_law_thing", "_law_told", "_law_one"] (defScope s__law_named_right) _ _ from ⟨rfl, by decide +kernel, by decide +kernel, by decide +kernel, by decide +kernel⟩) (fun _ _ _ _ _ => (pgc_name sc__law_named_right.nd)) (fun _ _ _ _ _ => (ptsd_one (pt_cmpD (od_ne (eqo_qN W _ rfl rfl rfl rfl rfl) hr (by decide)) (pd_callB (cl_reprE rfl (smok W) gd hr) (pad_cons (pd_var 2) pad_nil) (b_repr W)) (pd_callB (cl_reprE rfl (smok W) gd hr) (pad_cons (pd_var 0) pad_nil) (b_repr W)) (L2.nomark _)))) (fun _ _ _ _ _ => (pd_var 2))) (pd_lst pad_nil) (L2.nomark _)))))))))
theorem fn__law_named_right {P : Program} {w : World} {K : PySem.W.Frag} {mg : Str → Option Value} {base : Heap} (W : Wk K mg base) : FnDG P w (sy W) mg base 13 (d__law_named_right.at_ K) 1 [] (sp__law_named_right (sy W)) := by
  obtain ⟨fd, F⟩ := W.says.def_ 8 (d := d__law_named_right) rfl
  exact fnDG_mk (ps := ["_law_thing"]) (S := sy W) F (fnG_of (S := sy W) F sc__law_named_right (len__law_named_right (sy W)) (dv__law_named_right W) (pf__law_named_right (sy W))) fun _ _ _ _ _ _ us hl => match us, hl with | [_], _ => rfl
theorem sc_xBadText : FnScope ["self", "line", "word"] ["self", "line", "word"] (defScope s_xBadText) := ⟨rfl, rfl, rfl, by decide +kernel, rfl, by decide +kernel, by decide +kernel⟩
theorem rs_BadText {P : Program} {w : World} {K : PySem.W.Frag} {mg : Str → Option Value} {base : Heap} (W : Wk K mg base) {k : Nat} (h : 2 ≤ k) : RsD P w (sy W) mg base k 13 [28, 66] := by
  obtain ⟨fd, F⟩ := W.says.def_ 29 (d := d_xBadText) rfl
  obtain ⟨h1, h2⟩ := He.ba (fa_142 W)
  have T := oexB_ok (fa_141 W)
  exact RsD.mono ⟨T, ma K (ga K "BadText") "__init__", fd, ["self", "line", "word"], He.eqO_ok h1, of_decide_eq_true h2, exinit2 F sc_xBadText T (He.eqO_ok (fa_100 W)) (He.eqO_ok (fa_120 W)) (by first | exact Or.inl rfl | exact Or.inr (Or.inl rfl)) (by first | exact Or.inl rfl | exact Or.inr (Or.inl rfl)) (by first | exact Or.inl rfl | exact Or.inr (Or.inl rfl)) (by decide) (by decide) (by decide) (by decide) (by decide) (by decide), F.bindsN fun _ _ _ _ _ _ us hl => match us, hl with | [_, _, _], _ => rfl⟩ h
theorem rk_BadText__word_line {P : Program} {w : World} {K : PySem.W.Frag} {mg : Str → Option Value} {base : Heap} (W : Wk K mg base) {k : Nat} (h : 2 ≤ k) : RsK P w (sy W) mg base k 13 [28, 66] ["word", "line"] [1, 0] := by
  obtain ⟨fd, F⟩ := W.says.def_ 29 (d := d_xBadText) rfl
  obtain ⟨h1, h2⟩ := He.ba (fa_142 W)
  have T := oexB_ok (fa_141 W)
  exact RsK.mono ⟨T, ma K (ga K "BadText") "__init__", fd, ["self", "line", "word"], He.eqO_ok h1, of_decide_eq_true h2, exinit2 F sc_xBadText T (He.eqO_ok (fa_100 W)) (He.eqO_ok (fa_120 W)) (by first | exact Or.inl rfl | exact Or.inr (Or.inl rfl)) (by first | exact Or.inl rfl | exact Or.inr (Or.inl rfl)) (by first | exact Or.inl rfl | exact Or.inr (Or.inl rfl)) (by decide) (by decide) (by decide) (by decide) (by decide) (by decide), bindsK F fun _ _ _ _ _ _ _ ws hl => match ws, hl with | [_, _], _ => rfl⟩ h
theorem g__law_kinds (W : Wk K mg base) : mg "_law_kinds" = some (.ref (ga K "_law_kinds")) := He.glo_ok W.kin W.ns (fa_143 W)
theorem sc_xNoPair : FnScope ["self", "giver", "taker"] ["self", "giver", "taker"] (defScope s_xNoPair) := ⟨rfl, rfl, rfl, by decide +kernel, rfl, by decide +kernel, by decide +kernel⟩
theorem rs_NoPair {P : Program} {w : World} {K : PySem.W.Frag} {mg : Str → Option Value} {base : Heap} (W : Wk K mg base) {k : Nat} (h : 2 ≤ k) : RsD P w (sy W) mg base k 17 [16, 56] := by
  obtain ⟨fd, F⟩ := W.says.def_ 30 (d := d_xNoPair) rfl
  obtain ⟨h1, h2⟩ := He.ba (fa_145 W)
  have T := oexB_ok (fa_144 W)
  exact RsD.mono ⟨T, ma K (ga K "NoPair") "__init__", fd, ["self", "giver", "taker"], He.eqO_ok h1, of_decide_eq_true h2, exinit2 F sc_xNoPair T (He.eqO_ok (fa_146 W)) (He.eqO_ok (fa_147 W)) (by first | exact Or.inl rfl | exact Or.inr (Or.inl rfl)) (by first | exact Or.inl rfl | exact Or.inr (Or.inl rfl)) (by first | exact Or.inl rfl | exact Or.inr (Or.inl rfl)) (by decide) (by decide) (by decide) (by decide) (by decide) (by decide), F.bindsN fun _ _ _ _ _ _ us hl => match us, hl with | [_, _, _], _ => rfl⟩ h
theorem rk_NoPair__taker_giver {P : Program} {w : World} {K : PySem.W.Frag} {mg : Str → Option Value} {base : Heap} (W : Wk K mg base) {k : Nat} (h : 2 ≤ k) : RsK P w (sy W) mg base k 17 [16, 56] ["taker", "giver"] [1, 0] := by
  obtain ⟨fd, F⟩ := W.says.def_ 30 (d := d_xNoPair) rfl
  obtain ⟨h1, h2⟩ := He.ba (fa_145 W)
  have T := oexB_ok (fa_144 W)
  exact RsK.mono ⟨T, ma K (ga K "NoPair") "__init__", fd, ["self", "giver", "taker"], He.eqO_ok h1, of_decide_eq_true h2, exinit2 F sc_xNoPair T (He.eqO_ok (fa_146 W)) (He.eqO_ok (fa_147 W)) (by first | exact Or.inl rfl | exact Or.inr (Or.inl rfl)) (by first | exact Or.inl rfl | exact Or.inr (Or.inl rfl)) (by first | exact Or.inl rfl | exact Or.inr (Or.inl rfl)) (by decide) (by decide) (by decide) (by decide) (by decide) (by decide), bindsK F fun _ _ _ _ _ _ _ ws hl => match ws, hl with | [_, _], _ => rfl⟩ h
theorem xa_giver (W : Wk K mg base) : ∀ c, c ∈ [17] → XfC (sy W).K ((sy W).ca c) ∧ PySem.W.findIn (sy W).K (.ref ((sy W).ca c)) "giver" = some none := by
  intro c hc
  rcases List.mem_cons.mp hc with rfl | hc
  · exact ⟨(excCB_ok (fa_148 W)).2.2, He.eqO_ok (fa_146 W)⟩
  exact absurd hc (by simp)
theorem xa_taker (W : Wk K mg base) : ∀ c, c ∈ [17] → XfC (sy W).K ((sy W).ca c) ∧ PySem.W.findIn (sy W).K (.ref ((sy W).ca c)) "taker" = some none := by
  intro c hc
  rcases List.mem_cons.mp hc with rfl | hc
  · exact ⟨(excCB_ok (fa_148 W)).2.2, He.eqO_ok (fa_147 W)⟩
  exact absurd hc (by simp)
theorem sc_xTooMany : FnScope ["self", "what", "most"] ["self", "what", "most"] (defScope s_xTooMany) := ⟨rfl, rfl, rfl, by decide +kernel, rfl, by decide +kernel, by decide +kernel⟩
theorem rs_TooMany {P : Program} {w : World} {K : PySem.W.Frag} {mg : Str → Option Value} {base : Heap} (W : Wk K mg base) {k : Nat} (h : 2 ≤ k) : RsD P w (sy W) mg base k 19 [65, 32] := by
  obtain ⟨fd, F⟩ := W.says.def_ 31 (d := d_xTooMany) rfl
  obtain ⟨h1, h2⟩ := He.ba (fa_150 W)
  have T := oexB_ok (fa_149 W)
  exact RsD.mono ⟨T, ma K (ga K "TooMany") "__init__", fd, ["self", "what", "most"], He.eqO_ok h1, of_decide_eq_true h2, exinit2 F sc_xTooMany T (He.eqO_ok (fa_151 W)) (He.eqO_ok (fa_152 W)) (by first | exact Or.inl rfl | exact Or.inr (Or.inl rfl)) (by first | exact Or.inl rfl | exact Or.inr (Or.inl rfl)) (by first | exact Or.inl rfl | exact Or.inr (Or.inl rfl)) (by decide) (by decide) (by decide) (by decide) (by decide) (by decide), F.bindsN fun _ _ _ _ _ _ us hl => match us, hl with | [_, _, _], _ => rfl⟩ h
theorem rk_TooMany__most_what {P : Program} {w : World} {K : PySem.W.Frag} {mg : Str → Option Value} {base : Heap} (W : Wk K mg base) {k : Nat} (h : 2 ≤ k) : RsK P w (sy W) mg base k 19 [65, 32] ["most", "what"] [1, 0] := by
  obtain ⟨fd, F⟩ := W.says.def_ 31 (d := d_xTooMany) rfl
  obtain ⟨h1, h2⟩ := He.ba (fa_150 W)
  have T := oexB_ok (fa_149 W)
  exact RsK.mono ⟨T, ma K (ga K "TooMany") "__init__", fd, ["self", "what", "most"], He.eqO_ok h1, of_decide_eq_true h2, exinit2 F sc_xTooMany T (He.eqO_ok (fa_151 W)) (He.eqO_ok (fa_152 W)) (by first | exact Or.inl rfl | exact Or.inr (Or.inl rfl)) (by first | exact Or.inl rfl | exact Or.inr (Or.inl rfl)) (by first | exact Or.inl rfl | exact Or.inr (Or.inl rfl)) (by decide) (by decide) (by decide) (by decide) (by decide) (by decide), bindsK F fun _ _ _ _ _ _ _ ws hl => match ws, hl with | [_, _], _ => rfl⟩ h
theorem xa_what (W : Wk K mg base) : ∀ c, c ∈ [19] → XfC (sy W).K ((sy W).ca c) ∧ PySem.W.findIn (sy W).K (.ref ((sy W).ca c)) "what" = some none := by
  intro c hc
  rcases List.mem_cons.mp hc with rfl | hc
  · exact ⟨(excCB_ok (fa_153 W)).2.2, He.eqO_ok (fa_151 W)⟩
  exact absurd hc (by simp)
theorem xa_most (W : Wk K mg base) : ∀ c, c ∈ [19] → XfC (sy W).K ((sy W).ca c) ∧ PySem.W.findIn (sy W).K (.ref ((sy W).ca c)) "most" = some none := by
  intro c hc
  rcases List.mem_cons.mp hc with rfl | hc
  · exact ⟨(excCB_ok (fa_153 W)).2.2, He.eqO_ok (fa_152 W)⟩
  exact absurd hc (by simp)
theorem sc__law_pairs_right : FnScope ["_law_thing", "_law_more", "_law_told", "_law_told_so", "_law_pair_so", "_law_many"] ["_law_thing", "_law_more"] (defScope s__law_pairs_right) := ⟨rfl, rfl, rfl, by decide +kernel, rfl, by decide +kernel, by decide +kernel⟩
theorem dv__law_pairs_right {P : Program} {w : World} {K : PySem.W.Frag} {mg : Str → Option Value} {base : Heap} (W : Wk K mg base) : ∀ (cdv : Value) (A : Around) (outer : List Env) (s : Shared) (H : Hp) (E : XK), Qt A → Room 20 (A.deeper (envOfC d__law_pairs_right.qual d__law_pairs_right.scope s.heap.objs.size (d__law_pairs_right.at_ K) cdv)) →
    Takes (cxOf (L2.CX P w) P w K mg base ["_law_thing", "_law_more", "_law_told", "_law_told_so", "_law_pair_so", "_law_many"] d__law_pairs_right.qual d__law_pairs_right.scope (d__law_pairs_right.at_ K) cdv A outer s H E) (fun cls d _ H => E cls d H) → PBd (cxOf (L2.CX P w) P w K mg base ["_law_thing", "_law_more", "_law_told", "_law_told_so", "_law_pair_so", "_law_many"] d__law_pairs_right.qual d__law_pairs_right.scope (d__law_pairs_right.at_ K) cdv A outer s H E) (sy W) (fun cls d _ H => E cls d H) d__law_pairs_right.body (t__law_pairs_right (sy W)) :=
  fun cdv A outer s H E gd0 hr tk => have gd : Qt (A.deeper (envOfC d__law_pairs_right.qual d__law_pairs_right.scope s.heap.objs.size (d__law_pairs_right.at_ K) cdv)) := gd0.deeper _; (pb_cons (psd_set sc__law_pairs_right.nd (pd_lstM pad_nil)) (pb_cons (psd_for (L2.passes_of rfl) rfl (pid_seq rfl (pd_lst (pad_cons (pd_newX rfl tk hr (rs_BadText W (by decide)) (g_BadText W) (pad_cons (pd_var 0) (pad_cons (pd_var 1) pad_nil))) (pad_cons (pd_newXK rfl tk hr (rk_BadText__word_line W (by decide)) (g_BadText W) (pkd_cons (pd_var 1) (pkd_cons (pd_var 0) pkd_nil))) pad_nil)))) (pgd_name sc__law_pairs_right.nd) (pb_cons (psd_expr (pd_append (pd_var 2) (pad_cons (pd_cmp (od_eq (eqo_qN W _ rfl rfl rfl rfl rfl) hr (by decide)) (pd_call rfl tk hr ((fn__law_kinds W).mono (by decide)) (g__law_kinds W) (pad_cons (pd_var 3) pad_nil)) (pd_lst (pad_cons pd_str (pad_cons pd_str pad_nil))) (L2.nomark _)) pad_nil))) (pb_one (psd_expr (pd_append (pd_var 2) (pad_cons (pd_cmp (od_eq (eqo_qN W _ rfl rfl rfl rfl rfl) hr (by decide)) (pd_callB (cl_reprE rfl (smok W) gd hr) (pad_cons (pd_lst (pad_cons (pd_xat rfl (xa_line W) rfl (pd_var 3)) (pad_cons (pd_xat rfl (xa_word W) rfl (pd_var 3)) pad_nil))) pad_nil) (b_repr W)) (pd_callB (cl_reprE rfl (smok W) gd hr) (pad_cons (pd_lst (pad_cons (pd_var 0) (pad_cons (pd_var 1) pad_nil))) pad_nil) (b_repr W)) (L2.nomark _)) pad_nil)))))) (pb_cons (psd_for (L2.passes_of rfl) rfl (pid_seq rfl (pd_lst (pad_cons (pd_newX rfl tk hr (rs_NoPair W (by decide)) (g_NoPair W) (pad_cons (pd_var 0) (pad_cons (pd_var 1) pad_nil))) (pad_cons (pd_newXK rfl tk hr (rk_NoPair__taker_giver W (by decide)) (g_NoPair W) (pkd_cons (pd_var 1) (pkd_cons (pd_var 0) pkd_nil))) pad_nil)))) (pgd_name sc__law_pairs_right.nd) (pb_cons (psd_expr (pd_append (pd_var 2) (pad_cons (pd_cmp (od_eq (eqo_qN W _ rfl rfl rfl rfl rfl) hr (by decide)) (pd_call rfl tk hr ((fn__law_kinds W).mono (by decide)) (g__law_kinds W) (pad_cons (pd_var 4) pad_nil)) (pd_lst (pad_cons pd_str (pad_cons pd_str pad_nil))) (L2.nomark _)) pad_nil))) (pb_one (psd_expr (pd_append (pd_var 2) (pad_cons (pd_cmp (od_eq (eqo_qN W _ rfl rfl rfl rfl rfl) hr (by decide)) (pd_callB (cl_reprE rfl (smok W) gd hr) (pad_cons (pd_lst (pad_cons (pd_xat rfl (xa_giver W) rfl (pd_var 4)) (pad_cons (pd_xat rfl (xa_taker W) rfl (pd_var 4)) pad_nil))) pad_nil) (b_repr W)) (pd_callB (cl_reprE rfl (smok W) gd hr) (pad_cons (pd_lst (pad_cons (pd_var 0) (pad_cons (pd_var 1) pad_nil))) pad_nil) (b_repr W)) (L2.nomark _)) pad_nil)))))) (pb_cons (psd_for (L2.passes_of rfl) rfl (pid_seq rfl (pd_lst (pad_cons (pd_newX rfl tk hr (rs_TooMany W (by decide)) (g_TooMany W) (pad_cons (pd_var 0) (pad_cons (pd_var 1) pad_nil))) (pad_cons (pd_newXK rfl tk hr (rk_TooMany__most_what W (by decide)) (g_TooMany W) (pkd_cons (pd_var 1) (pkd_cons (pd_var 0) pkd_nil))) pad_nil)))) (pgd_name sc__law_pairs_right.nd) (pb_one (psd_set sc__law_pairs_right.nd (pd_op (od_add rfl tk hr OwnOp.none) (pd_fzL (pd_var 2)) (pd_lst (pad_cons (pd_cmp (od_eq (eqo_qN W _ rfl rfl rfl rfl rfl) hr (by decide)) (pd_call rfl tk hr ((fn__law_kinds W).mono (by decide)) (g__law_kinds W) (pad_cons (pd_var 5) pad_nil)) (pd_lst (pad_cons pd_str (pad_cons pd_str pad_nil))) (L2.nomark _)) (pad_cons (pd_cmp (od_eq (eqo_qN W _ rfl rfl rfl rfl rfl) hr (by decide)) (pd_callB (cl_reprE rfl (smok W) gd hr) (pad_cons (pd_lst (pad_cons (pd_xat rfl (xa_what W) rfl (pd_var 5)) (pad_cons (pd_xat rfl (xa_most W) rfl (pd_var 5)) pad_nil))) pad_nil) (b_repr W)) (pd_callB (cl_reprE rfl (smok W) gd hr) (pad_cons (pd_lst (pad_cons (pd_var 0) (pad_cons (pd_var 1) pad_nil))) pad_nil) (b_repr W)) (L2.nomark _)) pad_nil))))))) (pb_one (psd_ret (pd_cmp (od_notIn (eqo_qN W _ rfl rfl rfl rfl rfl) hr (by decide)) pd_bl (pd_fzL (pd_var 2)) rfl)))))))
theorem fn__law_pairs_right {P : Program} {w : World} {K : PySem.W.Frag} {mg : Str → Option Value} {base : Heap} (W : Wk K mg base) : FnDG P w (sy W) mg base 21 (d__law_pairs_right.at_ K) 2 [] (sp__law_pairs_right (sy W)) := by
  obtain ⟨fd, F⟩ := W.says.def_ 9 (d := d__law_pairs_right) rfl
  exact fnDG_mk (ps := ["_law_thing", "_law_more"]) (S := sy W) F (fnG_of (S := sy W) F sc__law_pairs_right (len__law_pairs_right (sy W)) (dv__law_pairs_right W) (pf__law_pairs_right (sy W))) fun _ _ _ _ _ _ us hl => match us, hl with | [_, _], _ => rfl
theorem g__law_pen (W : Wk K mg base) : mg "_law_pen" = some (.ref (ga K "_law_pen")) := He.glo_ok W.kin W.ns (fa_154 W)
theorem b_range (W : Wk K mg base) : mg "range" = none := He.free_ok W.kin W.ns (fa_155 W)
theorem g__law_value (W : Wk K mg base) : mg "_law_value" = some (.ref (ga K "_law_value")) := He.glo_ok W.kin W.ns (fa_156 W)
theorem g__law_inputs (W : Wk K mg base) : mg "_law_inputs" = some (.ref (ga K "_law_inputs")) := He.glo_ok W.kin W.ns (fa_157 W)
theorem g__law_others (W : Wk K mg base) : mg "_law_others" = some (.ref (ga K "_law_others")) := He.glo_ok W.kin W.ns (fa_158 W)
theorem g__law_pairs_right (W : Wk K mg base) : mg "_law_pairs_right" = some (.ref (ga K "_law_pairs_right")) := He.glo_ok W.kin W.ns (fa_159 W)
theorem g__law_named_right (W : Wk K mg base) : mg "_law_named_right" = some (.ref (ga K "_law_named_right")) := He.glo_ok W.kin W.ns (fa_160 W)
theorem ro_NoDeed (W : Wk K mg base) : Ro0 (sy W).K ((sy W).ca 21) := ro0B_ok (fa_161 W)
theorem ro_NoBudget (W : Wk K mg base) : Ro0 (sy W).K ((sy W).ca 22) := ro0B_ok (fa_162 W)
theorem ro_MoneyError (W : Wk K mg base) : Ro0 (sy W).K ((sy W).ca 1) := ro0B_ok (fa_163 W)
theorem ro_BadInput (W : Wk K mg base) : Ro0 (sy W).K ((sy W).ca 2) := ro0B_ok (fa_164 W)
theorem ro_Refused (W : Wk K mg base) : Ro0 (sy W).K ((sy W).ca 15) := ro0B_ok (fa_165 W)
theorem ro_NoAnswer (W : Wk K mg base) : Ro0 (sy W).K ((sy W).ca 20) := ro0B_ok (fa_166 W)
theorem ix_ValueError (W : Wk K mg base) : IsxT (sy W) "ValueError" (lkX [(3, true), (4, true), (5, true), (6, true), (7, true), (8, true), (9, true), (50, true), (10, true), (11, true), (12, true), (51, true), (13, true), (14, true), (16, true), (17, true), (18, true), (52, true), (53, true), (54, true), (19, true), (1, true), (2, true), (15, true), (20, true), (21, true), (22, true)]) := ⟨isxs_core (ca := (sy W).ca) (cs := [3, 4, 5, 6, 7, 8, 9, 50, 10, 11, 12, 51, 13, 14, 16, 17, 18, 52, 53, 54, 19, 1, 2, 15, 20, 21, 22]) (l := ([(3, true), (4, true), (5, true), (6, true), (7, true), (8, true), (9, true), (50, true), (10, true), (11, true), (12, true), (51, true), (13, true), (14, true), (16, true), (17, true), (18, true), (52, true), (53, true), (54, true), (19, true), (1, true), (2, true), (15, true), (20, true), (21, true), (22, true)] : List (Nat × Bool))) (fa_8 W) (fa_167 W) (by decide)⟩
theorem b_ValueError (W : Wk K mg base) : mg "ValueError" = none := He.free_ok W.kin W.ns (fa_168 W)
theorem sc_law : FnScope ["_law_script", "_law_pen_here", "_law_turn", "_law_thing", "_law_more", "_law_group", "_law_rows", "_law_error", "_law_sign", "_law_field", "_law_groups"] ["_law_script"] (defScope s_law) := ⟨rfl, rfl, rfl, by decide +kernel, rfl, by decide +kernel, by decide +kernel⟩
theorem dv_law {P : Program} {w : World} {K : PySem.W.Frag} {mg : Str → Option Value} {base : Heap} (W : Wk K mg base) : ∀ (cdv : Value) (A : Around) (outer : List Env) (s : Shared) (H : Hp) (E : XK), Qt A → Room 33 (A.deeper (envOfC d_law.qual d_law.scope s.heap.objs.size (d_law.at_ K) cdv)) →
    Takes (cxOf (L2.CX P w) P w K mg base ["_law_script", "_law_pen_here", "_law_turn", "_law_thing", "_law_more", "_law_group", "_law_rows", "_law_error", "_law_sign", "_law_field", "_law_groups"] d_law.qual d_law.scope (d_law.at_ K) cdv A outer s H E) (fun cls d _ H => E cls d H) → PBd (cxOf (L2.CX P w) P w K mg base ["_law_script", "_law_pen_here", "_law_turn", "_law_thing", "_law_more", "_law_group", "_law_rows", "_law_error", "_law_sign", "_law_field", "_law_groups"] d_law.qual d_law.scope (d_law.at_ K) cdv A outer s H E) (sy W) (fun cls d _ H => E cls d H) d_law.body (t_law (sy W)) :=
  fun cdv A outer s H E gd0 hr tk => have gd : Qt (A.deeper (envOfC d_law.qual d_law.scope s.heap.objs.size (d_law.at_ K) cdv)) := gd0.deeper _; (pb_cons (psd_set sc_law.nd (pd_call rfl tk hr ((fn__law_pen W).mono (by decide)) (g__law_pen W) (pad_cons (pd_var 0) pad_nil))) (pb_cons (psd_for (L2.passes_of rfl) rfl (pid_range1 (pad_cons pd_int pad_nil) (b_range W)) (pgd_name sc_law.nd) (pb_cons (psd_par rfl sc_law.nd (pad_cons (pd_call rfl tk hr ((fn__law_value W).mono (by decide)) (g__law_value W) (pad_cons (pd_var 1) pad_nil)) (pad_cons (pd_call rfl tk hr ((fn__law_value W).mono (by decide)) (g__law_value W) (pad_cons (pd_var 1) pad_nil)) pad_nil))) (pb_cons (psd_for (L2.passes_of rfl) rfl (pid_seq rfl (pd_lst (pad_cons (pd_tup (pad_cons pd_str (pad_cons (pd_call rfl tk hr ((fn__law_inputs W).mono (by decide)) (g__law_inputs W) (pad_cons (pd_var 3) pad_nil)) pad_nil))) (pad_cons (pd_tup (pad_cons pd_str (pad_cons (pd_call rfl tk hr ((fn__law_others W).mono (by decide)) (g__law_others W) (pad_cons (pd_var 3) pad_nil)) pad_nil))) pad_nil)))) (pgd_tup rfl rfl (pgsd_cons (pgd_name sc_law.nd) (pgsd_cons (pgd_name sc_law.nd) pgsd_nil))) (pb_one (psd_for (L2.passes_of rfl) rfl (pid_seq rfl (pd_var 6)) (pgd_tup rfl rfl (pgsd_cons (pgd_name sc_law.nd) (pgsd_cons (pgd_name sc_law.nd) (pgsd_cons (pgd_name sc_law.nd) pgsd_nil)))) (pb_one (psd_if (PWd.pt (pw_or (pt_cmpD (od_ne (eqo_qN W _ rfl rfl rfl rfl rfl) hr (by decide)) (pd_callB (cl_reprE rfl (smok W) gd hr) (pad_cons (pd_var 9) pad_nil) (b_repr W)) (pd_callB (cl_reprE rfl (smok W) gd hr) (pad_cons (pd_var 3) pad_nil) (b_repr W)) (L2.nomark _)) (pw_or1 (pt_cmpD (od_ne (eqo_qN W _ rfl rfl rfl rfl rfl) hr (by decide)) (pd_call rfl tk hr ((fn__law_kinds W).mono (by decide)) (g__law_kinds W) (pad_cons (pd_var 7) pad_nil)) (pd_lst (pad_cons (pd_var 5) (pad_cons (pd_var 8) pad_nil))) (L2.nomark _))))) (pb_one (psd_ret pd_bl)) pb_nil))))) (pb_one (psd_if (PWd.pt (pw_or (pt_notD (pt_plain rfl (pd_callG rfl tk gd hr ((fn__law_pairs_right W).mono (by decide)) (g__law_pairs_right W) (pad_cons (pd_var 3) (pad_cons (pd_var 4) pad_nil))))) (pw_or1 (pt_notD (pt_plain rfl (pd_callG rfl tk gd hr ((fn__law_named_right W).mono (by decide)) (g__law_named_right W) (pad_cons (pd_var 3) pad_nil))))))) (pb_one (psd_ret pd_bl)) pb_nil))))) (pb_cons (psd_if (PWd.pt (pw_or (pt_cmpD (od_ne (eqo_qN W _ rfl rfl rfl rfl rfl) hr (by decide)) (pd_call rfl tk hr ((fn__law_kinds W).mono (by decide)) (g__law_kinds W) (pad_cons (pd_newX0 rfl (ro_NoDeed W) (g_NoDeed W)) pad_nil)) (pd_lst (pad_cons pd_str (pad_cons pd_str pad_nil))) (L2.nomark _)) (pw_or1 (pt_cmpD (od_ne (eqo_qN W _ rfl rfl rfl rfl rfl) hr (by decide)) (pd_call rfl tk hr ((fn__law_kinds W).mono (by decide)) (g__law_kinds W) (pad_cons (pd_newX0 rfl (ro_NoBudget W) (g_NoBudget W)) pad_nil)) (pd_lst (pad_cons pd_str (pad_cons pd_str pad_nil))) (L2.nomark _))))) (pb_one (psd_ret pd_bl)) pb_nil) (pb_cons (psd_set sc_law.nd (pd_lst (pad_cons (pd_call rfl tk hr ((fn__law_kinds W).mono (by decide)) (g__law_kinds W) (pad_cons (pd_newX0 rfl (ro_MoneyError W) (g_MoneyError W)) pad_nil)) (pad_cons (pd_call rfl tk hr ((fn__law_kinds W).mono (by decide)) (g__law_kinds W) (pad_cons (pd_newX0 rfl (ro_BadInput W) (g_BadInput W)) pad_nil)) (pad_cons (pd_call rfl tk hr ((fn__law_kinds W).mono (by decide)) (g__law_kinds W) (pad_cons (pd_newX0 rfl (ro_Refused W) (g_Refused W)) pad_nil)) (pad_cons (pd_call rfl tk hr ((fn__law_kinds W).mono (by decide)) (g__law_kinds W) (pad_cons (pd_newX0 rfl (ro_NoAnswer W) (g_NoAnswer W)) pad_nil)) pad_nil)))))) (pb_one (psd_ret (pd_and (pd_cmp (od_eq (eqo_qN W _ rfl rfl rfl rfl rfl) hr (by decide)) (pd_var 10) (pd_lst (pad_cons (pd_lst pad_nil) (pad_cons (pd_lst (pad_cons pd_str pad_nil)) (pad_cons (pd_lst (pad_cons pd_str pad_nil)) (pad_cons (pd_lst (pad_cons pd_str pad_nil)) pad_nil))))) (L2.nomark _)) (pd_one (pd_callB (cl_isXt rfl (ix_ValueError W)) (pad_cons (pd_newX0 rfl (ro_MoneyError W) (g_MoneyError W)) (pad_cons (pd_ty (b_ValueError W)) pad_nil)) (b_isinstance W))))))))))
theorem g_law (W : Wk K mg base) : mg "law" = some (.ref (ga K "law")) := He.glo_ok W.kin W.ns (fa_169 W)
end Mv.K01
end
set_option Elab.async false
set_option linter.all false
set_option maxRecDepth 100000
set_option maxHeartbeats 0
namespace Mv.K01
open PySem PySem.Spec L2 PyProof.Rows
theorem facts {P : Program} {w : World} {K : PySem.W.Frag} {h : Heap} {mg : Str → Option Value} {f : Addr} (X : K.In h) (G : h.Ns mainGlobals mg) (hfa : mg ("law" : Str) = some (.ref f)) (c : SaysM mf fn K) :
    ∃ fd : FuncData, (∀ (s : Shared) (v : Value), BindsTo s fd ⟨[v], []⟩ [("_law_script", v)]) ∧ ∃ sp : Sp, (∀ (H : Hp) (a : Addr) (ns : List Int), ns.length ≤ 63 → SqL K H a (ns.map V.int) → sp [.ref a] H (fun v _ => v = .bl true) fun _ _ _ => False) ∧ ∀ base : Heap, K.In base → base.Ns mainGlobals mg → FnG P w K mg base 34 f fd ["_law_script"] sp := by
  obtain ⟨fd, F⟩ := c.def_ 10 (d := d_law) rfl
  have W0 : Wk K mg h := ⟨c, X, G⟩
  have e := hfa.symm.trans (g_law W0)
  cases e
  refine ⟨fd, fun s v => FunD.bindsA (ps := ["_law_script"]) F (fun _ _ _ _ _ _ us hl => match us, hl with | [_], _ => rfl) s [v] rfl, upSp (sy W0) (sp_lawN (sy W0)), fun H a ns hl hS => ?_, fun base k1 k2 => ?_⟩
  · exact law_startN (S := sy W0)  hl hS
  · have W : Wk K mg base := ⟨c, k1, k2⟩
    exact fnG_of (S := sy W) F sc_law (len_lawN (sy W)) (dv_law W) (pf_law (sy W))
end Mv.K01
open PySem PySem.W PySem.Calls PyProof.Rows
theorem PySem.Challenge.cw_movedsums_k01_errors_and_their_fields_holds : PySem.Challenge.rw_movedsums_k01_errors_and_their_fields.Holds := by
  w_on; o_law
  refine HandSHeadRun.head_any (r := OpenLaw.row PySem.Challenge.rw_movedsums_k01_errors_and_their_fields) (q := view (OpenLaw.row PySem.Challenge.rw_movedsums_k01_errors_and_their_fields).prog [39]) (H := Mv.K01.hk) (ob := Mv.K01.ob) (M := 30000) (loose := Mv.K01.loose) (d := HandSHeadRun.topDef (OpenLaw.row PySem.Challenge.rw_movedsums_k01_errors_and_their_fields).prog 39) (kwd := []) Mv.K01.ob_eq
    (by kernel_rfl) (fun s => by kernel_rfl) Mv.K01.run (by kernel_rfl) (by kernel_rfl) (by kernel_rfl) (by rfl) (by first | assumption | decide +kernel) (by decide +kernel) ⟨rfl, rfl, rfl, rfl, rfl, by decide +kernel⟩ ?hw ?hc
  case hw => w_witness2
  case hc =>
    refine Mv.walk_goM (l := PySem.Challenge.rw_movedsums_k01_errors_and_their_fields) (n := 63) (k := 34) (x := "_law_script") rfl (by decide) (by kernel_rfl) ⟨rfl, by decide, by decide⟩ ?F
    intro w mg fa h Y G hmg0
    obtain ⟨K, KX, c⟩ := Y
    have hmg : mg ("law" : PySem.Str) = some (.ref fa) := by
      have e : (HandSHeadRun.topDef (OpenLaw.row PySem.Challenge.rw_movedsums_k01_errors_and_their_fields).prog 39).name = ("law" : PySem.Str) := by kernel_rfl
      rw [← e]
      exact hmg0
    obtain ⟨fd, hb, sp, hsp, hF⟩ := Mv.K01.facts (P := (PySem.Challenge.rw_movedsums_k01_errors_and_their_fields).prog) (w := w) KX G hmg c
    exact ⟨K, fd, sp, KX, hb, fun H a ns hl hS => hsp H a ns hl hS, hF⟩
