import PyProof.Rows.All
import Wide.All
import OpenK.AllK
import Wide.FinOn
import HandS.ForMost
import HandS.TupAny
import HandS.IsInst
import HandS.Wide
import HandS.Deep
import HandS.Style
import HandS.RaiseMore
import HandS.Zip
import HandS.Exc
import HandS.TupMul
import HandS.WordsExc
import KE.SortData
import KE.GoesEnum
import KE.GoesNew
import PySem.Challenge.RW_deskhours_k76_whole_owed
set_option Elab.async false
set_option linter.all false
set_option maxRecDepth 100000
set_option maxHeartbeats 8000000
namespace Pd
open PySem L2

/-- a value of a program: plain data (never changed), or a thing of the store -/
inductive D where
  | v (p : PyData)
  | loc (n : Nat)

def keyP : Key → PyData
  | .inl i => .int i
  | .inr s => .str s
/-- a thing of the store -/
inductive Ob where
  | lst (xs : List D)
  | dct (kvs : List (Key × D))
  /-- a list that is read, never written (the script) -/
  | fz (xs : List D)

abbrev Mem := Nat → Option Ob
def up (M : Mem) (n : Nat) (o : Ob) : Mem := fun k => if k = n then some o else M k
def rm (M : Mem) (n : Nat) : Mem := fun k => if k = n then none else M k
@[simp] theorem up_same (M : Mem) (n : Nat) (o : Ob) : up M n o n = some o := by unfold up; rw [if_pos rfl]
theorem up_ne {M : Mem} {n k : Nat} {o : Ob} (h : k ≠ n) : up M n o k = M k := by unfold up; rw [if_neg h]
@[simp] theorem up_up (M : Mem) (n : Nat) (o u : Ob) : up (up M n o) n u = up M n u := by
  funext k; unfold up; split <;> rfl
theorem up_comm {M : Mem} {n m : Nat} {o u : Ob} (h : n ≠ m) : up (up M n o) m u = up (up M m u) n o := by
  funext k; unfold up
  by_cases h1 : k = m
  · subst h1; simp [Ne.symm h]
  · simp [h1]

/-- what the walk stands on: which thing lies where, the store, the abstract heap -/
structure Wd where
  io : Nat → Option Addr
  M : Mem
  H : Hp

def live (w : Wd) (a : Addr) : Prop := ∃ n, w.io n = some a ∧ w.M n ≠ none

section
variable (K : PySem.W.Frag) (R : List Addr)
mutual
/-- plain data at a value; its lists are no thing of the store and none of those hidden -/
inductive PRep (w : Wd) : V → PyData → Prop
  | non : PRep w .non .none
  | bl (b : Bool) : PRep w (.bl b) (.bool b)
  | int (i : Int) : PRep w (.int i) (.int i)
  | str (x : Str) : PRep w (.str x) (.str x)
  | tup {a : Addr} {vs : List V} {ps : List PyData} : SqT K w.H a vs → PRepL w vs ps → PRep w (.ref a) (.tuple ps)
  | lst {a : Addr} {vs : List V} {ps : List PyData} : w.H a = some (.lst vs) → ¬ live w a → a ∉ R → PRepL w vs ps → PRep w (.ref a) (.list ps)
  | dct {a : Addr} {kvs : List (Key × V)} {ks : List Key} {ps : List PyData} : w.H a = some (.dK kvs) → ¬ live w a → a ∉ R → kvs.map (·.1) = ks → PRepL w (kvs.map (·.2)) ps →
      PRep w (.ref a) (.dict ((ks.map keyP).zip ps))
inductive PRepL (w : Wd) : List V → List PyData → Prop
  | nil : PRepL w [] []
  | cons {v : V} {vs : List V} {p : PyData} {ps : List PyData} : PRep w v p → PRepL w vs ps → PRepL w (v :: vs) (p :: ps)
end
def Rep (w : Wd) (v : V) : D → Prop
  | .v p => PRep K R w v p
  | .loc n => ∃ a, v = .ref a ∧ w.io n = some a
abbrev RepL (w : Wd) : List V → List D → Prop := Paired (Rep K R w)
def ObRep (w : Wd) (a : Addr) : Ob → Prop
  | .lst ds => ∃ vs, w.H a = some (.lst vs) ∧ RepL K R w vs ds
  | .dct kvs => ∃ vs, w.H a = some (.dK vs) ∧ Paired (fun (p : Key × V) (q : Key × D) => p.1 = q.1 ∧ Rep K R w p.2 q.2) vs kvs
  | .fz ds => ∃ vs, Rd w.H a (.lst vs) ∧ RepL K R w vs ds
/-- what may be written -/
def Ob.mu : Ob → Bool
  | .fz _ => false
  | _ => true
/-- the store lies in the heap -/
structure SimG (w : Wd) : Prop where
  inj : ∀ n m a, w.io n = some a → w.io m = some a → n = m
  fin : ∃ B, ∀ n, B ≤ n → w.io n = none
  occ : ∀ n a, w.io n = some a → w.H a ≠ none ∧ a ∉ R
  hid : ∀ a, a ∈ R → w.H a ≠ none
  obj : ∀ n ob, w.M n = some ob → ∃ a, w.io n = some a ∧ ObRep K R w a ob
abbrev Env := List (Option D)
structure Sim0 (env : Env) (w : Wd) (σ : St) : Prop where
  g : SimG K R w
  vals : ∀ (i : Nat) (d : D), env[i]? = some (some d) → ∃ v, σ[i]? = some (some v) ∧ Rep K R w v d
  len : env.length = σ.length
/-- what stays between two states -/
structure Le (w w' : Wd) : Prop where
  ext : ∀ n a, w.io n = some a → w'.io n = some a
  new : ∀ n a, w'.io n = some a → w.io n = none → w.H a = none
  dead : ∀ n a, w.io n = some a → w.M n = none → w'.M n = none
  keep : ∀ a o, w.H a = some o → ¬ live w a → w'.H a = some o
  dom : ∀ a, w.H a ≠ none → w'.H a ≠ none
  tups : ∀ a vs, SqT K w.H a vs → SqT K w'.H a vs
end

section
variable {K : PySem.W.Frag} {R R' : List Addr} {w w1 w2 : Wd} {a p : Addr} {n m : Nat} {o : HO} {ob : Ob} {v : V} {d : D}

theorem Le.refl (w : Wd) : Le K w w := ⟨fun _ _ h => h, fun _ _ h h' => absurd (h.symm.trans h') (by simp), fun _ _ _ h => h, fun _ _ h _ => h, fun _ h => h, fun _ _ h => h⟩
theorem Le.nlive (l : Le K w w1) (h : w.H a ≠ none) (nl : ¬ live w a) : ¬ live w1 a := by
  rintro ⟨n, e, hm⟩
  cases q : w.io n with
  | none => exact h (l.new n a e q)
  | some b =>
    have e2 := l.ext n b q
    rw [e] at e2; cases e2
    refine hm (l.dead n _ q ?_)
    cases q2 : w.M n with
    | none => rfl
    | some z => exact absurd ⟨n, q, by rw [q2]; simp⟩ nl
theorem Le.trans (l : Le K w w1) (l2 : Le K w1 w2) : Le K w w2 where
  ext := fun n a h => l2.ext n a (l.ext n a h)
  new := fun n a h hn => by
    cases q : w1.io n with
    | none =>
      have z := l2.new n a h q
      cases q2 : w.H a with
      | none => rfl
      | some o => exact absurd z (l.dom a (by rw [q2]; simp))
    | some b =>
      have e := l2.ext n b q
      rw [h] at e; cases e
      exact l.new n _ q hn
  dead := fun n a h hm => l2.dead n a (l.ext n a h) (l.dead n a h hm)
  keep := fun a o h hn => l2.keep a o (l.keep a o h hn) (l.nlive (by rw [h]; simp) hn)
  dom := fun a h => l2.dom a (l.dom a h)
  tups := fun a vs h => l2.tups a vs (l.tups a vs h)

theorem rd_ne {H : Hp} {u : HO} (h : Rd H a u) : H a ≠ none := by
  rcases h with h | ⟨o, h⟩ <;> rw [h] <;> simp
theorem rd_keep (l : Le K w w1) {u : HO} (h : Rd w.H a u) (nl : ¬ live w a) : Rd w1.H a u := by
  rcases h with h | ⟨o, h⟩
  · exact .inl (l.keep a _ h nl)
  · exact .inr ⟨o, l.keep a _ h nl⟩
mutual
theorem PRep.mono (l : Le K w w1) : ∀ {v : V} {q : PyData}, PRep K R w v q → PRep K R w1 v q
  | _, _, .non => .non
  | _, _, .bl b => .bl b
  | _, _, .int i => .int i
  | _, _, .str x => .str x
  | _, _, .tup h hs => .tup (l.tups _ _ h) (PRepL.mono l hs)
  | _, _, .lst h nl hr hs => .lst (l.keep _ _ h nl) (l.nlive (by rw [h]; simp) nl) hr (PRepL.mono l hs)
  | _, _, .dct h nl hr e hs => .dct (l.keep _ _ h nl) (l.nlive (by rw [h]; simp) nl) hr e (PRepL.mono l hs)
theorem PRepL.mono (l : Le K w w1) : ∀ {vs : List V} {qs : List PyData}, PRepL K R w vs qs → PRepL K R w1 vs qs
  | _, _, .nil => .nil
  | _, _, .cons h t => .cons (PRep.mono l h) (PRepL.mono l t)
end
theorem Rep.mono (l : Le K w w1) : ∀ {d : D}, Rep K R w v d → Rep K R w1 v d
  | .v _, h => PRep.mono l h
  | .loc n, ⟨a, e, h⟩ => ⟨a, e, l.ext n a h⟩
theorem RepL.mono (l : Le K w w1) {vs : List V} {ds : List D} (h : RepL K R w vs ds) : RepL K R w1 vs ds := Paired.mapP h fun _ _ => Rep.mono l
theorem repL_of_prepL : ∀ {vs : List V} {ps : List PyData}, PRepL K R w vs ps → RepL K R w vs (ps.map D.v)
  | _, _, .nil => .nil
  | _, _, .cons h t => .cons h (repL_of_prepL t)
theorem prepL_of_repL : ∀ {vs : List V} {ps : List PyData}, RepL K R w vs (ps.map D.v) → PRepL K R w vs ps
  | _, [], h => by cases h; exact .nil
  | _, p :: ps, h => by
    cases h with
    | cons a b => exact .cons a (prepL_of_repL b)
theorem PRepL.length : ∀ {vs : List V} {ps : List PyData}, PRepL K R w vs ps → vs.length = ps.length
  | _, _, .nil => rfl
  | _, _, .cons _ t => congrArg (· + 1) (PRepL.length t)
theorem ObRep.mono (l : Le K w w1) (h : w1.H a = w.H a) : ∀ {ob : Ob}, ObRep K R w a ob → ObRep K R w1 a ob
  | .lst _, ⟨vs, e, r⟩ => ⟨vs, h.trans e, RepL.mono l r⟩
  | .dct _, ⟨vs, e, r⟩ => ⟨vs, h.trans e, Paired.mapP r fun _ _ q => ⟨q.1, q.2.mono l⟩⟩
  | .fz _, ⟨vs, e, r⟩ => ⟨vs, e.elim (fun z => .inl (h.trans z)) (fun ⟨o, z⟩ => .inr ⟨o, h.trans z⟩), RepL.mono l r⟩
theorem ObRep.at (hu : ob.mu = true) (h : ObRep K R w a ob) : ∃ o, w.H a = some o ∧ (∀ vs, o ≠ .tup vs) ∧ Mut (some o) := by
  cases ob with
  | lst ds => obtain ⟨vs, e, _⟩ := h; exact ⟨_, e, fun _ z => (nomatch z), trivial⟩
  | dct kvs => obtain ⟨vs, e, _⟩ := h; exact ⟨_, e, fun _ z => (nomatch z), trivial⟩
  | fz ds => cases hu

theorem sqT_upd {H : Hp} {b : Addr} {vs : List V} (h : SqT K H b vs) (hn : ∀ us, H a ≠ some (.tup us)) (hf : ∀ ob u, H a ≠ some (.frz ob u)) : SqT K (upd H a o) b vs := by
  rcases h with h | h
  · refine .inl ?_
    rcases h with h | ⟨ob, h⟩
    · exact .inl (by rw [upd_ne (fun e => hn _ (by rw [← e]; exact h))]; exact h)
    · exact .inr ⟨ob, by rw [upd_ne (fun e => hf _ _ (by rw [← e]; exact h))]; exact h⟩
  · exact .inr h

/-- a new object that the store does not know -/
def Wd.lay (w : Wd) (p : Addr) (o : HO) : Wd := { w with H := upd w.H p o }
theorem le_lay (h : w.H p = none) : Le K w (w.lay p o) where
  ext := fun _ _ h => h
  new := fun n a h1 h2 => by
    have h1' : w.io n = some a := h1
    rw [h1'] at h2; cases h2
  dead := fun _ _ _ h => h
  keep := fun a u e _ => by
    show upd w.H p o a = _
    rw [upd_ne (ne_of_none e h)]; exact e
  dom := fun a e => by
    show upd w.H p o a ≠ none
    by_cases q : a = p
    · subst q; rw [upd_same]; simp
    · rw [upd_ne q]; exact e
  tups := fun a vs e => sqT_upd e (by rw [h]; simp) (by rw [h]; simp)
theorem SimG.lay (s : SimG K R w) (h : w.H p = none) : SimG K R (w.lay p o) where
  inj := s.inj
  fin := s.fin
  occ := fun n a e => ⟨(le_lay (K := K) h).dom a (s.occ n a e).1, (s.occ n a e).2⟩
  hid := fun a e => (le_lay (K := K) h).dom a (s.hid a e)
  obj := fun n ob e => by
    obtain ⟨a, e1, r⟩ := s.obj n ob e
    refine ⟨a, e1, r.mono (le_lay h) ?_⟩
    show upd w.H p o a = _
    exact upd_ne fun z => (s.occ n a e1).1 (by rw [z]; exact h)
theorem not_live_new (s : SimG K R w) (h : w.H p = none) : ¬ live (w.lay p o) p := fun ⟨n, e, _⟩ => (s.occ n p e).1 h
theorem not_hid (s : SimG K R w) (h : w.H p = none) : p ∉ R := fun e => s.hid p e h
theorem Sim0.move {env : Env} {σ : St} (s : Sim0 K R env w σ) (l : Le K w w1) (g : SimG K R w1) : Sim0 K R env w1 σ :=
  ⟨g, fun i d e => let ⟨v, h1, h2⟩ := s.vals i d e; ⟨v, h1, h2.mono l⟩, s.len⟩
theorem rep_tup_new (s : SimG K R w) (h : w.H p = none) {vs : List V} {ps : List PyData} (r : PRepL K R w vs ps) : PRep K R (w.lay p (.tup vs)) (.ref p) (.tuple ps) :=
  .tup (SqT.of (show upd w.H p _ p = _ from upd_same)) (r.mono (le_lay h))
theorem rep_lst_new (s : SimG K R w) (h : w.H p = none) {vs : List V} {ps : List PyData} (r : PRepL K R w vs ps) : PRep K R (w.lay p (.lst vs)) (.ref p) (.list ps) :=
  .lst (show upd w.H p _ p = _ from upd_same) (not_live_new s h) (not_hid s h) (r.mono (le_lay h))

/-- a thing of the store is changed -/
def Wd.put (w : Wd) (n : Nat) (ob : Ob) (a : Addr) (o : HO) : Wd := { w with M := up w.M n ob, H := upd w.H a o }
theorem le_put (s : SimG K R w) {ob0 : Ob} (hm : w.M n = some ob0) (hu : ob0.mu = true) (hi : w.io n = some a) : Le K w (w.put n ob a o) := by
  obtain ⟨b, hb, r⟩ := s.obj n ob0 hm
  rw [hi] at hb; cases hb
  obtain ⟨u, hw, nt, mu⟩ := r.at hu
  refine ⟨fun _ _ h => h, fun n' a' h1 h2 => ?_, fun n' a' h1 h2 => ?_, fun b u' e nl => ?_, fun b e => ?_, fun b vs e => sqT_upd e (fun us z => nt us (by rw [hw] at z; exact Option.some.inj z)) fun ob' u' z => ?_⟩
  · have h1' : w.io n' = some a' := h1
    rw [h1'] at h2; cases h2
  · show up w.M n ob n' = none
    rw [up_ne (fun z => by rw [z, hm] at h2; cases h2)]; exact h2
  · show upd w.H a o b = _
    rw [upd_ne (fun z => nl ⟨n, by rw [z]; exact hi, by rw [hm]; simp⟩)]; exact e
  · show upd w.H a o b ≠ none
    by_cases q : b = a
    · subst q; rw [upd_same]; simp
    · rw [upd_ne q]; exact e
  · rw [hw] at z
    cases z
    exact mu
theorem SimG.put (s : SimG K R w) {ob0 : Ob} (hm : w.M n = some ob0) (hu : ob0.mu = true) (hi : w.io n = some a) (r : ObRep K R (w.put n ob a o) a ob) : SimG K R (w.put n ob a o) := by
  have l := le_put (ob := ob) (o := o) s hm hu hi
  refine ⟨s.inj, s.fin, fun m b e => ⟨l.dom b (s.occ m b e).1, (s.occ m b e).2⟩, fun b e => l.dom b (s.hid b e), fun m ob1 e => ?_⟩
  by_cases q : m = n
  · subst q
    have e' : up w.M m ob m = some ob1 := e
    rw [up_same] at e'
    cases e'
    exact ⟨a, hi, r⟩
  · have e' : up w.M n ob m = some ob1 := e
    rw [up_ne q] at e'
    obtain ⟨b, hb, rb⟩ := s.obj m ob1 e'
    refine ⟨b, hb, rb.mono l ?_⟩
    show upd w.H a o b = _
    exact upd_ne fun z => q (s.inj m n a (by rw [← z]; exact hb) hi)

/-- a new thing of the store -/
def Wd.mk' (w : Wd) (n : Nat) (ob : Ob) (p : Addr) (o : HO) : Wd := { io := fun k => if k = n then some p else w.io k, M := up w.M n ob, H := upd w.H p o }
theorem fresh_loc (s : SimG K R w) : ∃ n, w.io n = none ∧ w.M n = none := by
  obtain ⟨B, h⟩ := s.fin
  refine ⟨B, h B (Nat.le_refl _), ?_⟩
  cases q : w.M B with
  | none => rfl
  | some ob =>
    obtain ⟨a, e, _⟩ := s.obj B ob q
    rw [h B (Nat.le_refl _)] at e; cases e
theorem le_mk (hp : w.H p = none) (hn : w.io n = none) : Le K w (w.mk' n ob p o) where
  ext := fun k a h => by
    show (if k = n then some p else w.io k) = some a
    rw [if_neg (fun z => by rw [z, hn] at h; cases h)]; exact h
  new := fun k a h1 h2 => by
    have h1' : (if k = n then some p else w.io k) = some a := h1
    by_cases q : k = n
    · rw [if_pos q] at h1'; cases h1'; exact hp
    · rw [if_neg q, h2] at h1'; cases h1'
  dead := fun k a h1 h2 => by
    show up w.M n ob k = none
    rw [up_ne (fun z => by rw [z, hn] at h1; cases h1)]; exact h2
  keep := fun a u e _ => by
    show upd w.H p o a = _
    rw [upd_ne (ne_of_none e hp)]; exact e
  dom := fun a e => by
    show upd w.H p o a ≠ none
    by_cases q : a = p
    · subst q; rw [upd_same]; simp
    · rw [upd_ne q]; exact e
  tups := fun a vs e => sqT_upd e (by rw [hp]; simp) (by rw [hp]; simp)
theorem SimG.mk' (s : SimG K R w) (hp : w.H p = none) (hn : w.io n = none) (r : ObRep K R (w.mk' n ob p o) p ob) : SimG K R (w.mk' n ob p o) := by
  have l := le_mk (K := K) (ob := ob) (o := o) hp hn
  have hio : ∀ k a, (w.mk' n ob p o).io k = some a → (k = n ∧ a = p) ∨ (k ≠ n ∧ w.io k = some a) := fun k a h => by
    have h' : (if k = n then some p else w.io k) = some a := h
    by_cases q : k = n
    · rw [if_pos q] at h'; cases h'; exact .inl ⟨q, rfl⟩
    · rw [if_neg q] at h'; exact .inr ⟨q, h'⟩
  refine ⟨fun k m a h1 h2 => ?_, ?_, fun k a e => ?_, fun a e => l.dom a (s.hid a e), fun m ob1 e => ?_⟩
  · rcases hio k a h1 with ⟨q1, q2⟩ | ⟨q1, q2⟩ <;> rcases hio m a h2 with ⟨z1, z2⟩ | ⟨z1, z2⟩
    · rw [q1, z1]
    · subst q2; exact absurd hp (s.occ m _ z2).1
    · subst z2; exact absurd hp (s.occ k _ q2).1
    · exact s.inj k m a q2 z2
  · obtain ⟨B, h⟩ := s.fin
    refine ⟨max B (n + 1), fun k hk => ?_⟩
    show (if k = n then some p else w.io k) = none
    rw [if_neg (by omega)]; exact h k (by omega)
  · rcases hio k a e with ⟨_, q2⟩ | ⟨_, q2⟩
    · subst q2
      exact ⟨by show upd w.H a o a ≠ none; rw [upd_same]; simp, not_hid s hp⟩
    · exact ⟨l.dom a (s.occ k a q2).1, (s.occ k a q2).2⟩
  · by_cases q : m = n
    · subst q
      have e' : up w.M m ob m = some ob1 := e
      rw [up_same] at e'
      cases e'
      exact ⟨p, by show (if m = m then some p else w.io m) = some p; rw [if_pos rfl], r⟩
    · have e' : up w.M n ob m = some ob1 := e
      rw [up_ne q] at e'
      obtain ⟨b, hb, rb⟩ := s.obj m ob1 e'
      refine ⟨b, l.ext m b hb, rb.mono l ?_⟩
      show upd w.H p o b = _
      exact upd_ne fun z => (s.occ m b hb).1 (by rw [z]; exact hp)

/-- things of the store forgotten -/
def Wd.cut (w : Wd) (M : Mem) : Wd := { w with M := M }
theorem le_cut {M : Mem} (h : ∀ n, M n = w.M n ∨ M n = none) : Le K w (w.cut M) :=
  ⟨fun _ _ h => h, fun n a h1 h2 => absurd ((show w.io n = some a from h1).symm.trans h2) (by simp), fun n a _ h2 => (h n).elim (fun e => (show M n = none from e.trans h2)) (fun e => e), fun _ _ e _ => e, fun _ e => e, fun _ _ e => e⟩
theorem SimG.cut (s : SimG K R w) {M : Mem} (h : ∀ n, M n = w.M n ∨ M n = none) : SimG K R (w.cut M) :=
  ⟨s.inj, s.fin, s.occ, s.hid, fun n ob e => by
    have e' : M n = some ob := e
    rcases h n with q | q
    · rw [q] at e'
      obtain ⟨a, ha, r⟩ := s.obj n ob e'
      exact ⟨a, ha, r.mono (le_cut h) rfl⟩
    · rw [q] at e'; cases e'⟩
end
end Pd

namespace Pd
open PySem L2

/-- what an expression hands on: a value, or a list or dict that was just made and is known to nobody -/
inductive Rs where
  | val (d : D)
  | fl (ds : List D)
  | fd (kvs : List (Key × D))

/-- as a value: what was just made is plain data from here on -/
def asVal (P : D → Mem → Prop) : Rs → Mem → Prop
  | .val d, M => P d M
  | .fl ds, M => ∃ ps : List PyData, ds = ps.map D.v ∧ P (.v (.list ps)) M
  | .fd kvs, M => ∃ (ks : List Key) (ps : List PyData), kvs = ks.zip (ps.map D.v) ∧ ks.length = ps.length ∧ P (.v (.dict ((ks.map keyP).zip ps))) M
/-- as a new thing of the store -/
def asNew (P : D → Mem → Prop) : Rs → Mem → Prop
  | .val _, _ => False
  | .fl ds, M => ∀ n, M n = none → P (.loc n) (up M n (.lst ds))
  | .fd kvs, M => ∀ n, M n = none → P (.loc n) (up M n (.dct kvs))

/-- the items of a list or tuple -/
def seqOf (M : Mem) : D → Option (List D)
  | .v (.tuple ps) => some (ps.map D.v)
  | .v (.list ps) => some (ps.map D.v)
  | .loc n => match M n with
    | some (.lst ds) => some ds
    | some (.fz ds) => some ds
    | _ => none
  | _ => none
/-- .. of a list -/
def lstOf (M : Mem) : D → Option (List D)
  | .v (.list ps) => some (ps.map D.v)
  | .loc n => match M n with
    | some (.lst ds) => some ds
    | _ => none
  | _ => none
/-- a value as data, looked at through the store -/
def vw : Nat → Mem → D → Option PyData
  | _, _, .v p => some p
  | 0, _, .loc _ => none
  | k + 1, M, .loc n => match M n with
    | some (.lst ds) => (ds.mapM (vw k M)).map PyData.list
    | _ => none
def intsOf : List D → Option (List Int)
  | [] => some []
  | .v (.int i) :: r => (intsOf r).map (i :: ·)
  | _ => none
def boolsOf : List D → Option (List Bool)
  | [] => some []
  | .v (.bool b) :: r => (boolsOf r).map (b :: ·)
  | _ => none
def dataOf : List D → Option (List PyData)
  | [] => some []
  | .v p :: r => (dataOf r).map (p :: ·)
  | _ => none

/-- a place of a sequence of n -/
def cutD (xs : List D) (lo hi : Option Int) : List D := (xs.drop (HT.sIx xs.length 0 lo)).take (HT.sIx xs.length xs.length hi - HT.sIx xs.length 0 lo)
def cutP (xs : List PyData) (lo hi : Option Int) : List PyData := (xs.drop (HT.sIx xs.length 0 lo)).take (HT.sIx xs.length xs.length hi - HT.sIx xs.length 0 lo)

/-- a op b -/
def binW (o : Operator) (x y : D) (M : Mem) (P : Rs → Prop) : Prop :=
  match o, x, y with
  | .Add, .v (.int i), .v (.int j) => P (.val (.v (.int (i + j))))
  | .Add, .v (.str a), .v (.str b) => a.length + b.length ≤ sizeLine ∧ P (.val (.v (.str (a ++ b))))
  | .Add, .v (.tuple a), .v (.tuple b) => a.length + b.length ≤ sizeLine ∧ P (.val (.v (.tuple (a ++ b))))
  | .Add, x, y => ∃ xs ys, lstOf M x = some xs ∧ lstOf M y = some ys ∧ xs.length + ys.length ≤ sizeLine ∧ P (.fl (xs ++ ys))
  | .Sub, .v (.int i), .v (.int j) => P (.val (.v (.int (i - j))))
  | .Mult, .v (.int i), .v (.int j) => ((-(2 ^ 64) < i ∧ i < 2 ^ 64) ∨ (-(2 ^ 64) < j ∧ j < 2 ^ 64)) ∧ P (.val (.v (.int (i * j))))
  | .Mult, .v (.tuple a), .v (.int k) => a ≠ [] ∧ 2 ≤ k ∧ k ≤ 1000 ∧ a.length ≤ 1000 ∧ P (.val (.v (.tuple (List.replicate k.toNat a).flatten)))
  | .Mult, x, .v (.int k) => ∃ xs, lstOf M x = some xs ∧ -(2 ^ 63) ≤ k ∧ k < 2 ^ 63 ∧ xs.length * k.toNat ≤ sizeLine ∧ P (.fl (List.replicate k.toNat xs).flatten)
  | .FloorDiv, .v (.int i), .v (.int j) => (0 < j ∧ j < 2 ^ 64) ∧ P (.val (.v (.int (i / j))))
  | .Mod, .v (.int i), .v (.int j) => 0 < j ∧ P (.val (.v (.int (i % j))))
  | .Pow, .v (.int i), .v (.int j) => (0 ≤ j ∧ j ≤ 1000000 ∧ i.natAbs < 2 ^ 64) ∧ P (.val (.v (.int (i ^ j.toNat))))
  | _, _, _ => False
def unW (o : UnaryOp) (x : D) (P : D → Prop) : Prop :=
  match o with
  | .USub => ∃ i, x = .v (.int i) ∧ P (.v (.int (-i)))
  | .Not => ∃ b, x = .v (.bool b) ∧ P (.v (.bool (!b)))
  | _ => False
def isNone : D → Bool
  | .v .none => true
  | _ => false
/-- a == b -/
def eqW (x y : D) (M : Mem) (P : Bool → Prop) : Prop :=
  match x, y with
  | .v (.str s), .v (.str t) => P (s == t)
  | x, y => ∃ p q, vw 4 M x = some p ∧ vw 4 M y = some q ∧ SeqAt.shaped p = true ∧ SeqAt.shaped q = true ∧ P (PyData.eqv p q)
/-- a comparison -/
def cmpW (o : CmpOp) (x y : D) (M : Mem) (P : Bool → Prop) : Prop :=
  match o with
  | .Lt => ∃ i j, x = .v (.int i) ∧ y = .v (.int j) ∧ P (decide (i < j))
  | .LtE => ∃ i j, x = .v (.int i) ∧ y = .v (.int j) ∧ P (decide (i ≤ j))
  | .Gt => ∃ i j, x = .v (.int i) ∧ y = .v (.int j) ∧ P (decide (j < i))
  | .GtE => ∃ i j, x = .v (.int i) ∧ y = .v (.int j) ∧ P (decide (j ≤ i))
  | .Eq => eqW x y M P
  | .NotEq => eqW x y M fun b => P (!b)
  | .In => ∃ p ds qs, vw 4 M x = some p ∧ seqOf M y = some ds ∧ dataOf ds = some qs ∧ SeqAt.shaped p = true ∧ SeqAt.shaped (.list qs) = true ∧ P (qs.any fun z => PyData.eqv z p)
  | .NotIn => ∃ p ds qs, vw 4 M x = some p ∧ seqOf M y = some ds ∧ dataOf ds = some qs ∧ SeqAt.shaped p = true ∧ SeqAt.shaped (.list qs) = true ∧ P (!qs.any fun z => PyData.eqv z p)
  | _ => False
/-- isinstance of a built-in class -/
def isiW (x : D) (T : String) (M : Mem) (P : Bool → Prop) : Prop :=
  match x with
  | .v .none => P false
  | .v (.bool _) => P (T == "bool" || T == "int")
  | .v (.int _) => P (T == "int")
  | .v (.str _) => P (T == "str")
  | .v (.list _) => P (T == "list")
  | .v (.tuple _) => P (T == "tuple")
  | .v (.dict _) => P (T == "dict")
  | .loc n => match M n with
    | some (.lst _) => P (T == "list")
    | some (.fz _) => P (T == "list")
    | some (.dct _) => P (T == "dict")
    | none => False
/-- the built-in functions, by their names -/
inductive BI where
  | len | abs | sum | all | any | int | tuple | list | sorted | repr | max | min | max2 | min2 | max3 | min3
def lenW (x : D) (M : Mem) (P : Int → Prop) : Prop :=
  match x with
  | .v (.str s) => s.length ≤ sizeLine ∧ P s.length
  | x => ∃ ds, seqOf M x = some ds ∧ P ds.length
/-- data as sorted and max, min ask for it: all of one kind -/
def sortOk (ps : List PyData) : Prop := PySem.W.AllAlike ps ∧ PySem.W.Sortable ps ∧ ∀ p, p ∈ ps → p.depth ≤ 64
def biW (f : BI) (xs : List D) (M : Mem) (P : Rs → Prop) : Prop :=
  match f, xs with
  | .len, [x] => lenW x M fun n => P (.val (.v (.int n)))
  | .abs, [.v (.int i)] => P (.val (.v (.int (if i < 0 then -i else i))))
  | .sum, [x] => ∃ ds ns, seqOf M x = some ds ∧ intsOf ds = some ns ∧ P (.val (.v (.int ns.sum)))
  | .all, [x] => ∃ ds bs, lstOf M x = some ds ∧ boolsOf ds = some bs ∧ P (.val (.v (.bool (bs.all id))))
  | .any, [x] => ∃ ds bs, lstOf M x = some ds ∧ boolsOf ds = some bs ∧ P (.val (.v (.bool (bs.any id))))
  | .int, [.v (.int i)] => P (.val (.v (.int i)))
  | .int, [.v (.bool b)] => P (.val (.v (.int (if b then 1 else 0))))
  | .tuple, [x] => ∃ ds ps, seqOf M x = some ds ∧ dataOf ds = some ps ∧ P (.val (.v (.tuple ps)))
  | .list, [x] => ∃ ds, seqOf M x = some ds ∧ P (.fl ds)
  | .sorted, [x] => ∃ ds ps, lstOf M x = some ds ∧ dataOf ds = some ps ∧ sortOk ps ∧ P (.fl ((ps.mergeSort (PySem.W.dataLe false id)).map D.v))
  | .repr, [x] => ∃ p, vw 4 M x = some p ∧ p.showable = true ∧ p.depth ≤ 64 ∧ p.shown.length ≤ sizeLine ∧ P (.val (.v (.str p.shown)))
  | .max2, [.v (.int i), .v (.int j)] => P (.val (.v (.int (if j > i then j else i))))
  | .min2, [.v (.int i), .v (.int j)] => P (.val (.v (.int (if j < i then j else i))))
  | .max, [x] => ∃ ds ns, lstOf M x = some ds ∧ intsOf ds = some ns ∧ 0 < ns.length ∧ ∀ m, m ∈ ns → (∀ y, y ∈ ns → y ≤ m) → P (.val (.v (.int m)))
  | .min, [x] => ∃ ds ns, lstOf M x = some ds ∧ intsOf ds = some ns ∧ 0 < ns.length ∧ ∀ m, m ∈ ns → (∀ y, y ∈ ns → m ≤ y) → P (.val (.v (.int m)))
  | _, _ => False
/-- an item by its place -/
def ixW (x i : D) (M : Mem) (P : D → Prop) : Prop :=
  ∃ ds k d, seqOf M x = some ds ∧ i = .v (.int k) ∧ atI ds k = some d ∧ P d
def slW (x : D) (lo hi : Option Int) (M : Mem) (P : Rs → Prop) : Prop :=
  match x with
  | .v (.tuple ps) => P (.val (.v (.tuple (cutP ps lo hi))))
  | x => ∃ ds, seqOf M x = some ds ∧ P (.fl (cutD ds lo hi))
def revW (x : D) (M : Mem) (P : Rs → Prop) : Prop :=
  match x with
  | .v (.tuple ps) => P (.val (.v (.tuple ps.reverse)))
  | x => ∃ ds, lstOf M x = some ds ∧ P (.fl ds.reverse)
/-- methods of lists -/
inductive MT where
  | append | pop | popAt | extend | insert
def mtW (m : MT) (x : D) (xs : List D) (M : Mem) (P : D → Mem → Prop) : Prop :=
  match m, x, xs with
  | .append, .loc n, [y] => ∃ ds, M n = some (.lst ds) ∧ ds.length < sizeLine ∧ P (.v .none) (up M n (.lst (ds ++ [y])))
  | .pop, .loc n, [] => ∃ ds y, M n = some (.lst ds) ∧ ds[ds.length - 1]? = some y ∧ P y (up M n (.lst ds.dropLast))
  | .extend, .loc n, [y] => ∃ ds es, M n = some (.lst ds) ∧ lstOf M y = some es ∧ ds.length + es.length ≤ sizeLine ∧ P (.v .none) (up M n (.lst (ds ++ es)))
  | _, _, _ => False
def setW (x i y : D) (M : Mem) (P : Mem → Prop) : Prop :=
  ∃ n ds k j, x = .loc n ∧ i = .v (.int k) ∧ M n = some (.lst ds) ∧ ixN ds.length k = some j ∧ P (up M n (.lst (ds.set j y)))

mutual
inductive E where
  | var (i : Nat)
  | cst (p : PyData)
  | tup (es : List E)
  | lst (es : List E)
  | dnew
  | new (e : E)
  | bin (o : Operator) (a b : E)
  | un (o : UnaryOp) (a : E)
  | cmp (o : CmpOp) (a b : E)
  | chain (o1 o2 : CmpOp) (a b c : E)
  | isN (a : E)
  | notN (a : E)
  | and (a b : E)
  | or (a b : E)
  | ite (c a b : E)
  | isi (a : E) (T : String)
  | call (f : Str) (es : List E) (ks : List Nat)
  | bi (f : BI) (es : List E)
  | ix (a i : E)
  | sl (a : E) (lo hi : Option E)
  | rev (a : E)
  | mth (m : MT) (a : E) (es : List E)
  | comp (own : List Nat) (t : Tg) (src : Src) (ifs : Option E) (elt : E)
inductive Tg where
  | var (i : Nat)
  | tup (ts : List Tg)
  | sub (o i : E)
inductive Src where
  | seq (e : E)
  | rng (a b : E)
  | enum (e : E)
  | zip2 (a b : E)
end

/-- an exception of the program: its class, what it was made with -/
structure XN where
  cls : Str
  args : List D

/-- what a def is worth: its arguments, the store, what is wanted of its value and of an exception -/
abbrev FS := List D → Mem → (D → Mem → Prop) → (XN → Mem → Prop) → Prop
abbrev Tb := Str → FS
/-- what is wanted of an exception -/
abbrev XW := XN → Env → Mem → Prop
abbrev noX : XW := fun _ _ _ => False

/-- what a loop walks: its items, and what of the store must stay as it is meanwhile -/
structure Its where
  xs : List D
  gs : List (Nat × List D) := []
def Its.ok (g : Its) (M : Mem) : Prop := ∀ p, p ∈ g.gs → M p.1 = some (.lst p.2) ∨ M p.1 = some (.fz p.2)
def guardOf (M : Mem) : D → List (Nat × List D)
  | .loc n => match M n with
    | some (.lst ds) => [(n, ds)]
    | some (.fz ds) => [(n, ds)]
    | _ => []
  | _ => []
def enumFrom : Nat → List D → Option (List PyData)
  | _, [] => some []
  | k, .v p :: r => (enumFrom (k + 1) r).map (PyData.tuple [.int k, p] :: ·)
  | _, _ => none
def zipP : List D → List D → Option (List PyData)
  | .v p :: r, .v q :: s => (zipP r s).map (PyData.tuple [p, q] :: ·)
  | [], _ => some []
  | _ :: _, [] => some []
  | _, _ => none

def setE (env : Env) (i : Nat) (d : D) : Env := env.set i (some d)
def wipeE (env : Env) : List Nat → Env
  | [] => env
  | i :: r => (wipeE env r).set i none

/-- a permutation of arguments: the places of the keywords' values, behind the positional ones -/
def permute {α : Type} (xs : List α) (ks : List Nat) : List α := ks.filterMap fun k => xs[k]?

/-- the turns of a comprehension -/
def compW (gd : Mem → Prop) (asg : D → Env → Mem → (Env → Mem → Prop) → Prop) (tst : Env → Mem → (Bool → Mem → Prop) → Prop) (elt : Env → Mem → (D → Mem → Prop) → Prop) (env : Env) (Q : List D → Mem → Prop) : List D → List D → Mem → Prop
  | [], acc, M => gd M ∧ acc.length ≤ sizeLine ∧ Q acc M
  | x :: xs, acc, M => gd M ∧ acc.length < sizeLine ∧ asg x env M fun env1 M1 => tst env1 M1 fun b M2 => if b = true then elt env1 M2 fun d M3 => compW gd asg tst elt env Q xs (acc ++ [d]) M3 else compW gd asg tst elt env Q xs acc M2

section
variable (T : Tb)
mutual
def evR : XW → E → Env → Mem → (Rs → Mem → Prop) → Prop
  | X, .var i, env, M, P => ∃ d, env[i]? = some (some d) ∧ P (.val d) M
  | X, .cst p, _, M, P => P (.val (.v p)) M
  | X, .tup es, env, M, P => evL X es env M fun ds M1 => ∃ ps, dataOf ds = some ps ∧ ps.length ≤ sizeLine ∧ P (.val (.v (.tuple ps))) M1
  | X, .lst es, env, M, P => evL X es env M fun ds M1 => ds.length ≤ sizeLine ∧ P (.fl ds) M1
  | X, .dnew, _, M, P => P (.fd []) M
  | X, .new e, env, M, P => evR X e env M (asNew fun d M1 => P (.val d) M1)
  | X, .bin o a b, env, M, P => evR X a env M (asVal fun x M1 => evR X b env M1 (asVal fun y M2 => binW o x y M2 fun r => P r M2))
  | X, .un o a, env, M, P => evR X a env M (asVal fun x M1 => unW o x fun d => P (.val d) M1)
  | X, .cmp o a b, env, M, P => evR X a env M (asVal fun x M1 => evR X b env M1 (asVal fun y M2 => cmpW o x y M2 fun c => P (.val (.v (.bool c))) M2))
  | X, .chain o1 o2 a b c, env, M, P => evR X a env M (asVal fun x M1 => evR X b env M1 (asVal fun y M2 => cmpW o1 x y M2 fun k =>
      if k = true then evR X c env M2 (asVal fun z M3 => cmpW o2 y z M3 fun k2 => P (.val (.v (.bool k2))) M3) else P (.val (.v (.bool false))) M2))
  | X, .isN a, env, M, P => evR X a env M (asVal fun x M1 => P (.val (.v (.bool (isNone x)))) M1)
  | X, .notN a, env, M, P => evR X a env M (asVal fun x M1 => P (.val (.v (.bool (!isNone x)))) M1)
  | X, .and a b, env, M, P => evR X a env M (asVal fun x M1 => ∃ c, x = .v (.bool c) ∧ if c = true then evR X b env M1 P else P (.val (.v (.bool false))) M1)
  | X, .or a b, env, M, P => evR X a env M (asVal fun x M1 => ∃ c, x = .v (.bool c) ∧ if c = true then P (.val (.v (.bool true))) M1 else evR X b env M1 P)
  | X, .ite c a b, env, M, P => evR X c env M (asVal fun x M1 => ∃ k, x = .v (.bool k) ∧ if k = true then evR X a env M1 P else evR X b env M1 P)
  | X, .isi a T, env, M, P => evR X a env M (asVal fun x M1 => isiW x T M1 fun c => P (.val (.v (.bool c))) M1)
  | X, .call f es ks, env, M, P => evL X es env M fun ds M1 => T f (permute ds ks) M1 (fun d M2 => P (.val d) M2) (fun x M2 => X x env M2)
  | X, .bi f es, env, M, P => evL X es env M fun ds M1 => biW f ds M1 fun r => P r M1
  | X, .ix a i, env, M, P => evR X a env M (asVal fun x M1 => evR X i env M1 (asVal fun y M2 => ixW x y M2 fun d => P (.val d) M2))
  | X, .sl a lo hi, env, M, P => evR X a env M (asVal fun x M1 => evO X lo env M1 fun l M2 => evO X hi env M2 fun h M3 => slW x l h M3 fun r => P r M3)
  | X, .rev a, env, M, P => evR X a env M (asVal fun x M1 => revW x M1 fun r => P r M1)
  | X, .mth m a es, env, M, P => evR X a env M (asVal fun x M1 => (lstOf M1 x).isSome = true ∧ evL X es env M1 fun ds M2 => mtW m x ds M2 fun d M3 => P (.val d) M3)
  | X, .comp own t src ifs elt, env, M, P => evSrc X src env M fun g M1 =>
      compW (fun M => g.ok M) (evT noX t) (fun env M Q => evB noX ifs env M Q) (fun env M Q => evR noX elt env M (asVal Q)) (wipeE env own) (fun ds M2 => P (.fl ds) M2) g.xs [] M1
def evL : XW → List E → Env → Mem → (List D → Mem → Prop) → Prop
  | X, [], _, M, P => P [] M
  | X, e :: es, env, M, P => evR X e env M (asVal fun d M1 => evL X es env M1 fun ds M2 => P (d :: ds) M2)
def evO : XW → Option E → Env → Mem → (Option Int → Mem → Prop) → Prop
  | X, none, _, M, P => P none M
  | X, some e, env, M, P => evR X e env M (asVal fun d M1 => ∃ i, d = .v (.int i) ∧ P (some i) M1)
/-- the test of a comprehension -/
def evB : XW → Option E → Env → Mem → (Bool → Mem → Prop) → Prop
  | X, none, _, M, P => P true M
  | X, some e, env, M, P => evR X e env M (asVal fun d M1 => ∃ b, d = .v (.bool b) ∧ P b M1)
def evT : XW → Tg → D → Env → Mem → (Env → Mem → Prop) → Prop
  | X, .var i, d, env, M, P => i < env.length ∧ P (setE env i d) M
  | X, .tup ts, d, env, M, P => ∃ ps, d = .v (.tuple ps) ∧ ps.length = ts.length ∧ evTs X ts (ps.map D.v) env M P
  | X, .sub o i, d, env, M, P => evR X o env M (asVal fun x M1 => evR X i env M1 (asVal fun y M2 => setW x y d M2 fun M3 => P env M3))
def evTs : XW → List Tg → List D → Env → Mem → (Env → Mem → Prop) → Prop
  | X, [], _, env, M, P => P env M
  | X, t :: ts, ds, env, M, P => ∃ d r, ds = d :: r ∧ evT X t d env M fun env1 M1 => evTs X ts r env1 M1 P
def evSrc : XW → Src → Env → Mem → (Its → Mem → Prop) → Prop
  | X, .seq e, env, M, P => evR X e env M (asVal fun x M1 => ∃ ds, seqOf M1 x = some ds ∧ P ⟨ds, guardOf M1 x⟩ M1)
  | X, .rng a b, env, M, P => evR X a env M (asVal fun x M1 => evR X b env M1 (asVal fun y M2 => ∃ i j, x = .v (.int i) ∧ y = .v (.int j) ∧ (-(2 ^ 62) ≤ i ∧ i < 2 ^ 62 ∧ -(2 ^ 62) ≤ j ∧ j < 2 ^ 62) ∧
      P ⟨(List.range (j - i).toNat).map fun (k : Nat) => D.v (.int (i + k)), []⟩ M2))
  | X, .enum e, env, M, P => evR X e env M (asVal fun x M1 => ∃ ds ps, seqOf M1 x = some ds ∧ enumFrom 0 ds = some ps ∧ P ⟨ps.map D.v, guardOf M1 x⟩ M1)
  | X, .zip2 a b, env, M, P => evR X a env M (asVal fun x M1 => evR X b env M1 (asVal fun y M2 => ∃ ds es ps, seqOf M2 x = some ds ∧ seqOf M2 y = some es ∧ zipP ds es = some ps ∧ P ⟨ps.map D.v, guardOf M2 x ++ guardOf M2 y⟩ M2))
end

inductive S where
  | asg (t : Tg) (e : E)
  | par (ts : List Tg) (es : List E)
  | expr (e : E)
  | ret (e : E)
  | retN
  | ite (c : E) (a b : List S)
  | for_ (t : Tg) (src : Src) (b : List S)
  | whl (c : E) (b : List S)
  | brk
  | cnt
  | pass
/-- what is wanted behind a statement -/
structure Po where
  nx : Env → Mem → Prop
  rt : D → Mem → Prop
  bk : Env → Mem → Prop
  ct : Env → Mem → Prop

/-- the turns of a for -/
def forW (gd : Mem → Prop) (asg : D → Env → Mem → (Env → Mem → Prop) → Prop) (body : Env → Mem → Po → Prop) (P : Po) : List D → Env → Mem → Prop
  | [], env, M => gd M ∧ P.nx env M
  | x :: xs, env, M => gd M ∧ asg x env M fun env1 M1 => body env1 M1 ⟨fun e m => forW gd asg body P xs e m, P.rt, P.nx, fun e m => forW gd asg body P xs e m⟩
/-- a while, by what stays true and a number that falls -/
def whlW (tst : Env → Mem → (Bool → Mem → Prop) → Prop) (body : Env → Mem → Po → Prop) (P : Po) (env : Env) (M : Mem) : Prop :=
  ∃ I : Nat → Env → Mem → Prop, (∃ k, I k env M) ∧ ∀ k env M, I k env M → tst env M fun b M1 => if b = true then
    body env M1 ⟨fun e m => ∃ j, j < k ∧ I j e m, P.rt, P.nx, fun e m => ∃ j, j < k ∧ I j e m⟩ else P.nx env M1
mutual
def evS : XW → S → Env → Mem → Po → Prop
  | X, .asg t e, env, M, P => evR T X e env M (asVal fun d M1 => evT T X t d env M1 P.nx)
  | X, .par ts es, env, M, P => evL T X es env M fun ds M1 => ds.length ≤ sizeLine ∧ ds.length = ts.length ∧ evTs T X ts ds env M1 P.nx
  | X, .expr e, env, M, P => evR T X e env M (asVal fun _ M1 => P.nx env M1)
  | X, .ret e, env, M, P => evR T X e env M (asVal fun d M1 => P.rt d M1)
  | X, .retN, _, M, P => P.rt (.v .none) M
  | X, .ite c a b, env, M, P => evR T X c env M (asVal fun x M1 => ∃ k, x = .v (.bool k) ∧ if k = true then evSs X a env M1 P else evSs X b env M1 P)
  | X, .for_ t src b, env, M, P => evSrc T X src env M fun g M1 => forW (fun M => g.ok M) (evT T X t) (fun env M P => evSs X b env M P) P g.xs env M1
  | X, .whl c b, env, M, P => whlW (fun env M Q => evB T X (some c) env M Q) (fun env M P => evSs X b env M P) P env M
  | X, .brk, env, M, P => P.bk env M
  | X, .cnt, env, M, P => P.ct env M
  | X, .pass, env, M, P => P.nx env M
def evSs : XW → List S → Env → Mem → Po → Prop
  | X, [], env, M, P => P.nx env M
  | X, s :: ss, env, M, P => evS X s env M ⟨fun e m => evSs X ss e m P, P.rt, P.bk, P.ct⟩
end
end
end Pd

namespace Pd
open PySem L2

/-- what is wanted of an exception, on both sides, and how it lies -/
structure Xk where
  ex : XW
  W : Value → Option Addr → L2.St → Hp → Prop
  xr : List Addr → Wd → Value → Option Addr → XN → Prop
/-- the frame's values, the store, what is wanted of exceptions -/
structure Sim (K : PySem.W.Frag) (R : List Addr) (EX : Xk) (env : Env) (w : Wd) (σ : L2.St) : Prop extends Sim0 K R env w σ where
  exc : ∀ (x : XN) (env' : Env) (w' : Wd) (σ' : L2.St) (c : Value) (dx : Option Addr), EX.ex x env' w'.M → Le K w w' → Sim0 K R env' w' σ' → EX.xr R w' c dx x → EX.W c dx σ' w'.H
theorem Sim.move {K : PySem.W.Frag} {R : List Addr} {EX : Xk} {env : Env} {w w1 : Wd} {σ : L2.St} (s : Sim K R EX env w σ) (l : Le K w w1) (g : SimG K R w1) : Sim K R EX env w1 σ :=
  ⟨s.toSim0.move l g, fun x e w' σ' c dx h l' => s.exc x e w' σ' c dx h (l.trans l')⟩

section
variable (K : PySem.W.Frag) (R : List Addr)
/-- what an expression's end asks of the abstract heap -/
def Out (w : Wd) (Q : VK) : Rs → Mem → Prop
  | .val d, M => ∀ (w' : Wd) (v : V), Le K w w' → w'.M = M → SimG K R w' → Rep K R w' v d → Q v w'.H
  | .fl ds, M => ∀ (w' : Wd) (vs : List V) (p : Addr), Le K w w' → w'.M = M → SimG K R w' → RepL K R w' vs ds → w'.H p = none → Q (.ref p) (upd w'.H p (.lst vs))
  | .fd kvs, M => ∀ (w' : Wd) (vs : List (Key × V)) (p : Addr), Le K w w' → w'.M = M → SimG K R w' → Paired (fun (p : Key × V) (q : Key × D) => p.1 = q.1 ∧ Rep K R w' p.2 q.2) vs kvs → w'.H p = none → Q (.ref p) (upd w'.H p (.dK vs))
variable (T : Tb) (EX : Xk)
def tR (e : E) : TE := fun σ H Q => ∃ (R : List Addr) (env : Env) (w : Wd) (P : Rs → Mem → Prop), w.H = H ∧ Sim K R EX env w σ ∧ evR T EX.ex e env w.M P ∧ ∀ r M', P r M' → Out K R w Q r M'
def tT (e : E) : TT := fun σ H Q => ∃ (R : List Addr) (env : Env) (w : Wd) (P : Bool → Mem → Prop), w.H = H ∧ Sim K R EX env w σ ∧ evR T EX.ex e env w.M (asVal fun d M1 => ∃ b, d = .v (.bool b) ∧ P b M1) ∧
  ∀ b M' w', P b M' → Le K w w' → w'.M = M' → SimG K R w' → Q b w'.H
def tL (es : List E) : TA := fun σ H Q => ∃ (R : List Addr) (env : Env) (w : Wd) (P : List D → Mem → Prop), w.H = H ∧ Sim K R EX env w σ ∧ evL T EX.ex es env w.M P ∧
  ∀ ds M' w' vs, ds.length = es.length → P ds M' → Le K w w' → w'.M = M' → SimG K R w' → RepL K R w' vs ds → Q vs w'.H
end

section
variable {K : PySem.W.Frag} {R : List Addr} {T : Tb} {EX : Xk} {w w1 w2 : Wd} {Q : VK} {σ : St} {env : Env} {e : E}
theorem Out.le (l : Le K w w1) : ∀ {r : Rs} {M : Mem}, Out K R w Q r M → Out K R w1 Q r M
  | .val _, _, h => fun w' v l2 e s r => h w' v (l.trans l2) e s r
  | .fl _, _, h => fun w' vs p l2 e s r n => h w' vs p (l.trans l2) e s r n
  | .fd _, _, h => fun w' vs p l2 e s r n => h w' vs p (l.trans l2) e s r n
theorem keysP {kvs : List (Key × V)} {ks : List Key} {ds : List D} (hl : ks.length = ds.length) (h : Paired (fun (p : Key × V) (q : Key × D) => p.1 = q.1 ∧ Rep K R w p.2 q.2) kvs (ks.zip ds)) : kvs.map (·.1) = ks ∧ RepL K R w (kvs.map (·.2)) ds := by
  induction ks generalizing kvs ds with
  | nil =>
    cases ds with
    | nil => cases h; exact ⟨rfl, .nil⟩
    | cons _ _ => cases hl
  | cons k ks ih =>
    cases ds with
    | nil => cases hl
    | cons d ds =>
      cases h with
      | cons a b =>
        obtain ⟨e1, e2⟩ := ih (Nat.succ.inj hl) b
        exact ⟨by rw [List.map_cons, e1, a.1], .cons a.2 e2⟩
/-- from a value's end to any end -/
theorem out_val {P : D → Mem → Prop} (k : ∀ d M' w' v, P d M' → Le K w w' → w'.M = M' → SimG K R w' → Rep K R w' v d → Q v w'.H) : ∀ (r : Rs) (M' : Mem), asVal P r M' → Out K R w Q r M'
  | .val d, M', h => fun w' v l e s r => k d M' w' v h l e s r
  | .fl ds, M', ⟨ps, e, h⟩ => fun w' vs p l em s r n => by
    subst e
    have g := SimG.lay (o := .lst vs) s n
    exact k _ M' (w'.lay p (.lst vs)) _ h (l.trans (le_lay n)) em g (rep_lst_new s n (prepL_of_repL r))
  | .fd kvs, M', ⟨ks, ps, e, hl, h⟩ => fun w' vs p l em s r n => by
    subst e
    obtain ⟨e1, e2⟩ := keysP (by rw [List.length_map]; exact hl) r
    refine k _ M' (w'.lay p (.dK vs)) _ h (l.trans (le_lay n)) em (SimG.lay s n) ?_
    exact .dct (kvs := vs) (show upd w'.H p _ p = _ from upd_same) (not_live_new s n) (not_hid s n) e1 ((prepL_of_repL e2).mono (le_lay n))
theorem tR_val {P : D → Mem → Prop} (s : Sim K R EX env w σ) (h : evR T EX.ex e env w.M (asVal P)) (k : ∀ d w' v, P d w'.M → Le K w w' → Sim K R EX env w' σ → Rep K R w' v d → Q v w'.H) : tR K T EX e σ w.H Q :=
  ⟨R, env, w, asVal P, rfl, s, h, out_val fun d M' w' v p l em g r => k d w' v (by rw [em]; exact p) l (s.move l g) r⟩
theorem tR_of {P : Rs → Mem → Prop} (s : Sim K R EX env w σ) (h : evR T EX.ex e env w.M P) (k : ∀ r M', P r M' → Out K R w Q r M') : tR K T EX e σ w.H Q := ⟨R, env, w, P, rfl, s, h, k⟩
theorem tL_len {es : List E} {Q : List V → Hp → Prop} {P : List D → Mem → Prop} (s : Sim K R EX env w σ) (h : evL T EX.ex es env w.M P) (k : ∀ ds w' vs, ds.length = es.length → P ds w'.M → Le K w w' → Sim K R EX env w' σ → RepL K R w' vs ds → Q vs w'.H) : tL K T EX es σ w.H Q :=
  ⟨R, env, w, P, rfl, s, h, fun ds M' w' vs hl p l em g r => k ds w' vs hl (by rw [em]; exact p) l (s.move l g) r⟩
theorem tL_of {es : List E} {Q : List V → Hp → Prop} {P : List D → Mem → Prop} (s : Sim K R EX env w σ) (h : evL T EX.ex es env w.M P) (k : ∀ ds w' vs, P ds w'.M → Le K w w' → Sim K R EX env w' σ → RepL K R w' vs ds → Q vs w'.H) : tL K T EX es σ w.H Q :=
  tL_len s h fun ds w' vs _ p l s r => k ds w' vs p l s r
theorem tT_of {Q : Bool → Hp → Prop} {P : Bool → Mem → Prop} (s : Sim K R EX env w σ) (h : evR T EX.ex e env w.M (asVal fun d M1 => ∃ b, d = .v (.bool b) ∧ P b M1)) (k : ∀ b w', P b w'.M → Le K w w' → Sim K R EX env w' σ → Q b w'.H) : tT K T EX e σ w.H Q :=
  ⟨R, env, w, P, rfl, s, h, fun b M' w' p l em g => k b w' (by rw [em]; exact p) l (s.move l g)⟩
end

theorem PE.imp {X : Cx} {e : Expr} {t u : TE} (h : PE X e t) (k : ∀ σ H Q, u σ H Q → t σ H Q) : PE X e u := ⟨fun pins s σ H Q I q => h.run pins s σ H Q I (k σ H Q q)⟩
theorem PT.imp {X : Cx} {e : Expr} {t u : TT} (h : PT X e t) (k : ∀ σ H Q, u σ H Q → t σ H Q) : PT X e u := ⟨fun pins s σ H Q I q => h.run pins s σ H Q I (k σ H Q q)⟩
theorem PA.imp {X : Cx} {e : List Expr} {t u : TA} (h : PA X e t) (k : ∀ σ H Q, u σ H Q → t σ H Q) : PA X e u := ⟨fun ps pins s σ H Q I q => h.run ps pins s σ H Q I (k σ H Q q)⟩
theorem PS.imp {X : Cx} {e : Stmt} {t u : TS} (h : PS X e t) (k : ∀ D σ H, u D σ H → t D σ H) : PS X e u := ⟨fun pins s σ H D I q => h.run pins s σ H D I (k D σ H q)⟩
theorem PSs.imp {X : Cx} {e : List Stmt} {t u : TS} (h : PSs X e t) (k : ∀ D σ H, u D σ H → t D σ H) : PSs X e u := ⟨fun pins s σ H D I q => h.run pins s σ H D I (k D σ H q)⟩

section
variable {K : PySem.W.Frag} {R : List Addr} {w : Wd} {v : V} {vs : List V}
theorem rep_int {i : Int} (h : Rep K R w v (.v (.int i))) : v = .int i := by cases h; rfl
theorem rep_bool {b : Bool} (h : Rep K R w v (.v (.bool b))) : v = .bl b := by cases h; rfl
theorem rep_str {x : Str} (h : Rep K R w v (.v (.str x))) : v = .str x := by cases h; rfl
theorem rep_tup {ps : List PyData} (h : Rep K R w v (.v (.tuple ps))) : ∃ a vs, v = .ref a ∧ SqT K w.H a vs ∧ PRepL K R w vs ps := by
  cases h with
  | tup h1 h2 => exact ⟨_, _, rfl, h1, h2⟩
/-- a list: its items -/
theorem rep_lst (g : SimG K R w) {d : D} {ds : List D} (h : Rep K R w v d) (hd : lstOf w.M d = some ds) : ∃ a vs, v = .ref a ∧ w.H a = some (.lst vs) ∧ RepL K R w vs ds := by
  cases d with
  | v p =>
    cases p with
    | list ps =>
      have e : ps.map D.v = ds := Option.some.inj hd
      cases h with
      | lst h1 _ _ h2 => exact ⟨_, _, rfl, h1, by rw [← e]; exact repL_of_prepL h2⟩
    | _ => cases hd
  | loc n =>
    obtain ⟨a, e, hi⟩ := h
    have hd' : (match w.M n with | some (.lst ds) => some ds | _ => none) = some ds := hd
    cases q : w.M n with
    | none => rw [q] at hd'; cases hd'
    | some ob =>
      rw [q] at hd'
      cases ob with
      | lst xs =>
        cases hd'
        obtain ⟨b, hb, us, h1, h2⟩ := g.obj n _ q
        rw [hi] at hb; cases hb
        exact ⟨a, us, e, h1, h2⟩
      | _ => cases hd'
theorem lst_seq {M : Mem} {d : D} {ds : List D} (h : lstOf M d = some ds) : seqOf M d = some ds := by
  cases d with
  | v p => cases p <;> first | exact h | cases h
  | loc n =>
    have h' : (match M n with | some (.lst ds) => some ds | _ => none) = some ds := h
    show (match M n with | some (.lst ds) => some ds | some (.fz ds) => some ds | _ => none) = some ds
    cases q : M n with
    | none => rw [q] at h'; cases h'
    | some ob => rw [q] at h'; cases ob <;> first | exact h' | cases h'
/-- a list or a tuple: its items -/
theorem rep_seq (g : SimG K R w) {d : D} {ds : List D} (h : Rep K R w v d) (hd : seqOf w.M d = some ds) : ∃ a vs, v = .ref a ∧ (SqL K w.H a vs ∨ SqT K w.H a vs) ∧ RepL K R w vs ds := by
  cases d with
  | v p =>
    cases p with
    | list ps =>
      have e : ps.map D.v = ds := Option.some.inj hd
      cases h with
      | lst h1 _ _ h2 => exact ⟨_, _, rfl, .inl (SqL.of h1), by rw [← e]; exact repL_of_prepL h2⟩
    | tuple ps =>
      have e : ps.map D.v = ds := Option.some.inj hd
      cases h with
      | tup h1 h2 => exact ⟨_, _, rfl, .inr h1, by rw [← e]; exact repL_of_prepL h2⟩
    | _ => cases hd
  | loc n =>
    obtain ⟨a, e, hi⟩ := h
    have hd' : (match w.M n with | some (.lst ds) => some ds | some (.fz ds) => some ds | _ => none) = some ds := hd
    cases q : w.M n with
    | none => rw [q] at hd'; cases hd'
    | some ob =>
      rw [q] at hd'
      cases ob with
      | lst xs =>
        cases hd'
        obtain ⟨b, hb, us, h1, h2⟩ := g.obj n _ q
        rw [hi] at hb; cases hb
        exact ⟨a, us, e, .inl (SqL.of h1), h2⟩
      | fz xs =>
        cases hd'
        obtain ⟨b, hb, us, h1, h2⟩ := g.obj n _ q
        rw [hi] at hb; cases hb
        exact ⟨a, us, e, .inl (.inl h1), h2⟩
      | _ => cases hd'
theorem PRepL.append {us : List V} : ∀ {vs : List V} {ps qs : List PyData}, PRepL K R w vs ps → PRepL K R w us qs → PRepL K R w (vs ++ us) (ps ++ qs)
  | _, _, _, .nil, h => h
  | _, _, _, .cons a b, h => .cons a (PRepL.append b h)
theorem PRepL.take : ∀ {vs : List V} {ps : List PyData} (n : Nat), PRepL K R w vs ps → PRepL K R w (vs.take n) (ps.take n)
  | _, _, 0, _ => .nil
  | _, _, _ + 1, .nil => .nil
  | _, _, n + 1, .cons a b => .cons a (PRepL.take n b)
theorem PRepL.drop : ∀ {vs : List V} {ps : List PyData} (n : Nat), PRepL K R w vs ps → PRepL K R w (vs.drop n) (ps.drop n)
  | _, _, 0, h => h
  | _, _, _ + 1, .nil => .nil
  | _, _, n + 1, .cons _ b => PRepL.drop n b
theorem repL_append {us : List V} {es : List D} : ∀ {vs : List V} {ds : List D}, RepL K R w vs ds → RepL K R w us es → RepL K R w (vs ++ us) (ds ++ es)
  | _, _, .nil, h => h
  | _, _, .cons a b, h => .cons a (repL_append b h)
theorem repL_take : ∀ {vs : List V} {ds : List D} (n : Nat), RepL K R w vs ds → RepL K R w (vs.take n) (ds.take n)
  | _, _, 0, _ => .nil
  | _, _, _ + 1, .nil => .nil
  | _, _, n + 1, .cons a b => .cons a (repL_take n b)
theorem repL_drop : ∀ {vs : List V} {ds : List D} (n : Nat), RepL K R w vs ds → RepL K R w (vs.drop n) (ds.drop n)
  | _, _, 0, h => h
  | _, _, _ + 1, .nil => .nil
  | _, _, n + 1, .cons _ b => repL_drop n b
theorem repL_rev {vs : List V} {ds : List D} (h : RepL K R w vs ds) : RepL K R w vs.reverse ds.reverse := by
  induction h with
  | nil => exact .nil
  | cons a _ ih => rw [List.reverse_cons, List.reverse_cons]; exact repL_append ih (.cons a .nil)
theorem repL_get {d : D} : ∀ {vs : List V} {ds : List D} {i : Nat}, RepL K R w vs ds → ds[i]? = some d → ∃ v, vs[i]? = some v ∧ Rep K R w v d
  | _, _, _, .nil, e => by simp at e
  | _, _, 0, .cons r _, e => by simp at e; subst e; exact ⟨_, rfl, r⟩
  | _, _, i + 1, .cons _ t, e => by
    obtain ⟨u, h1, h2⟩ := repL_get (i := i) t (by simpa using e)
    exact ⟨u, by simpa using h1, h2⟩
theorem repL_set {d : D} (r : Rep K R w v d) : ∀ {vs : List V} {ds : List D} (i : Nat), RepL K R w vs ds → RepL K R w (vs.set i v) (ds.set i d)
  | _, _, _, .nil => .nil
  | _, _, 0, .cons _ t => .cons r t
  | _, _, i + 1, .cons q t => .cons q (repL_set r i t)
theorem repL_ints : ∀ {vs : List V} {ds : List D} {ns : List Int}, RepL K R w vs ds → intsOf ds = some ns → vs = ns.map V.int
  | _, _, ns, .nil, e => by have e' : ([] : List Int) = ns := Option.some.inj e; subst e'; rfl
  | _, _, ns, .cons (a := x) (b := y) a b, e => by
    cases y with
    | loc n => cases e
    | v p =>
      cases p with
      | int i =>
        have e' : (intsOf _).map (i :: ·) = some ns := e
        obtain ⟨ms, h1, h2⟩ := Option.map_eq_some_iff.mp e'
        subst h2
        rw [rep_int a, repL_ints b h1]; rfl
      | _ => cases e
theorem repL_bools : ∀ {vs : List V} {ds : List D} {ns : List Bool}, RepL K R w vs ds → boolsOf ds = some ns → vs = ns.map V.bl
  | _, _, ns, .nil, e => by have e' : ([] : List Bool) = ns := Option.some.inj e; subst e'; rfl
  | _, _, ns, .cons (a := x) (b := y) a b, e => by
    cases y with
    | loc n => cases e
    | v p =>
      cases p with
      | bool i =>
        have e' : (boolsOf _).map (i :: ·) = some ns := e
        obtain ⟨ms, h1, h2⟩ := Option.map_eq_some_iff.mp e'
        subst h2
        rw [rep_bool a, repL_bools b h1]; rfl
      | _ => cases e
theorem repL_data : ∀ {vs : List V} {ds : List D} {ps : List PyData}, RepL K R w vs ds → dataOf ds = some ps → PRepL K R w vs ps
  | _, _, ns, .nil, e => by have e' : ([] : List PyData) = ns := Option.some.inj e; subst e'; exact .nil
  | _, _, ns, .cons (a := x) (b := y) a b, e => by
    cases y with
    | loc n => cases e
    | v p =>
      have e' : (dataOf _).map (p :: ·) = some ns := e
      obtain ⟨ms, h1, h2⟩ := Option.map_eq_some_iff.mp e'
      subst h2
      exact .cons a (repL_data b h1)
theorem repL_len {vs : List V} {ds : List D} (h : RepL K R w vs ds) : vs.length = ds.length := Paired.length h
end
end Pd

namespace Pd
open PySem L2 PyProof.Rows

section
variable {X : Cx} {pins : List (Addr × Obj)} {σ : L2.St} {s : Shared} {R : List Addr} {w : Wd}
/-- the address of the modules' table stands in the base -/
def SysIn (X : Cx) : Prop := ∃ o, X.base.get? sysModules = some o
theorem sys_ne (I : Inv X pins σ w.H s) (hs : SysIn X) {a : Addr} {o : HO} (h : w.H a = some o) : sysModules ≠ a := fun e => by
  obtain ⟨ob, q⟩ := hs
  have z := (I.bs _ _ q).2
  rw [e, h] at z; cases z
theorem key_reads {P : Program} {W2 : World} {h : Heap} : ∀ {es : List DictEntry} {vs : List (Key × Value)}, Pairs (mixKind P W2) es vs → ReadsAll h (es.map (·.key)) ((vs.map (·.1)).map keyP) []
  | _, _, .nil => .nil
  | _, _, .cons (e := e) (kv := kv) hk _ t => by
    have ih := key_reads (h := h) t
    rw [List.map_cons, List.map_cons, List.map_cons]
    rcases keyIs_shape hk with ⟨i, tk, e1, e2⟩ | ⟨x, tk, e1, e2⟩
    · rw [e1, e2]; exact ReadsAll.cons (Reads.int i tk) ih
    · rw [e1, e2]; exact ReadsAll.cons (Reads.str x tk) ih
theorem pairs_vals {P : Program} {W2 : World} : ∀ {es : List DictEntry} {vs : List (Key × Value)}, Pairs (mixKind P W2) es vs → es.map (·.val) = vs.map (·.2)
  | _, _, .nil => rfl
  | _, _, .cons _ hv t => by rw [List.map_cons, List.map_cons, hv, pairs_vals t]
theorem kv_keys : ∀ {kvs : List (Key × V)} {vs : List (Key × Value)}, KV kvs vs → kvs.map (·.1) = vs.map (·.1) ∧ Vals (kvs.map (·.2)) (vs.map (·.2))
  | _, _, .nil => ⟨rfl, .nil⟩
  | _, _, .cons a b => let ⟨e1, e2⟩ := kv_keys b; ⟨by rw [List.map_cons, List.map_cons, a.1, e1], .cons a.2 e2⟩
mutual
theorem prep_reads (I : Inv X pins σ w.H s) (hs : SysIn X) : ∀ {v : V} {p : PyData} {u : Value}, PRep X.K R w v p → RelV v u → ∃ as, Reads s.heap u p as ∧ sysModules ∉ as
  | _, _, _, .non, r => by cases r; exact ⟨_, .none, by simp⟩
  | _, _, _, .bl b, r => by cases r; exact ⟨_, .bool b, by simp⟩
  | _, _, _, .int i, r => by obtain ⟨t, rfl⟩ := r; exact ⟨_, .int i t, by simp⟩
  | _, _, _, .str x, r => by obtain ⟨t, rfl⟩ := r; exact ⟨_, .str x t, by simp⟩
  | _, _, _, .tup h hh, r => by
    cases r
    obtain ⟨its, rv, ⟨o, ho, hc, n, hd⟩, _⟩ := I.tuple h
    obtain ⟨as, hr, hn⟩ := prepL_reads I hs hh rv
    exact ⟨_, .tuple ho hc hd hr, hn⟩
  | _, _, _, .lst h _ _ hh, r => by
    cases r
    obtain ⟨its, rv, ⟨o, n, ho, hc, _, hd⟩, _⟩ := I.list (SqL.of h)
    obtain ⟨as, hr, hn⟩ := prepL_reads I hs hh rv
    exact ⟨_, .list ho hc hd hr, List.not_mem_cons_of_ne_of_not_mem (sys_ne I hs h) hn⟩
  | _, _, _, .dct (kvs := kvs) (ks := ks) (ps := ps) h _ _ e hh, r => by
    cases r
    obtain ⟨_, _, vs, kv, ⟨o, es, ep, h1, h2, h3, _, hp, _⟩⟩ := (show ObjOk X.prog X.w w.H s.heap _ (.dK kvs) from I.hok _ _ h)
    obtain ⟨ek, rv⟩ := kv_keys kv
    obtain ⟨as, hr, hn⟩ := prepL_reads I hs hh rv
    have hl : ks.length = ps.length := by rw [← PRepL.length hh, ← e, List.length_map, List.length_map]
    have e1 : ((ks.map keyP).zip ps).map (·.1) = (vs.map (·.1)).map keyP := by
      rw [List.map_fst_zip (by rw [List.length_map]; omega), ← ek, e]
    have e2 : ((ks.map keyP).zip ps).map (·.2) = ps := List.map_snd_zip (by rw [List.length_map]; omega)
    refine ⟨_, .dict (as := []) (bs := as) h1 h2.1 h3 ?_ ?_, ?_⟩
    · rw [e1]; exact key_reads hp
    · rw [e2, pairs_vals hp]; exact hr
    · simp only [List.append_nil, List.cons_append, List.nil_append]
      exact List.not_mem_cons_of_ne_of_not_mem (sys_ne I hs h) hn
theorem prepL_reads (I : Inv X pins σ w.H s) (hs : SysIn X) : ∀ {vs : List V} {ps : List PyData} {us : List Value}, PRepL X.K R w vs ps → Vals vs us → ∃ as, ReadsAll s.heap us ps as ∧ sysModules ∉ as
  | _, _, _, .nil, r => by cases r; exact ⟨_, .nil, by simp⟩
  | _, _, _, .cons a b, r => by
    cases r with
    | cons r1 r2 =>
      obtain ⟨as, h1, n1⟩ := prep_reads I hs a r1
      obtain ⟨bs, h2, n2⟩ := prepL_reads I hs b r2
      exact ⟨_, .cons h1 h2, by rw [List.mem_append, not_or]; exact ⟨n1, n2⟩⟩
end
/-- a value, looked at through the store, is plain data where it is no list of the store; lists of the store read alike -/
theorem vw_reads (I : Inv X pins σ w.H s) (hs : SysIn X) (g : SimG X.K R w) : ∀ (k : Nat) {d : D} {v : V} {p : PyData} {u : Value}, Rep X.K R w v d → vw k w.M d = some p → RelV v u → ∃ as, Reads s.heap u p as ∧ sysModules ∉ as := by
  intro k
  induction k with
  | zero =>
    intro d v p u h e r
    cases d with
    | v q =>
      have e' : q = p := Option.some.inj e
      subst e'
      exact prep_reads I hs h r
    | loc n => cases e
  | succ k ih =>
    intro d v p u h e r
    cases d with
    | v q =>
      have e' : q = p := Option.some.inj e
      subst e'
      exact prep_reads I hs h r
    | loc n =>
      obtain ⟨a, e1, hi⟩ := h
      subst e1
      cases r
      have e' : (match w.M n with | some (.lst ds) => (ds.mapM (vw k w.M)).map PyData.list | _ => none) = some p := e
      cases q : w.M n with
      | none => rw [q] at e'; cases e'
      | some ob =>
        rw [q] at e'
        cases ob with
        | lst ds =>
          obtain ⟨ps, h1, h2⟩ := Option.map_eq_some_iff.mp e'
          subst h2
          obtain ⟨b, hb, us, hH, hr⟩ := g.obj n _ q
          rw [hi] at hb; cases hb
          obtain ⟨its, rv, ⟨o, n', ho, hc, _, hd⟩, _⟩ := I.list (SqL.of hH)
          have all : ∀ {vs : List V} {ds : List D} {ps : List PyData} {us : List Value}, RepL X.K R w vs ds → ds.mapM (vw k w.M) = some ps → Vals vs us → ∃ as, ReadsAll s.heap us ps as ∧ sysModules ∉ as := by
            intro vs ds ps us hr
            induction hr generalizing ps us with
            | nil =>
              intro e1 r1
              cases r1
              have e2 : ([] : List PyData) = ps := by simpa using e1
              subst e2
              exact ⟨_, .nil, by simp⟩
            | cons a b ihl =>
              intro e1 r1
              cases r1 with
              | cons r1 r2 =>
                rw [List.mapM_cons] at e1
                obtain ⟨p0, h0, e1⟩ := Option.bind_eq_some_iff.mp e1
                obtain ⟨ps', h1, e1⟩ := Option.bind_eq_some_iff.mp e1
                have e2 : p0 :: ps' = ps := by simpa using e1
                subst e2
                obtain ⟨as, q1, n1⟩ := ih a h0 r1
                obtain ⟨bs, q2, n2⟩ := ihl h1 r2
                exact ⟨_, .cons q1 q2, by rw [List.mem_append, not_or]; exact ⟨n1, n2⟩⟩
          obtain ⟨as, q1, n1⟩ := all hr h1 rv
          exact ⟨_, .list ho hc hd q1, List.not_mem_cons_of_ne_of_not_mem (sys_ne I hs hH) n1⟩
        | _ => cases e'
end

section
variable {X : Cx}
def rBin (K : PySem.W.Frag) (o : Operator) : R2 := fun x y H Q => ∃ (R : List Addr) (w : Wd) (dx dy : D) (P : Rs → Prop), w.H = H ∧ SimG K R w ∧ Rep K R w x dx ∧ Rep K R w y dy ∧ binW o dx dy w.M P ∧ ∀ r, P r → Out K R w Q r w.M
theorem repL_flatten {K : PySem.W.Frag} {R : List Addr} {w : Wd} {vs : List V} {ds : List D} (h : RepL K R w vs ds) : ∀ n : Nat, RepL K R w (List.replicate n vs).flatten (List.replicate n ds).flatten
  | 0 => .nil
  | n + 1 => by rw [List.replicate_succ, List.replicate_succ, List.flatten_cons, List.flatten_cons]; exact repL_append h (repL_flatten h n)
theorem prepL_nil {K : PySem.W.Frag} {R : List Addr} {w : Wd} {ps : List PyData} (h : PRepL K R w [] ps) : ps = [] := by cases h; rfl
theorem prepL_flatten {K : PySem.W.Frag} {R : List Addr} {w : Wd} {vs : List V} {ps : List PyData} (h : PRepL K R w vs ps) (n : Nat) : PRepL K R w (List.replicate n vs).flatten (List.replicate n ps).flatten := by
  have q := repL_flatten (repL_of_prepL h) n
  rw [← List.map_replicate, ← List.map_flatten] at q
  exact prepL_of_repL q
theorem op_bin (o : Operator) : OpR X (binaryOp o) (rBin X.K o) := by
  intro pins s σ H x y v u Q I rx ry h
  obtain ⟨R, w, dx, dy, P, rfl, g, hx, hy, hb, fin⟩ := h
  unfold binW at hb
  split at hb
  · rename_i i j
    exact op_add pins s σ _ x y v u Q I rx ry ⟨i, j, rep_int hx, rep_int hy, fin _ hb w _ (Le.refl w) rfl g (.int _)⟩
  · rename_i a b
    exact op_add_str pins s σ _ x y v u Q I rx ry ⟨a, b, rep_str hx, rep_str hy, hb.1, fin _ hb.2 w _ (Le.refl w) rfl g (.str _)⟩
  · rename_i a b
    obtain ⟨pa, vs, rfl, h1, h2⟩ := rep_tup hx
    obtain ⟨pb, us, rfl, h3, h4⟩ := rep_tup hy
    refine op_catA pins s σ _ _ _ v u Q I rx ry ⟨pa, pb, vs, us, rfl, rfl, h1, h3, by rw [h2.length, h4.length]; exact hb.1, fun e => ?_, fun _ e => ?_, fun _ _ p hp => ?_⟩
    · subst e
      have e := prepL_nil h2
      subst e
      exact fin _ hb.2 w _ (Le.refl w) rfl g (.tup h3 h4)
    · subst e
      have e := prepL_nil h4
      subst e
      rw [List.append_nil] at hb
      exact fin _ hb.2 w _ (Le.refl w) rfl g (.tup h1 h2)
    · exact fin _ hb.2 (w.lay p _) _ (le_lay hp) rfl (SimG.lay g hp) (rep_tup_new g hp (h2.append h4))
  · obtain ⟨xs, ys, h1, h2, hz, hb⟩ := hb
    obtain ⟨a, vs, rfl, ha, ra⟩ := rep_lst g hx h1
    obtain ⟨b, us, rfl, hb', rb⟩ := rep_lst g hy h2
    refine op_cat pins s σ _ _ _ v u Q I rx ry ⟨a, b, vs, us, rfl, rfl, ha, hb', by rw [repL_len ra, repL_len rb]; exact hz, fun p hp => ?_⟩
    exact fin _ hb w _ p (Le.refl w) rfl g (repL_append ra rb) hp
  · rename_i i j
    exact op_sub pins s σ _ x y v u Q I rx ry ⟨i, j, rep_int hx, rep_int hy, fin _ hb w _ (Le.refl w) rfl g (.int _)⟩
  · rename_i i j
    exact op_mul pins s σ _ x y v u Q I rx ry ⟨i, j, rep_int hx, rep_int hy, hb.1, fin _ hb.2 w _ (Le.refl w) rfl g (.int _)⟩
  · rename_i a k
    obtain ⟨hne, k1, k2, hl, hb⟩ := hb
    obtain ⟨pa, vs, rfl, h1, h2⟩ := rep_tup hx
    refine op_repT pins s σ _ _ _ v u Q I rx ry ⟨pa, k, vs, rfl, rep_int hy, h1, fun e => ?_, k1, k2, by rw [h2.length]; exact hl, fun p hp => ?_⟩
    · subst e
      exact hne (prepL_nil h2)
    · exact fin _ hb (w.lay p _) _ (le_lay hp) rfl (SimG.lay g hp) (rep_tup_new g hp (prepL_flatten h2 _))
  · rename_i k _ _
    obtain ⟨xs, h1, k1, k2, hz, hb⟩ := hb
    obtain ⟨a, vs, rfl, ha, ra⟩ := rep_lst g hx h1
    refine op_rep pins s σ _ _ _ v u Q I rx ry ⟨a, k, vs, rfl, rep_int hy, ha, k1, k2, by rw [repL_len ra]; exact hz, fun p hp => ?_⟩
    exact fin _ hb w _ p (Le.refl w) rfl g (repL_flatten ra _) hp
  · rename_i i j
    refine op_fdivW pins s σ _ x y v u Q I rx ry ⟨i, j, rep_int hx, rep_int hy, ⟨hb.1.1, ?_⟩, fin _ hb.2 w _ (Le.refl w) rfl g (.int _)⟩
    have z := hb.1
    have z2 : j.natAbs < 2 ^ 64 := by omega
    have z3 : j.natAbs.log2 < 64 := (Nat.log2_lt (by omega)).mpr z2
    omega
  · rename_i i j
    exact op_mod pins s σ _ x y v u Q I rx ry ⟨i, j, rep_int hx, rep_int hy, hb.1, fin _ hb.2 w _ (Le.refl w) rfl g (.int _)⟩
  · rename_i i j
    exact op_pow pins s σ _ x y v u Q I rx ry ⟨i, j, rep_int hx, rep_int hy, hb.1, fin _ hb.2 w _ (Le.refl w) rfl g (.int _)⟩
  · exact hb.elim
def rCmp (K : PySem.W.Frag) (o : CmpOp) : R2 := fun x y H Q => ∃ (R : List Addr) (w : Wd) (dx dy : D) (P : Bool → Prop), w.H = H ∧ SimG K R w ∧ Rep K R w x dx ∧ Rep K R w y dy ∧ cmpW o dx dy w.M P ∧ ∀ b, P b → Q (.bl b) w.H
theorem seq_data_reads {pins : List (Addr × Obj)} {s : Shared} {σ : L2.St} {w : Wd} {R : List Addr} (I : Inv X pins σ w.H s) (hs : SysIn X) {a : Addr} {vs : List V} {ps : List PyData} (hq : SqL X.K w.H a vs ∨ SqT X.K w.H a vs) (h : PRepL X.K R w vs ps) :
    (∃ as, Reads s.heap (.ref a) (.list ps) as) ∨ ∃ as, Reads s.heap (.ref a) (.tuple ps) as := by
  rcases hq with hq | hq
  · obtain ⟨its, rv, ⟨o, n, ho, hc, _, hd⟩, _⟩ := I.list hq
    obtain ⟨as, hr, _⟩ := prepL_reads I hs h rv
    exact .inl ⟨_, .list ho hc hd hr⟩
  · obtain ⟨its, rv, ⟨o, ho, hc, n, hd⟩, _⟩ := I.tuple hq
    obtain ⟨as, hr, _⟩ := prepL_reads I hs h rv
    exact .inr ⟨_, .tuple ho hc hd hr⟩
end
end Pd

namespace Pd
open PySem L2 PyProof.Rows

section
variable {X : Cx}
theorem op_cmp (hs : SysIn X) (hu : X.A.units + 200 < cLine) (o : CmpOp) : OpR X (compareOp o) (rCmp X.K o) := by
  intro pins s σ H x y v u Q I rx ry h
  obtain ⟨R, w, dx, dy, P, rfl, g, hx, hy, hb, fin⟩ := h
  cases o with
  | Lt => obtain ⟨i, j, rfl, rfl, hb⟩ := hb; exact op_lt pins s σ _ x y v u Q I rx ry ⟨i, j, rep_int hx, rep_int hy, fin _ hb⟩
  | LtE => obtain ⟨i, j, rfl, rfl, hb⟩ := hb; exact op_le pins s σ _ x y v u Q I rx ry ⟨i, j, rep_int hx, rep_int hy, fin _ hb⟩
  | Gt => obtain ⟨i, j, rfl, rfl, hb⟩ := hb; exact op_gt pins s σ _ x y v u Q I rx ry ⟨i, j, rep_int hx, rep_int hy, fin _ hb⟩
  | GtE => obtain ⟨i, j, rfl, rfl, hb⟩ := hb; exact op_ge pins s σ _ x y v u Q I rx ry ⟨i, j, rep_int hx, rep_int hy, fin _ hb⟩
  | Eq =>
    have hb : eqW dx dy w.M P := hb
    unfold eqW at hb
    split at hb
    · rename_i a b
      refine op_eq pins s σ _ x y v u Q I rx ry ?_
      rw [rep_str hx, rep_str hy]
      exact ⟨rfl, by rw [dec_str]; exact fin _ hb⟩
    · obtain ⟨p, q, h1, h2, s1, s2, hb⟩ := hb
      obtain ⟨as, r1, _⟩ := vw_reads I hs g 4 hx h1 rx
      obtain ⟨bs, r2, _⟩ := vw_reads I hs g 4 hy h2 ry
      exact SeqAt.compareEq_shaped r1 r2 s1 s2 (by omega) ⟨.bl _, w.H, I, rfl, fin _ hb⟩
  | NotEq =>
    have hb : eqW dx dy w.M fun b => P (!b) := hb
    unfold eqW at hb
    split at hb
    · rename_i a b
      refine op_ne pins s σ _ x y v u Q I rx ry ?_
      rw [rep_str hx, rep_str hy]
      exact ⟨rfl, by rw [dec_str]; exact fin _ hb⟩
    · obtain ⟨p, q, h1, h2, s1, s2, hb⟩ := hb
      obtain ⟨as, r1, _⟩ := vw_reads I hs g 4 hx h1 rx
      obtain ⟨bs, r2, _⟩ := vw_reads I hs g 4 hy h2 ry
      exact SeqAt.compareNe_shaped r1 r2 s1 s2 (by omega) ⟨.bl _, w.H, I, rfl, fin _ hb⟩
  | In =>
    obtain ⟨p, ds, qs, h1, h2, h3, s1, s2, hb⟩ := hb
    obtain ⟨as, r1, _⟩ := vw_reads I hs g 4 hx h1 rx
    obtain ⟨a, vs, rfl, hq, hr⟩ := rep_seq g hy h2
    cases ry
    have d1 := SeqAt.depth_of_shaped s1
    rcases seq_data_reads I hs hq (repL_data hr h3) with ⟨bs, r2⟩ | ⟨bs, r2⟩
    · exact SeqAt.in_list_reads r2 r1 (SeqAt.canLay_of_shaped s2) (SeqAt.canLay_of_shaped s1) (by have := Nat.min_le_right (PyData.depthAll qs) p.depth; omega) ⟨.bl _, w.H, I, rfl, fin _ hb⟩
    · exact SeqAt.in_tuple_reads r2 r1 (SeqAt.canLay_of_shaped s2) (SeqAt.canLay_of_shaped s1) (by have := Nat.min_le_right (PyData.depthAll qs) p.depth; omega) ⟨.bl _, w.H, I, rfl, fin _ hb⟩
  | NotIn =>
    obtain ⟨p, ds, qs, h1, h2, h3, s1, s2, hb⟩ := hb
    obtain ⟨as, r1, _⟩ := vw_reads I hs g 4 hx h1 rx
    obtain ⟨a, vs, rfl, hq, hr⟩ := rep_seq g hy h2
    cases ry
    have d1 := SeqAt.depth_of_shaped s1
    rcases seq_data_reads I hs hq (repL_data hr h3) with ⟨bs, r2⟩ | ⟨bs, r2⟩
    · exact SeqAt.notIn_list_reads r2 r1 (SeqAt.canLay_of_shaped s2) (SeqAt.canLay_of_shaped s1) (by have := Nat.min_le_right (PyData.depthAll qs) p.depth; omega) ⟨.bl _, w.H, I, rfl, fin _ hb⟩
    · exact SeqAt.notIn_tuple_reads r2 r1 (SeqAt.canLay_of_shaped s2) (SeqAt.canLay_of_shaped s1) (by have := Nat.min_le_right (PyData.depthAll qs) p.depth; omega) ⟨.bl _, w.H, I, rfl, fin _ hb⟩
  | _ => exact hb.elim

def tyD (M : Mem) : D → String
  | .v .none => "NoneType"
  | .v (.bool _) => "bool"
  | .v (.int _) => "int"
  | .v (.str _) => "str"
  | .v (.list _) => "list"
  | .v (.tuple _) => "tuple"
  | .v (.dict _) => "dict"
  | .loc n => match M n with
    | some (.dct _) => "dict"
    | _ => "list"
def rIsI (K : PySem.W.Frag) (T : String) : List V → Hp → VK → Prop := fun vs H Q => ∃ (R : List Addr) (w : Wd) (x : V) (d : D) (P : Bool → Prop), w.H = H ∧ vs = [x, .ty T] ∧ SimG K R w ∧ Rep K R w x d ∧ isiW d T w.M P ∧ ∀ b, P b → Q (.bl b) w.H
theorem tyX_of {K : PySem.W.Frag} {R : List Addr} {w : Wd} (g : SimG K R w) {x : V} {d : D} (h : Rep K R w x d) (hl : ∀ n, d = .loc n → w.M n ≠ none) : TyX K w.H x (.type (tyD w.M d)) := by
  cases d with
  | v p =>
    cases h with
    | non => exact .base .non
    | bl b => exact .base (.bl b)
    | int i => exact .base (.int i)
    | str z => exact .base (.str z)
    | tup h1 h2 =>
      rcases h1 with (h1 | ⟨o, h1⟩) | ⟨o, its, n, h1, h2', h3, _⟩
      · exact .base (.tup h1)
      · exact .fTuple h1
      · exact .kTuple h1 h2'
    | lst h1 _ _ _ => exact .base (.lst h1)
    | dct h1 _ _ _ _ => exact .base (.dK h1)
  | loc n =>
    obtain ⟨a, rfl, hi⟩ := h
    cases q : w.M n with
    | none => exact absurd q (hl n rfl)
    | some ob =>
      obtain ⟨b, hb, r⟩ := g.obj n ob q
      rw [hi] at hb; cases hb
      have e : tyD w.M (.loc n) = (match w.M n with | some (.dct _) => "dict" | _ => "list") := rfl
      rw [e, q]
      cases ob with
      | lst ds => obtain ⟨vs, h1, _⟩ := r; exact .base (.lst h1)
      | dct kvs => obtain ⟨vs, h1, _⟩ := r; exact .base (.dK h1)
      | fz ds =>
        obtain ⟨vs, h1, _⟩ := r
        rcases h1 with h1 | ⟨o, h1⟩
        · exact .base (.lst h1)
        · exact .base (.frz h1)
def isOneOf (T : String) : Prop := T = "int" ∨ T = "bool" ∨ T = "str" ∨ T = "list" ∨ T = "tuple" ∨ T = "dict"
theorem kits {K : PySem.W.Frag} {T : String} (h : isOneOf T) : PySem.W.kitOne K (.type "NoneType") (.type T) = some false ∧ PySem.W.kitOne K (.type "bool") (.type T) = some (T == "bool" || T == "int") ∧
    PySem.W.kitOne K (.type "int") (.type T) = some (T == "int") ∧ PySem.W.kitOne K (.type "str") (.type T) = some (T == "str") ∧ PySem.W.kitOne K (.type "list") (.type T) = some (T == "list") ∧
    PySem.W.kitOne K (.type "tuple") (.type T) = some (T == "tuple") ∧ PySem.W.kitOne K (.type "dict") (.type T) = some (T == "dict") := by
  rcases h with rfl | rfl | rfl | rfl | rfl | rfl <;> exact ⟨kit_ty (by decide +kernel), kit_ty (by decide +kernel), kit_ty (by decide +kernel), kit_ty (by decide +kernel), kit_ty (by decide +kernel), kit_ty (by decide +kernel), kit_ty (by decide +kernel)⟩
theorem cr_isi {T : String} (hT : isOneOf T) : CallR X (.builtin "isinstance") (rIsI X.K T) := by
  intro pins s σ H vs us Q I r h
  obtain ⟨R, w, x, d, P, rfl, rfl, g, hx, hb, fin⟩ := h
  obtain ⟨k1, k2, k3, k4, k5, k6, k7⟩ := kits (K := X.K) hT
  have go : ∀ b, PySem.W.kitOne X.K (.type (tyD w.M d)) (.type T) = some b → P b → (∀ n, d = .loc n → w.M n ≠ none) → wpAny (model X.prog X.w) X.A (call (.builtin "isinstance") us) (EP X pins σ Q) X.xe s := fun b e p hl =>
    call_isi pins s σ w.H _ us Q I r ⟨x, .ty T, .type (tyD w.M d), .type T, b, rfl, .ty T, tyX_of g hx hl, e, fin b p⟩
  cases d with
  | v p => cases p <;> first | exact go _ k1 hb (fun _ z => nomatch z) | exact go _ k2 hb (fun _ z => nomatch z) | exact go _ k3 hb (fun _ z => nomatch z) | exact go _ k4 hb (fun _ z => nomatch z) | exact go _ k5 hb (fun _ z => nomatch z) | exact go _ k6 hb (fun _ z => nomatch z) | exact go _ k7 hb (fun _ z => nomatch z)
  | loc n =>
    have hb' : (match w.M n with | some (.lst _) => P (T == "list") | some (.fz _) => P (T == "list") | some (.dct _) => P (T == "dict") | none => False) := hb
    have e : tyD w.M (.loc n) = (match w.M n with | some (.dct _) => "dict" | _ => "list") := rfl
    cases q : w.M n with
    | none => rw [q] at hb'; exact hb'.elim
    | some ob =>
      have hl : ∀ m, D.loc n = .loc m → w.M m ≠ none := fun m z => by cases z; rw [q]; simp
      rw [q] at hb' e
      cases ob with
      | lst ds => exact go _ (by rw [e]; exact k5) hb' hl
      | dct ds => exact go _ (by rw [e]; exact k7) hb' hl
      | fz ds => exact go _ (by rw [e]; exact k5) hb' hl

def rIxD (K : PySem.W.Frag) : R2 := fun x y H Q => ∃ (R : List Addr) (w : Wd) (dx dy : D) (P : D → Prop), w.H = H ∧ SimG K R w ∧ Rep K R w x dx ∧ Rep K R w y dy ∧ ixW dx dy w.M P ∧ ∀ d v, P d → Rep K R w v d → Q v w.H
theorem atI_rep {K : PySem.W.Frag} {R : List Addr} {w : Wd} {vs : List V} {ds : List D} {k : Int} {d : D} (h : RepL K R w vs ds) (e : atI ds k = some d) : ∃ v, atI vs k = some v ∧ Rep K R w v d := by
  unfold atI at e ⊢
  rw [repL_len h]
  obtain ⟨j, h1, h2⟩ := Option.bind_eq_some_iff.mp e
  obtain ⟨v, h3, h4⟩ := repL_get h h2
  exact ⟨v, by rw [h1]; exact h3, h4⟩
theorem ix_D : IxR X (rIxD X.K) := by
  intro value slice pins s σ H x y v u Q I rx ry h hs
  obtain ⟨R, w, dx, dy, P, rfl, g, hx, hy, ⟨ds, k, d, h1, rfl, h3, hb⟩, fin⟩ := h
  obtain ⟨a, vs, rfl, hq, hr⟩ := rep_seq g hx h1
  obtain ⟨z, h4, h5⟩ := atI_rep hr h3
  rcases hq with hq | hq
  · exact ix_list value slice pins s σ w.H _ y v u Q I rx ry ⟨a, vs, k, z, rfl, rep_int hy, hq, h4, fin d z hb h5⟩ hs
  · exact ix_tup value slice pins s σ w.H _ y v u Q I rx ry ⟨a, vs, k, z, rfl, rep_int hy, hq, h4, fin d z hb h5⟩ hs
def rSlD (K : PySem.W.Frag) : V → Option Int → Option Int → Hp → VK → Prop := fun x lo hi H Q => ∃ (R : List Addr) (w : Wd) (dx : D) (P : Rs → Prop), w.H = H ∧ SimG K R w ∧ Rep K R w x dx ∧ slW dx lo hi w.M P ∧ ∀ r, P r → Out K R w Q r w.M
theorem sl_D : SlR X (rSlD X.K) := by
  intro pins s σ H x v vl vu lo hi sl Q I rx hs pl pu h
  obtain ⟨R, w, dx, P, rfl, g, hx, hb, fin⟩ := h
  unfold slW at hb
  split at hb
  · rename_i ps
    obtain ⟨a, vs, rfl, hq, hr⟩ := rep_tup hx
    have hl := hr.length
    refine sl_tupA pins s σ w.H _ v vl vu lo hi sl Q I rx hs pl pu ⟨a, vs, rfl, hq, fun e => ?_, fun _ p hp => ?_⟩
    · have e2 : cutP ps lo hi = ps := by
        unfold cutP
        rw [← hl, e.1, e.2, hl]
        simp
      rw [e2] at hb
      exact fin _ hb w _ (Le.refl w) rfl g (.tup hq hr)
    · have r2 : PRepL X.K R w (cutV vs lo hi) (cutP ps lo hi) := by
        unfold cutV cutP
        rw [hl]
        exact (hr.drop _).take _
      exact fin _ hb (w.lay p _) _ (le_lay hp) rfl (SimG.lay g hp) (rep_tup_new g hp r2)
  · obtain ⟨ds, h1, hb⟩ := hb
    rename_i hne
    obtain ⟨a, vs, rfl, hq, hr⟩ := rep_seq g hx h1
    have hq' : SqL X.K w.H a vs := by
      rcases hq with hq | hq
      · exact hq
      · exfalso
        cases dx with
        | v p =>
          cases p with
          | tuple ps => exact hne ps rfl
          | list ps =>
            cases hx with
            | lst h2 _ _ _ =>
              rcases hq with (hq | ⟨o, hq⟩) | ⟨o, its, n, hk, hc, _⟩
              · rw [h2] at hq; cases hq
              · rw [h2] at hq; cases hq
              · have e1 := I.kIn _ _ hk
                obtain ⟨_, its2, n2, _, e2⟩ := (show ObjOk X.prog X.w w.H s.heap a (.lst _) from I.hok a _ h2)
                rw [e1] at e2
                cases e2
                injection hc with z
                exact absurd z (by decide)
          | _ => cases h1
        | loc n =>
          obtain ⟨b, eb, hi'⟩ := hx
          cases eb
          have h1' : (match w.M n with | some (.lst ds) => some ds | some (.fz ds) => some ds | _ => none) = some ds := h1
          cases q : w.M n with
          | none => rw [q] at h1'; cases h1'
          | some ob =>
            obtain ⟨c, hc, r⟩ := g.obj n ob q
            rw [hi'] at hc; cases hc
            have hL : ∃ us, SqL X.K w.H a us := by
              cases ob with
              | lst xs => obtain ⟨us, e, _⟩ := r; exact ⟨us, SqL.of e⟩
              | fz xs => obtain ⟨us, e, _⟩ := r; exact ⟨us, .inl e⟩
              | dct kvs => rw [q] at h1'; cases h1'
            obtain ⟨us, hL⟩ := hL
            obtain ⟨its, _, ⟨o1, n1, e1, c1, _⟩, _⟩ := I.list hL
            obtain ⟨its2, _, ⟨o2, e2, c2, _⟩, _⟩ := I.tuple hq
            rw [e1] at e2; cases e2
            rw [c1] at c2
            injection c2 with z
            exact absurd z (by decide)
    refine sl_list pins s σ w.H _ v vl vu lo hi sl Q I rx hs pl pu ⟨a, vs, rfl, hq', fun p hp => ?_⟩
    have r2 : RepL X.K R w (cutV vs lo hi) (cutD ds lo hi) := by
      unfold cutV cutD
      rw [repL_len hr]
      exact repL_take _ (repL_drop _ hr)
    exact fin _ hb w _ p (Le.refl w) rfl g r2 hp

def rMtD (K : PySem.W.Frag) (m : MT) : V → List V → Hp → VK → Prop := fun x vs H Q => ∃ (R : List Addr) (w : Wd) (dx : D) (ds : List D) (P : D → Mem → Prop), w.H = H ∧ SimG K R w ∧ Rep K R w x dx ∧ RepL K R w vs ds ∧ mtW m dx ds w.M P ∧
  ∀ d M' w' v, P d M' → Le K w w' → w'.M = M' → SimG K R w' → Rep K R w' v d → Q v w'.H
def mtId : MT → String
  | .append => "list.append"
  | .pop => "list.pop"
  | .popAt => "list.pop"
  | .extend => "list.extend"
  | .insert => "list.insert"
theorem loc_lst {K : PySem.W.Frag} {R : List Addr} {w : Wd} (g : SimG K R w) {x : V} {n : Nat} {ds : List D} (h : Rep K R w x (.loc n)) (q : w.M n = some (.lst ds)) : ∃ a vs, x = .ref a ∧ w.io n = some a ∧ w.H a = some (.lst vs) ∧ RepL K R w vs ds := by
  obtain ⟨a, e, hi⟩ := h
  obtain ⟨b, hb, vs, h1, h2⟩ := g.obj n _ q
  rw [hi] at hb; cases hb
  exact ⟨a, vs, e, hi, h1, h2⟩
theorem put_lst {K : PySem.W.Frag} {R : List Addr} {w : Wd} (g : SimG K R w) {n : Nat} {a : Addr} {ds es : List D} {us : List V} (q : w.M n = some (.lst ds)) (hi : w.io n = some a) (r : RepL K R w us es) : Le K w (w.put n (.lst es) a (.lst us)) ∧ SimG K R (w.put n (.lst es) a (.lst us)) := by
  have l := le_put (ob := .lst es) (o := .lst us) g q rfl hi
  exact ⟨l, SimG.put g q rfl hi ⟨us, show upd w.H a _ a = _ from upd_same, RepL.mono l r⟩⟩
theorem repL_one {K : PySem.W.Frag} {R : List Addr} {w : Wd} {vs : List V} {d : D} (h : RepL K R w vs [d]) : ∃ v, vs = [v] ∧ Rep K R w v d := by
  cases h with
  | cons a b => cases b; exact ⟨_, rfl, a⟩
theorem mt_D (m : MT) : MtR X (mtId m) (rMtD X.K m) := by
  intro pins s σ H x vs v us Q I rx rs h
  obtain ⟨R, w, dx, ds, P, rfl, g, hx, hv, hb, fin⟩ := h
  unfold mtW at hb
  split at hb
  · rename_i n y
    obtain ⟨es, q, hz, hb⟩ := hb
    obtain ⟨a, xs, rfl, hi, h1, h2⟩ := loc_lst g hx q
    obtain ⟨z, rfl, rz⟩ := repL_one hv
    obtain ⟨l, g2⟩ := put_lst g q hi (repL_append h2 (.cons rz .nil))
    exact mt_append pins s σ w.H _ _ v us Q I rx rs ⟨a, xs, z, rfl, rfl, h1, by rw [repL_len h2]; exact hz, fin _ _ (w.put n _ a _) .non hb l rfl g2 .non⟩
  · rename_i n
    obtain ⟨es, y, q, hy, hb⟩ := hb
    obtain ⟨a, xs, rfl, hi, h1, h2⟩ := loc_lst g hx q
    cases hv
    obtain ⟨z, hz, rz⟩ := repL_get h2 hy
    have r2 : RepL X.K R w xs.dropLast es.dropLast := by rw [List.dropLast_eq_take, List.dropLast_eq_take, repL_len h2]; exact repL_take _ h2
    obtain ⟨l, g2⟩ := put_lst g q hi r2
    exact mt_pop pins s σ w.H _ _ v us Q I rx rs ⟨a, xs, z, rfl, rfl, h1, by rw [repL_len h2]; exact hz, fin _ _ (w.put n _ a _) z hb l rfl g2 (rz.mono l)⟩
  · rename_i n y
    obtain ⟨es, fs, q, hy, hz, hb⟩ := hb
    obtain ⟨a, xs, rfl, hi, h1, h2⟩ := loc_lst g hx q
    obtain ⟨z, rfl, rz⟩ := repL_one hv
    obtain ⟨b, ys, rfl, h3, h4⟩ := rep_lst g rz hy
    obtain ⟨l, g2⟩ := put_lst g q hi (repL_append h2 h4)
    exact mt_extend pins s σ w.H _ _ v us Q I rx rs ⟨a, b, xs, ys, rfl, rfl, h1, h3, by rw [repL_len h2, repL_len h4]; exact hz, fin _ _ (w.put n _ a _) .non hb l rfl g2 .non⟩
  · exact hb.elim
def rSetD (K : PySem.W.Frag) : TSet := fun o i y H Q => ∃ (R : List Addr) (w : Wd) (d0 d1 d2 : D) (P : Mem → Prop), w.H = H ∧ SimG K R w ∧ Rep K R w o d0 ∧ Rep K R w i d1 ∧ Rep K R w y d2 ∧ setW d0 d1 d2 w.M P ∧
  ∀ M' w', P M' → Le K w w' → w'.M = M' → SimG K R w' → Q w'.H
theorem set_D : PSet X (rSetD X.K) := by
  intro pins s σ H o i y v0 v1 v2 Q I r0 r1 r2 h
  obtain ⟨R, w, d0, d1, d2, P, rfl, g, h0, h1, h2, ⟨n, ds, k, j, rfl, rfl, q, hj, hb⟩, fin⟩ := h
  obtain ⟨a, xs, rfl, hi, h3, h4⟩ := loc_lst g h0 q
  obtain ⟨l, g2⟩ := put_lst g q hi (repL_set h2 j h4)
  exact set_list pins s σ w.H _ _ _ v0 v1 v2 Q I r0 r1 r2 ⟨a, xs, k, j, rfl, rep_int h1, h3, by rw [repL_len h4]; exact hj, fin _ (w.put n _ a _) hb l rfl g2⟩
end
end Pd

namespace Pd
open PySem L2 PyProof.Rows

section
variable {prog : Program} {w : World} {A : Around} {E : Value → Shared → Prop} {s : Shared} {l : Addr}
theorem sum_tupI {its : List Value} {ns : List Int} {Q : Value → Shared → Prop} (hh : A.handled = none) (hl : s.heap.IsTuple l its.toArray) (hi : IntsAre its ns)
    (h : ∀ h' tk t', (∀ b o, s.heap.get? b = some o → h'.get? b = some o) → Q (.int ns.sum t') { s with heap := h', toks := tk }) : wpAny (model prog w) A (call (.builtin "sum") [.ref l]) Q E s := by
  obtain ⟨xs, e⟩ := hi.allInts.items
  have hn : numsOf (intItems xs).toList = ns := by rw [← e]; exact hi.numsOf
  rw [nums_intItems] at hn
  rw [e] at hl
  have hlt : l < s.heap.objs.size := by obtain ⟨_, q, _⟩ := hl; exact Heap.lt_size q
  refine call_sum_walkG (wpAny_pyIter_tuple hl ?_)
  refine ⟨_, [s.heap.objs.size, l], [s.heap.objs.size], _, _, _, numAt xs, rfl, Walks.tuple (A := A.in1) hh _ l (Nat.ne_of_lt hlt) (intItems xs), ⟨⟨_, Heap.get?_push_size _ rfl, rfl, rfl⟩, hl.push _⟩, fun b hb => ?_, (fun _ _ => intItems_at), fun h' tk t' hk => ?_⟩
  · show b < (s.heap.push _).objs.size
    rw [Heap.size_push]
    rcases List.mem_cons.mp hb with q | hb
    · rw [q]; exact Nat.lt_succ_self _
    · rcases List.mem_cons.mp hb with q | hb
      · rw [q]; exact Nat.lt_succ_of_lt hlt
      · cases hb
  · have z := h h' tk t' fun b o q => hk b o (fun hm => by
      rcases List.mem_cons.mp hm with e1 | hm
      · exact absurd (e1 ▸ Heap.lt_size q) (Nat.lt_irrefl _)
      · cases hm) (Heap.get?_push_of_some _ q)
    have e3 : (preSum (numAt xs) (intItems xs).size) = ns.sum := by
      rw [preSum_eq, List.take_of_length_le (by simp [intItems]), hn]
    rw [e3]
    exact z
end

/-- what the body of a def stands in -/
structure Cok (X : Cx) : Prop where
  calm : X.calm = true
  sys : SysIn X
  un : X.A.units + 200 < cLine
  gd : X.A.guards = some []

def biV : BI → Value
  | .len => .builtin "len"
  | .abs => .builtin "abs"
  | .sum => .builtin "sum"
  | .all => .builtin "all"
  | .any => .builtin "any"
  | .int => .type "int"
  | .tuple => .type "tuple"
  | .list => .type "list"
  | .sorted => .builtin "sorted"
  | .repr => .builtin "repr"
  | .max => .builtin "max"
  | .min => .builtin "min"
  | .max2 => .builtin "max"
  | .min2 => .builtin "min"
  | .max3 => .builtin "max"
  | .min3 => .builtin "min"
def rBi (K : PySem.W.Frag) (f : BI) : List V → Hp → VK → Prop := fun vs H Q => ∃ (R : List Addr) (w : Wd) (ds : List D) (P : Rs → Prop), w.H = H ∧ SimG K R w ∧ RepL K R w vs ds ∧ biW f ds w.M P ∧ ∀ r, P r → Out K R w Q r w.M
section
variable {X : Cx}
theorem repL_two {K : PySem.W.Frag} {R : List Addr} {w : Wd} {vs : List V} {d e : D} (h : RepL K R w vs [d, e]) : ∃ v u, vs = [v, u] ∧ Rep K R w v d ∧ Rep K R w u e := by
  cases h with
  | cons a b => cases b with
    | cons c d => cases d; exact ⟨_, _, rfl, a, c⟩
theorem cr_len {pins : List (Addr × Obj)} {s : Shared} {σ : L2.St} {w : Wd} {R : List Addr} {x : V} {d : D} {us : List Value} {P : Int → Prop} {Q : VK} (I : Inv X pins σ w.H s) (g : SimG X.K R w) (r : Vals [x] us) (hx : Rep X.K R w x d) (hb : lenW d w.M P) (fin : ∀ n, P n → Q (.int n) w.H) :
    wpAny (model X.prog X.w) X.A (call (.builtin "len") us) (EP X pins σ Q) X.xe s := by
  unfold lenW at hb
  split at hb
  · exact call_len_str pins s σ w.H _ us Q I r ⟨_, by rw [rep_str hx], hb.1, fin _ hb.2⟩
  · obtain ⟨ds, h1, hb⟩ := hb
    obtain ⟨a, vs, rfl, hq, hr⟩ := rep_seq g hx h1
    exact call_len_seq pins s σ w.H _ us Q I r ⟨a, vs, rfl, hq, by rw [repL_len hr]; exact fin _ hb⟩
theorem data_seq_tuple {pins : List (Addr × Obj)} {s : Shared} {σ : L2.St} {w : Wd} (I : Inv X pins σ w.H s) {a : Addr} {vs us : List V} (h1 : SqL X.K w.H a vs) (h2 : SqT X.K w.H a us) : False := by
  obtain ⟨its, _, ⟨o1, n1, e1, c1, _⟩, _⟩ := I.list h1
  obtain ⟨its2, _, ⟨o2, e2, c2, _⟩, _⟩ := I.tuple h2
  rw [e1] at e2; cases e2
  rw [c1] at c2
  injection c2 with z
  exact absurd z (by decide)
theorem shown_leaf {p : PyData} {us : List Value} {x : V} {pins : List (Addr × Obj)} {s : Shared} {σ : L2.St} {w : Wd} {R : List Addr} {Q : VK} (c : Cok X) (I : Inv X pins σ w.H s) {d : D} (g : SimG X.K R w) (hx : Rep X.K R w x d) (hv : vw 4 w.M d = some p) (r : Vals [x] us)
    (h1 : p.showable = true) (h2 : p.depth ≤ 64) (h3 : p.shown.length ≤ sizeLine) (q : Q (.str p.shown) w.H) : wpAny (model X.prog X.w) X.A (call (.builtin "repr") us) (EP X pins σ Q) X.xe s := by
  obtain ⟨u, rfl, ru⟩ := vals1 r
  obtain ⟨as, hr, hn⟩ := vw_reads I c.sys g 4 hx hv ru
  have hu := c.un
  cases hr with
  | none =>
    have e : (PyData.none).shown = ("None" : Str) := by simp only [PyData.shown]
    rw [e] at q
    exact PySem.P.repr_of_none ⟨.str _, w.H, I.tok _, ⟨_, rfl⟩, q⟩
  | bool b =>
    have e : (PyData.bool b).shown = (if b then "True" else "False" : Str) := by simp only [PyData.shown]
    rw [e] at q
    exact PySem.P.repr_of_bool ⟨.str _, w.H, I.tok _, ⟨_, rfl⟩, q⟩
  | int i t =>
    have e : (PyData.int i).shown = ((toString i : String) : Str) := by simp only [PyData.shown]
    rw [e] at q
    exact PySem.P.repr_of_int (by simpa [PyData.showable] using h1) ⟨.str _, w.H, I.tok _, ⟨_, rfl⟩, q⟩
  | str z t =>
    have e : (PyData.str z).shown = reprText z := by simp only [PyData.shown]
    rw [e] at q h3
    exact PySem.P.repr_of_str ⟨.str _, w.H, I.tok _, ⟨_, rfl⟩, q⟩ h3
  | list k1 k2 k3 k4 => exact repr_of_reads' (.list k1 k2 k3 k4) h1 (fun _ => hn) c.gd (by omega) (fun _ _ e => e) (fun h' u tk hk => ⟨.str _, w.H, I.kept hk, ⟨_, rfl⟩, q⟩) h3
  | tuple k1 k2 k3 k4 => exact repr_of_reads' (.tuple k1 k2 k3 k4) h1 (fun _ => hn) c.gd (by omega) (fun _ _ e => e) (fun h' u tk hk => ⟨.str _, w.H, I.kept hk, ⟨_, rfl⟩, q⟩) h3
  | dict k1 k2 k3 k4 k5 => exact repr_of_reads' (.dict k1 k2 k3 k4 k5) h1 (fun _ => hn) c.gd (by omega) (fun _ _ e => e) (fun h' u tk hk => ⟨.str _, w.H, I.kept hk, ⟨_, rfl⟩, q⟩) h3

theorem each_of {w : Wd} {R : List Addr} {K : PySem.W.Frag} : ∀ {vs : List V} {ps : List PyData} {its : List Value}, PRepL K R w vs ps → Vals vs its → PySem.W.EachIs (fun (u : Value) (b : PyData × V) => RelV b.2 u) its (ps.zip vs)
  | _, _, _, .nil, .nil => .nil
  | _, _, _, .cons a b, .cons r t => .cons r (each_of b t)
theorem each_reads {pins : List (Addr × Obj)} {s : Shared} {σ : L2.St} {w : Wd} {R : List Addr} (I : Inv X pins σ w.H s) (hs : SysIn X) : ∀ {vs : List V} {ps : List PyData} {its : List Value}, PRepL X.K R w vs ps → Vals vs its →
    PySem.W.EachIs (fun (u : Value) (b : PyData × V) => ∃ as, Reads s.heap u b.1 as) its (ps.zip vs)
  | _, _, _, .nil, .nil => .nil
  | _, _, _, .cons a b, .cons r t => let ⟨as, h, _⟩ := prep_reads I hs a r; .cons ⟨as, h⟩ (each_reads I hs b t)
theorem each_vals : ∀ {bs : List (PyData × V)} {out : List Value}, PySem.W.EachIs (fun (u : Value) (b : PyData × V) => RelV b.2 u) out bs → Vals (bs.map (·.2)) out
  | _, _, .nil => .nil
  | _, _, .cons a t => .cons a (each_vals t)
theorem prepL_mem {w : Wd} {R : List Addr} {K : PySem.W.Frag} : ∀ {vs : List V} {ps : List PyData}, PRepL K R w vs ps → ∀ b, b ∈ ps.zip vs → PRep K R w b.2 b.1
  | _, _, .nil, _, h => by simp at h
  | _, _, .cons a t, b, h => by
    rw [List.zip_cons_cons] at h
    rcases List.mem_cons.mp h with e | h
    · rw [e]; exact a
    · exact prepL_mem t b h
theorem prepL_ofMem {w : Wd} {R : List Addr} {K : PySem.W.Frag} : ∀ {bs : List (PyData × V)}, (∀ b, b ∈ bs → PRep K R w b.2 b.1) → PRepL K R w (bs.map (·.2)) (bs.map (·.1))
  | [], _ => .nil
  | b :: bs, h => .cons (h b (List.mem_cons_self ..)) (prepL_ofMem fun c hc => h c (List.mem_cons_of_mem _ hc))
theorem cr_sortedD {pins : List (Addr × Obj)} {s : Shared} {σ : L2.St} {w : Wd} {R : List Addr} {Q : VK} (c : Cok X) (I : Inv X pins σ w.H s) (g : SimG X.K R w) {a : Addr} {vs : List V} {ps : List PyData} (hq : w.H a = some (.lst vs)) (hr : PRepL X.K R w vs ps) (hk : sortOk ps)
    (fin : Out X.K R w Q (.fl ((ps.mergeSort (PySem.W.dataLe false id)).map D.v)) w.M) : wpAny (model X.prog X.w) X.A (call (.builtin "sorted") [.ref a]) (EP X pins σ Q) X.xe s := by
  obtain ⟨its, rv, hl, hz⟩ := I.list (SqL.of hq)
  have hlen := hr.length
  have e1 : (ps.zip vs).map (·.1) = ps := List.map_fst_zip (by omega)
  have hu := c.un
  refine PySem.W.sorted_data (bs := ps.zip vs) (enc := fun b => b.1) (R := fun (u : Value) (b : PyData × V) => RelV b.2 u) hl.isList (each_of hr rv) (each_reads I c.sys hr rv) (by rw [e1]; exact hk.1) (by rw [e1]; exact hk.2.1)
    (by rw [List.length_zip]; omega) (fun b hb => ?_) fun out ho he => ?_
  · have q := hk.2.2 b.1 (List.of_mem_zip hb).1
    omega
  · obtain ⟨ep, he'⟩ := PyProof.Rows.sortedAll_at s.heap its out.toArray
    have e2 : ((ps.zip vs).mergeSort (PySem.W.dataLe false fun b => b.1)).map (·.1) = ps.mergeSort (PySem.W.dataLe false id) := by
      have q := PySem.W.sort_maps (r := PySem.W.dataLe false fun b : PyData × V => b.1) (s := PySem.W.dataLe false id) (fun b : PyData × V => b.1) (l := ps.zip vs) (fun _ _ _ _ => rfl)
      rw [q]
      exact congrArg (fun l => List.mergeSort l (PySem.W.dataLe false id)) e1
    have r2 : PRepL X.K R w (((ps.zip vs).mergeSort (PySem.W.dataLe false fun b => b.1)).map (·.2)) (ps.mergeSort (PySem.W.dataLe false id)) := by
      rw [← e2]
      exact prepL_ofMem fun b hb => prepL_mem hr b ((List.mergeSort_perm _ _).mem_iff.mp hb)
    have l2 : (((ps.zip vs).mergeSort (PySem.W.dataLe false fun b => b.1)).map (·.2)).length ≤ sizeLine := by
      rw [List.length_map, (List.mergeSort_perm _ _).length_eq, List.length_zip]; omega
    have hfree : w.H (s.heap.objs.size + 1) = none := I.hok.fresh (Nat.le_succ _)
    refine ⟨.ref _, upd w.H (s.heap.objs.size + 1) (.lst _), I.laid (t' := s.toks) (fun _ _ => PyProof.Rows.sortedAll_old) (Nat.le_succ _) ⟨l2, out.toArray.toList, ep, each_vals he, he'⟩, rfl, ?_⟩
    exact fin w _ _ (Le.refl w) rfl g (repL_of_prepL r2) hfree
theorem cr_bi (c : Cok X) (f : BI) : CallR X (biV f) (rBi X.K f) := by
  intro pins s σ H vs us Q I r h
  obtain ⟨R, w, ds, P, rfl, g, hv, hb, fin⟩ := h
  have out : ∀ {d : D} {v : V}, P (.val d) → Rep X.K R w v d → Q v w.H := fun {d v} p rr => fin _ p w v (Le.refl w) rfl g rr
  unfold biW at hb
  split at hb
  · obtain ⟨x, rfl, hx⟩ := repL_one hv
    exact cr_len I g r hx hb fun n p => out p (.int n)
  · obtain ⟨x, rfl, hx⟩ := repL_one hv
    exact call_abs pins s σ w.H _ us Q I r ⟨_, by rw [rep_int hx], out hb (.int _)⟩
  · obtain ⟨x, rfl, hx⟩ := repL_one hv
    obtain ⟨es, ns, h1, h2, hb⟩ := hb
    obtain ⟨a, zs, rfl, hq, hr⟩ := rep_seq g hx h1
    have e := repL_ints hr h2
    subst e
    rcases hq with hq | hq
    · exact cr_sum c.calm pins s σ w.H _ us Q I r ⟨a, ns, rfl, hq, out hb (.int _)⟩
    · obtain ⟨its, rv, ht, _⟩ := I.tuple hq
      rw [Vals.ref1 r]
      exact sum_tupI (I.ok.hd c.calm) (show s.heap.IsTuple a its.toArray from ht) rv.ints fun h' tk t' hk => ⟨.int _, w.H, I.kept hk, ⟨_, rfl⟩, out hb (.int _)⟩
  · obtain ⟨x, rfl, hx⟩ := repL_one hv
    obtain ⟨es, bs, h1, h2, hb⟩ := hb
    obtain ⟨a, zs, rfl, hq, hr⟩ := rep_lst g hx h1
    have e := repL_bools hr h2
    subst e
    exact cr_all c.calm pins s σ w.H _ us Q I r ⟨a, bs, rfl, SqL.of hq, out hb (.bl _)⟩
  · obtain ⟨x, rfl, hx⟩ := repL_one hv
    obtain ⟨es, bs, h1, h2, hb⟩ := hb
    obtain ⟨a, zs, rfl, hq, hr⟩ := rep_lst g hx h1
    have e := repL_bools hr h2
    subst e
    exact cr_any c.calm pins s σ w.H _ us Q I r ⟨a, bs, rfl, SqL.of hq, out hb (.bl _)⟩
  · obtain ⟨x, rfl, hx⟩ := repL_one hv
    exact call_int1 pins s σ w.H _ us Q I r (.inl ⟨_, by rw [rep_int hx], out hb (.int _)⟩)
  · obtain ⟨x, rfl, hx⟩ := repL_one hv
    exact call_int1 pins s σ w.H _ us Q I r (.inr ⟨_, by rw [rep_bool hx], out hb (.int _)⟩)
  · obtain ⟨x, rfl, hx⟩ := repL_one hv
    obtain ⟨es, ps, h1, h2, hb⟩ := hb
    obtain ⟨a, zs, rfl, hq, hr⟩ := rep_seq g hx h1
    have hp := repL_data hr h2
    rcases hq with hq | hq
    · exact call_tuple_of pins s σ w.H _ us Q I r ⟨a, zs, rfl, .inl ⟨hq, fun l hl => fin _ hb (w.lay l _) _ (le_lay hl) rfl (SimG.lay g hl) (rep_tup_new g hl hp)⟩⟩
    · exact call_tuple_of pins s σ w.H _ us Q I r ⟨a, zs, rfl, .inr ⟨hq, out hb (.tup hq hp)⟩⟩
  · obtain ⟨x, rfl, hx⟩ := repL_one hv
    obtain ⟨es, h1, hb⟩ := hb
    obtain ⟨a, zs, rfl, hq, hr⟩ := rep_seq g hx h1
    exact call_list_of pins s σ w.H _ us Q I r ⟨a, zs, rfl, hq, fun l hl => fin _ hb w _ l (Le.refl w) rfl g hr hl⟩
  · obtain ⟨x, rfl, hx⟩ := repL_one hv
    obtain ⟨es, ps, h1, h2, hk, hb⟩ := hb
    obtain ⟨a, zs, rfl, hq, hr⟩ := rep_lst g hx h1
    rw [Vals.ref1 r]
    exact cr_sortedD c I g hq (repL_data hr h2) hk (fin _ hb)
  · obtain ⟨x, rfl, hx⟩ := repL_one hv
    obtain ⟨p, h1, h2, h3, h4, hb⟩ := hb
    exact shown_leaf c I g hx h1 r h2 h3 h4 (out hb (.str _))
  · obtain ⟨x, y, rfl, hx, hy⟩ := repL_two hv
    exact call_max2 c.calm pins s σ w.H _ us Q I r ⟨_, _, by rw [rep_int hx, rep_int hy], out hb (.int _)⟩
  · obtain ⟨x, y, rfl, hx, hy⟩ := repL_two hv
    exact call_min2 c.calm pins s σ w.H _ us Q I r ⟨_, _, by rw [rep_int hx, rep_int hy], out hb (.int _)⟩
  · obtain ⟨x, rfl, hx⟩ := repL_one hv
    obtain ⟨es, ns, h1, h2, hne, hb⟩ := hb
    obtain ⟨a, zs, rfl, hq, hr⟩ := rep_lst g hx h1
    have e := repL_ints hr h2
    subst e
    exact cr_max c.calm pins s σ w.H _ us Q I r ⟨a, ns, rfl, SqL.of hq, hne, fun m m1 m2 => out (hb m m1 m2) (.int _)⟩
  · obtain ⟨x, rfl, hx⟩ := repL_one hv
    obtain ⟨es, ns, h1, h2, hne, hb⟩ := hb
    obtain ⟨a, zs, rfl, hq, hr⟩ := rep_lst g hx h1
    have e := repL_ints hr h2
    subst e
    exact cr_min c.calm pins s σ w.H _ us Q I r ⟨a, ns, rfl, SqL.of hq, hne, fun m m1 m2 => out (hb m m1 m2) (.int _)⟩
  · exact hb.elim
end
end Pd

namespace Pd
open PySem L2 PyProof.Rows

section
variable {X : Cx} {T : Tb} {EX : Xk} {a b c : Expr} {ia ib ic : E} {pos : Pos}
theorem se_var {i : Nat} {x : Str} (hN : X.N[i]? = some x) (hv : Vis X.env.scope x) (hd : (x == ("__debug__" : Str)) = false) (hcd : (x == ("__classdict__" : Str)) = false) : PE X (.Name x pos) (tR X.K T EX (.var i)) :=
  PE.imp (pe_var hN hv hd hcd) fun σ H Q ⟨R, env, w, P, e, sim, ev, fin⟩ => by
    subst e
    obtain ⟨d, h1, h2⟩ := ev
    obtain ⟨v, h3, h4⟩ := sim.vals i d h1
    exact ⟨v, h3, fin _ _ h2 w v (Le.refl w) rfl sim.g h4⟩
theorem se_cst {e : Expr} {v : V} {p : PyData} (h : PE X e (tC v)) (hr : ∀ (R : List Addr) (w : Wd), PRep X.K R w v p) : PE X e (tR X.K T EX (.cst p)) :=
  PE.imp h fun σ H Q ⟨R, env, w, P, e, sim, ev, fin⟩ => by
    subst e
    exact fin _ _ ev w v (Le.refl w) rfl sim.g (hr R w)
theorem se_bin {o : Operator} (ha : PE X a (tR X.K T EX ia)) (hb : PE X b (tR X.K T EX ib)) : PE X (.BinOp a o b pos) (tR X.K T EX (.bin o ia ib)) :=
  PE.imp (pe_op (op_bin o) ha hb) fun σ H Q ⟨R, env, w, P, e, sim, ev, fin⟩ => by
    subst e
    refine tR_val sim ev fun dx w1 x h1 l1 sim1 rx => ?_
    refine tR_val sim1 h1 fun dy w2 y h2 l2 sim2 ry => ?_
    exact ⟨R, w2, dx, dy, _, rfl, sim2.g, rx.mono l2, ry, h2, fun r pr => (fin r w2.M pr).le (l1.trans l2)⟩
theorem se_cmp {o : CmpOp} (k : Cok X) (ha : PE X a (tR X.K T EX ia)) (hb : PE X b (tR X.K T EX ib)) (hm : behindInMarks o b = false) : PE X (.Compare a [o] [b] pos) (tR X.K T EX (.cmp o ia ib)) :=
  PE.imp (pe_cmpR (op_cmp k.sys k.un o) ha hb hm) fun σ H Q ⟨R, env, w, P, e, sim, ev, fin⟩ => by
    subst e
    refine tR_val sim ev fun dx w1 x h1 l1 sim1 rx => ?_
    refine tR_val sim1 h1 fun dy w2 y h2 l2 sim2 ry => ?_
    exact ⟨R, w2, dx, dy, _, rfl, sim2.g, rx.mono l2, ry, h2, fun b pb => fin _ w2.M pb w2 _ (l1.trans l2) rfl sim2.g (.bl b)⟩
theorem st_cmp {o : CmpOp} (k : Cok X) (ha : PE X a (tR X.K T EX ia)) (hb : PE X b (tR X.K T EX ib)) (hm : behindInMarks o b = false) : PT X (.Compare a [o] [b] pos) (tT X.K T EX (.cmp o ia ib)) :=
  PT.imp (pt_cmpR (op_cmp k.sys k.un o) ha hb hm) fun σ H Q ⟨R, env, w, P, e, sim, ev, fin⟩ => by
    subst e
    refine tR_val sim ev fun dx w1 x h1 l1 sim1 rx => ?_
    refine tR_val sim1 h1 fun dy w2 y h2 l2 sim2 ry => ?_
    refine ⟨R, w2, dx, dy, _, rfl, sim2.g, rx.mono l2, ry, h2, fun b pb => ?_⟩
    obtain ⟨b', e1, pb⟩ := pb
    injection e1 with e1
    injection e1 with e1
    subst e1
    exact ⟨b, rfl, fin b w2.M w2 pb (l1.trans l2) rfl sim2.g⟩
theorem se_chain {o1 o2 : CmpOp} (k : Cok X) (ha : PE X a (tR X.K T EX ia)) (hb : PE X b (tR X.K T EX ib)) (hc : PE X c (tR X.K T EX ic)) (hm1 : behindInMarks o2 c = false) : PE X (.Compare a [o1, o2] [b, c] pos) (tR X.K T EX (.chain o1 o2 ia ib ic)) :=
  PE.imp (pe_chain (op_cmp k.sys k.un o1) (op_cmp k.sys k.un o2) ha hb hc hm1) fun σ H Q ⟨R, env, w, P, e, sim, ev, fin⟩ => by
    subst e
    refine tR_val sim ev fun dx w1 x h1 l1 sim1 rx => ?_
    refine tR_val sim1 h1 fun dy w2 y h2 l2 sim2 ry => ?_
    refine ⟨R, w2, dx, dy, _, rfl, sim2.g, rx.mono l2, ry, h2, fun b pb => ⟨b, rfl, ?_⟩⟩
    cases b with
    | true =>
      rw [if_pos rfl] at pb ⊢
      refine tR_val sim2 pb fun dz w3 z h3 l3 sim3 rz => ?_
      exact ⟨R, w3, dy, dz, _, rfl, sim3.g, ry.mono l3, rz, h3, fun b pb => fin _ w3.M pb w3 _ ((l1.trans l2).trans l3) rfl sim3.g (.bl b)⟩
    | false =>
      rw [if_neg Bool.false_ne_true] at pb ⊢
      exact fin _ w2.M pb w2 _ (l1.trans l2) rfl sim2.g (.bl _)
theorem st_chain {o1 o2 : CmpOp} (k : Cok X) (ha : PE X a (tR X.K T EX ia)) (hb : PE X b (tR X.K T EX ib)) (hc : PE X c (tR X.K T EX ic)) (hm1 : behindInMarks o2 c = false) : PT X (.Compare a [o1, o2] [b, c] pos) (tT X.K T EX (.chain o1 o2 ia ib ic)) :=
  PT.imp (pt_chain (op_cmp k.sys k.un o1) (op_cmp k.sys k.un o2) ha hb hc hm1) fun σ H Q ⟨R, env, w, P, e, sim, ev, fin⟩ => by
    subst e
    refine tR_val sim ev fun dx w1 x h1 l1 sim1 rx => ?_
    refine tR_val sim1 h1 fun dy w2 y h2 l2 sim2 ry => ?_
    refine ⟨R, w2, dx, dy, _, rfl, sim2.g, rx.mono l2, ry, h2, fun b pb => ⟨b, rfl, ?_⟩⟩
    cases b with
    | true =>
      rw [if_pos rfl] at pb ⊢
      refine tR_val sim2 pb fun dz w3 z h3 l3 sim3 rz => ?_
      refine ⟨R, w3, dy, dz, _, rfl, sim3.g, ry.mono l3, rz, h3, fun b pb => ?_⟩
      obtain ⟨b', e1, pb⟩ := pb
      injection e1 with e1
      injection e1 with e1
      subst e1
      exact ⟨b, rfl, fin b w3.M w3 pb ((l1.trans l2).trans l3) rfl sim3.g⟩
    | false =>
      rw [if_neg Bool.false_ne_true] at pb ⊢
      obtain ⟨b', e1, pb⟩ := pb
      injection e1 with e1
      injection e1 with e1
      subst e1
      exact ⟨false, rfl, fin false w2.M w2 pb (l1.trans l2) rfl sim2.g⟩
theorem rep_none {K : PySem.W.Frag} {R : List Addr} {w : Wd} {v : V} {d : D} (h : Rep K R w v d) : decide (v = V.non) = isNone d := by
  cases d with
  | v p => cases h <;> rfl
  | loc n => obtain ⟨a, e, _⟩ := h; subst e; rfl
theorem se_isN {j : Nat} {pos' : Pos} (ha : PE X a (tR X.K T EX ia)) : PE X (.Compare a [.Is] [.Constant .none j pos'] pos) (tR X.K T EX (.isN ia)) :=
  PE.imp (pe_cmp (pc_isN ha) rfl) fun σ H Q ⟨R, env, w, P, e, sim, ev, fin⟩ => by
    subst e
    refine tR_val sim ev fun dx w1 x h1 l1 sim1 rx => ?_
    rw [rep_none rx]
    exact fin _ w1.M h1 w1 _ l1 rfl sim1.g (.bl _)
theorem se_notN {j : Nat} {pos' : Pos} (ha : PE X a (tR X.K T EX ia)) : PE X (.Compare a [.IsNot] [.Constant .none j pos'] pos) (tR X.K T EX (.notN ia)) :=
  PE.imp (pe_cmp (pc_notN ha) rfl) fun σ H Q ⟨R, env, w, P, e, sim, ev, fin⟩ => by
    subst e
    refine tR_val sim ev fun dx w1 x h1 l1 sim1 rx => ?_
    rw [rep_none rx]
    exact fin _ w1.M h1 w1 _ l1 rfl sim1.g (.bl _)
theorem st_isN {j : Nat} {pos' : Pos} (ha : PE X a (tR X.K T EX ia)) : PT X (.Compare a [.Is] [.Constant .none j pos'] pos) (tT X.K T EX (.isN ia)) :=
  PT.imp (pt_cmp (pc_isN ha) rfl) fun σ H Q ⟨R, env, w, P, e, sim, ev, fin⟩ => by
    subst e
    refine tR_val sim ev fun dx w1 x h1 l1 sim1 rx => ?_
    obtain ⟨b, e1, h1⟩ := h1
    injection e1 with e1
    injection e1 with e1
    rw [rep_none rx]
    exact ⟨_, rfl, by rw [e1]; exact fin b w1.M w1 h1 l1 rfl sim1.g⟩
theorem st_notN {j : Nat} {pos' : Pos} (ha : PE X a (tR X.K T EX ia)) : PT X (.Compare a [.IsNot] [.Constant .none j pos'] pos) (tT X.K T EX (.notN ia)) :=
  PT.imp (pt_cmp (pc_notN ha) rfl) fun σ H Q ⟨R, env, w, P, e, sim, ev, fin⟩ => by
    subst e
    refine tR_val sim ev fun dx w1 x h1 l1 sim1 rx => ?_
    obtain ⟨b, e1, h1⟩ := h1
    injection e1 with e1
    injection e1 with e1
    rw [rep_none rx]
    exact ⟨_, rfl, by rw [e1]; exact fin b w1.M w1 h1 l1 rfl sim1.g⟩
theorem se_neg (ha : PE X a (tR X.K T EX ia)) : PE X (.UnaryOp .USub a pos) (tR X.K T EX (.un .USub ia)) :=
  PE.imp (pe_un un_neg ha) fun σ H Q ⟨R, env, w, P, e, sim, ev, fin⟩ => by
    subst e
    refine tR_val sim ev fun dx w1 x h1 l1 sim1 rx => ?_
    obtain ⟨i, rfl, h1⟩ := h1
    exact ⟨_, rep_int rx, fin _ w1.M h1 w1 _ l1 rfl sim1.g (.int _)⟩
theorem se_not (ha : PE X a (tR X.K T EX ia)) : PE X (.UnaryOp .Not a pos) (tR X.K T EX (.un .Not ia)) :=
  PE.imp (pe_not ha) fun σ H Q ⟨R, env, w, P, e, sim, ev, fin⟩ => by
    subst e
    refine tR_val sim ev fun dx w1 x h1 l1 sim1 rx => ?_
    obtain ⟨i, rfl, h1⟩ := h1
    exact ⟨_, rep_bool rx, fin _ w1.M h1 w1 _ l1 rfl sim1.g (.bl _)⟩
theorem bool_eq {P : Bool → Mem → Prop} : (fun (x : D) (M1 : Mem) => unW .Not x fun d => ∃ b, d = .v (.bool b) ∧ P b M1) = fun d M1 => ∃ b, d = .v (.bool b) ∧ P (!b) M1 := by
  funext x M1
  refine propext ⟨fun ⟨b, e, b', e', p⟩ => ?_, fun ⟨b, e, p⟩ => ⟨b, e, _, rfl, p⟩⟩
  injection e' with e'
  injection e' with e'
  exact ⟨b, e, by rw [e']; exact p⟩
theorem st_not (ha : PT X a (tT X.K T EX ia)) : PT X (.UnaryOp .Not a pos) (tT X.K T EX (.un .Not ia)) :=
  PT.imp (pt_not ha) fun σ H Q ⟨R, env, w, P, e, sim, ev, fin⟩ => by
    subst e
    have ev2 : evR T EX.ex ia env w.M (asVal fun x M1 => unW .Not x fun d => ∃ b, d = .v (.bool b) ∧ P b M1) := ev
    rw [bool_eq] at ev2
    exact ⟨R, env, w, fun b M' => P (!b) M', rfl, sim, ev2, fun b M' w' p l em g => fin (!b) M' w' p l em g⟩
theorem se_and (ha : PE X a (tR X.K T EX ia)) {r : List Expr} (hb : PE X (.BoolOp .And (b :: r) pos) (tR X.K T EX ib)) : PE X (.BoolOp .And (a :: b :: r) pos) (tR X.K T EX (.and ia ib)) :=
  PE.imp (pe_and ha hb) fun σ H Q ⟨R, env, w, P, e, sim, ev, fin⟩ => by
    subst e
    refine tR_val sim ev fun dx w1 x h1 l1 sim1 rx => ?_
    obtain ⟨k, rfl, h1⟩ := h1
    refine ⟨k, rep_bool rx, ?_⟩
    cases k with
    | true =>
      rw [if_pos rfl] at h1 ⊢
      exact tR_of sim1 h1 fun r M' p => (fin r M' p).le l1
    | false =>
      rw [if_neg Bool.false_ne_true] at h1 ⊢
      exact fin _ w1.M h1 w1 _ l1 rfl sim1.g (.bl _)
theorem se_or (ha : PE X a (tR X.K T EX ia)) {r : List Expr} (hb : PE X (.BoolOp .Or (b :: r) pos) (tR X.K T EX ib)) : PE X (.BoolOp .Or (a :: b :: r) pos) (tR X.K T EX (.or ia ib)) :=
  PE.imp (pe_or ha hb) fun σ H Q ⟨R, env, w, P, e, sim, ev, fin⟩ => by
    subst e
    refine tR_val sim ev fun dx w1 x h1 l1 sim1 rx => ?_
    obtain ⟨k, rfl, h1⟩ := h1
    refine ⟨k, rep_bool rx, ?_⟩
    cases k with
    | true =>
      rw [if_pos rfl] at h1 ⊢
      exact fin _ w1.M h1 w1 _ l1 rfl sim1.g (.bl _)
    | false =>
      rw [if_neg Bool.false_ne_true] at h1 ⊢
      exact tR_of sim1 h1 fun r M' p => (fin r M' p).le l1
theorem st_and (ha : PT X a (tT X.K T EX ia)) {r : List Expr} (hb : PW X (.BoolOp .And (b :: r) pos) (tT X.K T EX ib)) : PW X (.BoolOp .And (a :: b :: r) pos) (tT X.K T EX (.and ia ib)) :=
  ⟨fun wh pins s σ H Q I ⟨R, env, w, P, e, sim, ev, fin⟩ => (pw_and ha hb).run wh pins s σ H Q I (by
    subst e
    refine tT_of sim (P := fun c M1 => if c = true then evR T EX.ex ib env M1 (asVal fun d M1 => ∃ b, d = .v (.bool b) ∧ P b M1) else P false M1) ?_ fun c w1 h1 l1 sim1 => ?_
    · have ev2 : evR T EX.ex ia env w.M (asVal fun x M1 => ∃ c, x = .v (.bool c) ∧ if c = true then evR T EX.ex ib env M1 (asVal fun d M1 => ∃ b, d = .v (.bool b) ∧ P b M1) else (∃ b, D.v (.bool false) = .v (.bool b) ∧ P b M1)) := ev
      have e2 : (fun (x : D) (M1 : Mem) => ∃ c, x = .v (.bool c) ∧ if c = true then evR T EX.ex ib env M1 (asVal fun d M1 => ∃ b, d = .v (.bool b) ∧ P b M1) else (∃ b, D.v (.bool false) = .v (.bool b) ∧ P b M1)) =
          fun x M1 => ∃ c, x = .v (.bool c) ∧ if c = true then evR T EX.ex ib env M1 (asVal fun d M1 => ∃ b, d = .v (.bool b) ∧ P b M1) else P false M1 := by
        funext x M1
        simp
      rw [e2] at ev2
      exact ev2
    · cases c with
      | true =>
        rw [if_pos rfl] at h1 ⊢
        exact tT_of sim1 h1 fun b w2 p l2 sim2 => fin b w2.M w2 p (l1.trans l2) rfl sim2.g
      | false =>
        rw [if_neg Bool.false_ne_true] at h1 ⊢
        exact fin false w1.M w1 h1 l1 rfl sim1.g)⟩
theorem st_or (ha : PT X a (tT X.K T EX ia)) {r : List Expr} (hb : PW X (.BoolOp .Or (b :: r) pos) (tT X.K T EX ib)) : PW X (.BoolOp .Or (a :: b :: r) pos) (tT X.K T EX (.or ia ib)) :=
  ⟨fun wh pins s σ H Q I ⟨R, env, w, P, e, sim, ev, fin⟩ => (pw_or ha hb).run wh pins s σ H Q I (by
    subst e
    refine tT_of sim (P := fun c M1 => if c = true then P true M1 else evR T EX.ex ib env M1 (asVal fun d M1 => ∃ b, d = .v (.bool b) ∧ P b M1)) ?_ fun c w1 h1 l1 sim1 => ?_
    · have ev2 : evR T EX.ex ia env w.M (asVal fun x M1 => ∃ c, x = .v (.bool c) ∧ if c = true then (∃ b, D.v (.bool true) = .v (.bool b) ∧ P b M1) else evR T EX.ex ib env M1 (asVal fun d M1 => ∃ b, d = .v (.bool b) ∧ P b M1)) := ev
      have e2 : (fun (x : D) (M1 : Mem) => ∃ c, x = .v (.bool c) ∧ if c = true then (∃ b, D.v (.bool true) = .v (.bool b) ∧ P b M1) else evR T EX.ex ib env M1 (asVal fun d M1 => ∃ b, d = .v (.bool b) ∧ P b M1)) =
          fun x M1 => ∃ c, x = .v (.bool c) ∧ if c = true then P true M1 else evR T EX.ex ib env M1 (asVal fun d M1 => ∃ b, d = .v (.bool b) ∧ P b M1) := by
        funext x M1
        simp
      rw [e2] at ev2
      exact ev2
    · cases c with
      | true =>
        rw [if_pos rfl] at h1 ⊢
        exact fin true w1.M w1 h1 l1 rfl sim1.g
      | false =>
        rw [if_neg Bool.false_ne_true] at h1 ⊢
        exact tT_of sim1 h1 fun b w2 p l2 sim2 => fin b w2.M w2 p (l1.trans l2) rfl sim2.g)⟩
theorem st_val (ha : PE X a (tR X.K T EX ia)) (he : ∀ whole, isTrue a X.env whole = (do let v ← whole; standAt a.pos; holding [v] (truthy v))) : PT X a (tT X.K T EX ia) :=
  PT.imp (pt_val ha he) fun σ H Q ⟨R, env, w, P, e, sim, ev, fin⟩ => by
    subst e
    refine tR_val sim ev fun dx w1 x h1 l1 sim1 rx => ?_
    obtain ⟨b, rfl, h1⟩ := h1
    exact ⟨b, rep_bool rx, fin b w1.M w1 h1 l1 rfl sim1.g⟩
theorem se_ite (hc : PT X c (tT X.K T EX ic)) (ha : PE X a (tR X.K T EX ia)) (hb : PE X b (tR X.K T EX ib)) : PE X (.IfExp c a b pos) (tR X.K T EX (.ite ic ia ib)) :=
  PE.imp (pe_ifExp hc ha hb) fun σ H Q ⟨R, env, w, P, e, sim, ev, fin⟩ => by
    subst e
    have ev2 : evR T EX.ex ic env w.M (asVal fun x M1 => ∃ k, x = .v (.bool k) ∧ if k = true then evR T EX.ex ia env M1 P else evR T EX.ex ib env M1 P) := ev
    refine tT_of sim (P := fun k M1 => if k = true then evR T EX.ex ia env M1 P else evR T EX.ex ib env M1 P) ev2 fun k w1 h1 l1 sim1 => ?_
    cases k with
    | true =>
      rw [if_pos rfl] at h1 ⊢
      exact tR_of sim1 h1 fun r M' p => (fin r M' p).le l1
    | false =>
      rw [if_neg Bool.false_ne_true] at h1 ⊢
      exact tR_of sim1 h1 fun r M' p => (fin r M' p).le l1

theorem sl_nil : PA X [] (tL X.K T EX []) :=
  PA.imp pa_nil fun σ H Q ⟨R, env, w, P, e, sim, ev, fin⟩ => by
    subst e
    exact fin [] w.M w [] rfl ev (Le.refl w) rfl sim.g .nil
theorem sl_cons {es : List Expr} {ies : List E} (ha : PE X a (tR X.K T EX ia)) (hr : PA X es (tL X.K T EX ies)) (hs : starEach (a :: es) X.env = (false, eval a X.env) :: starEach es X.env) : PA X (a :: es) (tL X.K T EX (ia :: ies)) :=
  PA.imp (pa_cons ha hr hs) fun σ H Q ⟨R, env, w, P, e, sim, ev, fin⟩ => by
    subst e
    refine tR_val sim ev fun dx w1 x h1 l1 sim1 rx => ?_
    refine tL_len sim1 h1 fun ds w2 vs hl h2 l2 sim2 rs => ?_
    exact fin _ w2.M w2 _ (congrArg (· + 1) hl) h2 (l1.trans l2) rfl sim2.g (.cons (rx.mono l2) rs)
theorem se_tup {es : List Expr} {ies : List E} {x1 : Nat} (h : PA X es (tL X.K T EX ies)) : PE X (.Tuple es x1 pos) (tR X.K T EX (.tup ies)) :=
  PE.imp (pe_tup h) fun σ H Q ⟨R, env, w, P, e, sim, ev, fin⟩ => by
    subst e
    refine tL_of sim ev fun ds w1 vs h1 l1 sim1 rs => ?_
    obtain ⟨ps, h1, hz, h2⟩ := h1
    have rp := repL_data rs h1
    exact ⟨by rw [rp.length]; exact hz, fun p hp => fin _ w1.M h2 (w1.lay p _) _ (l1.trans (le_lay hp)) rfl (SimG.lay sim1.g hp) (rep_tup_new sim1.g hp rp)⟩
theorem se_lst {es : List Expr} {ies : List E} (h : PA X es (tL X.K T EX ies)) : PE X (.List es pos) (tR X.K T EX (.lst ies)) :=
  PE.imp (pe_lst h) fun σ H Q ⟨R, env, w, P, e, sim, ev, fin⟩ => by
    subst e
    refine tL_of sim ev fun ds w1 vs h1 l1 sim1 rs => ?_
    exact ⟨by rw [repL_len rs]; exact h1.1, fun p hp => fin _ w1.M h1.2 w1 vs p l1 rfl sim1.g rs hp⟩
theorem se_new {e : Expr} {ie : E} (h : PE X e (tR X.K T EX ie)) : PE X e (tR X.K T EX (.new ie)) :=
  PE.imp h fun σ H Q ⟨R, env, w, P, e, sim, ev, fin⟩ => by
    subst e
    refine tR_of sim ev fun r M' hr => ?_
    cases r with
    | val d => exact hr.elim
    | fl ds =>
      intro w' vs p l em g rs hp
      subst em
      obtain ⟨n, h1, h2⟩ := fresh_loc g
      have q := hr n h2
      have l2 := le_mk (K := X.K) (ob := .lst ds) (o := .lst vs) hp h1
      refine fin _ _ q (w'.mk' n (.lst ds) p (.lst vs)) (.ref p) (l.trans l2) rfl (SimG.mk' g hp h1 ⟨vs, show upd w'.H p _ p = _ from upd_same, RepL.mono l2 rs⟩) ⟨p, rfl, ?_⟩
      show (if n = n then some p else w'.io n) = some p
      rw [if_pos rfl]
    | fd kvs =>
      intro w' vs p l em g rs hp
      subst em
      obtain ⟨n, h1, h2⟩ := fresh_loc g
      have q := hr n h2
      have l2 := le_mk (K := X.K) (ob := .dct kvs) (o := .dK vs) hp h1
      refine fin _ _ q (w'.mk' n (.dct kvs) p (.dK vs)) (.ref p) (l.trans l2) rfl (SimG.mk' g hp h1 ⟨vs, show upd w'.H p _ p = _ from upd_same, Paired.mapP rs fun _ _ z => ⟨z.1, z.2.mono l2⟩⟩) ⟨p, rfl, ?_⟩
      show (if n = n then some p else w'.io n) = some p
      rw [if_pos rfl]
theorem se_ix (ha : PE X a (tR X.K T EX ia)) (hb : PE X b (tR X.K T EX ib)) (hs : PlainIx b) : PE X (.Subscript a b pos) (tR X.K T EX (.ix ia ib)) :=
  PE.imp (pe_ix ix_D ha hb hs) fun σ H Q ⟨R, env, w, P, e, sim, ev, fin⟩ => by
    subst e
    refine tR_val sim ev fun dx w1 x h1 l1 sim1 rx => ?_
    refine tR_val sim1 h1 fun dy w2 y h2 l2 sim2 ry => ?_
    exact ⟨R, w2, dx, dy, _, rfl, sim2.g, rx.mono l2, ry, h2, fun d v pd rd => fin _ w2.M pd w2 v (l1.trans l2) rfl sim2.g rd⟩
def tO (K : PySem.W.Frag) (T : Tb) (EX : Xk) (o : Option E) : TO := fun σ H Q => ∃ (R : List Addr) (env : Env) (w : Wd) (P : Option Int → Mem → Prop), w.H = H ∧ Sim K R EX env w σ ∧ evO T EX.ex o env w.M P ∧
  ∀ i M' w', P i M' → Le K w w' → w'.M = M' → SimG K R w' → Q i w'.H
theorem PO.imp {X : Cx} {e : Option Expr} {t u : TO} (h : PO X e t) (k : ∀ σ H Q, u σ H Q → t σ H Q) : PO X e u := ⟨fun pins s σ H Q I q => h.run pins s σ H Q I (k σ H Q q)⟩
theorem so_none : PO X none (tO X.K T EX none) := PO.imp po_none fun σ H Q ⟨R, env, w, P, e, sim, ev, fin⟩ => by
  subst e
  exact fin _ _ w ev (Le.refl w) rfl sim.g
theorem so_some (ha : PE X a (tR X.K T EX ia)) : PO X (some a) (tO X.K T EX (some ia)) := PO.imp (po_some ha) fun σ H Q ⟨R, env, w, P, e, sim, ev, fin⟩ => by
  subst e
  refine tR_val sim ev fun dx w1 x h1 l1 sim1 rx => ?_
  obtain ⟨i, rfl, h1⟩ := h1
  exact ⟨i, rep_int rx, fin _ _ w1 h1 l1 rfl sim1.g⟩
theorem tO_of {K : PySem.W.Frag} {R : List Addr} {env : Env} {w : Wd} {σ : L2.St} {o : Option E} {Q : Option Int → Hp → Prop} {P : Option Int → Mem → Prop} (s : Sim K R EX env w σ) (h : evO T EX.ex o env w.M P) (k : ∀ i w', P i w'.M → Le K w w' → Sim K R EX env w' σ → Q i w'.H) : tO K T EX o σ w.H Q :=
  ⟨R, env, w, P, rfl, s, h, fun b M' w' p l em g => k b w' (by rw [em]; exact p) l (s.move l g)⟩
theorem se_sl {lo hi : Option Expr} {il ih : Option E} {p2 : Pos} (ha : PE X a (tR X.K T EX ia)) (hl : PO X lo (tO X.K T EX il)) (hh : PO X hi (tO X.K T EX ih)) : PE X (.Subscript a (.Slice lo hi none p2) pos) (tR X.K T EX (.sl ia il ih)) :=
  PE.imp (pe_slice sl_D ha hl hh) fun σ H Q ⟨R, env, w, P, e, sim, ev, fin⟩ => by
    subst e
    refine tR_val sim ev fun dx w1 x h1 l1 sim1 rx => ?_
    refine tO_of sim1 h1 fun i w2 h2 l2 sim2 => ?_
    refine tO_of sim2 h2 fun j w3 h3 l3 sim3 => ?_
    exact ⟨R, w3, dx, _, rfl, sim3.g, rx.mono (l2.trans l3), h3, fun r pr => (fin r w3.M pr).le ((l1.trans l2).trans l3)⟩
theorem se_bi {f : BI} {x : Str} {p : Pos} {e : Expr} {es : List Expr} {ies : List E} (k : Cok X) (hg : Gl X x) (hm : X.mg x = none) (hv : bootBuiltins x = some (biV f)) (ha : PA X (e :: es) (tL X.K T EX ies)) (hn : x ≠ "__name__") (hdb : (x == ("__debug__" : Str)) = false)
    (he : starEach (e :: es) X.env = (false, eval e X.env) :: starEach es X.env) (hpl : (backTo pos (starEach es X.env)).any (·.1) = false) : PE X (.Call (.Name x p) (e :: es) [] pos) (tR X.K T EX (.bi f ies)) := by
  have main : PE X (.Call (.Name x p) (e :: es) [] pos) (tCB (rBi X.K f) (tL X.K T EX ies)) := by
    have c := cr_bi k f
    cases f <;> first
      | exact pe_callB c hg hm hv ha hn hdb he hpl
      | exact pe_callTy c hg hm hv ha hn hdb he hpl
  refine PE.imp main fun σ H Q ⟨R, env, w, P, e, sim, ev, fin⟩ => ?_
  subst e
  refine tL_of sim ev fun ds w1 vs h1 l1 sim1 rs => ?_
  exact ⟨R, w1, ds, _, rfl, sim1.g, rs, h1, fun r pr => (fin r w1.M pr).le l1⟩
theorem se_isi {Ts : String} {x y : Str} {p p2 : Pos} (hT : isOneOf Ts) (hg : Gl X x) (hm : X.mg x = none) (hv : bootBuiltins x = some (.builtin "isinstance")) (hg2 : Gl X y) (hm2 : X.mg y = none) (hv2 : bootBuiltins y = some (.type Ts)) (ha : PE X a (tR X.K T EX ia)) (hn : x ≠ "__name__") (hdb : (x == ("__debug__" : Str)) = false)
    (hn2 : y ≠ "__name__") (hdb2 : (y == ("__debug__" : Str)) = false) (he : starEach (a :: [.Name y p2]) X.env = (false, eval a X.env) :: starEach [.Name y p2] X.env) : PE X (.Call (.Name x p) (a :: [.Name y p2]) [] pos) (tR X.K T EX (.isi ia Ts)) :=
  PE.imp (pe_callB (cr_isi hT) hg hm hv (pa_cons ha (pa_cons (pe_bltn (v := .ty Ts) hg2 hm2 hv2 rfl hn2 hdb2) pa_nil rfl) he) hn hdb he rfl) fun σ H Q ⟨R, env, w, P, e, sim, ev, fin⟩ => by
    subst e
    refine tR_val sim ev fun dx w1 x h1 l1 sim1 rx => ?_
    exact ⟨R, w1, x, dx, _, rfl, rfl, sim1.g, rx, h1, fun b pb => fin _ w1.M pb w1 _ l1 rfl sim1.g (.bl b)⟩
end
end Pd

namespace Pd
open PySem L2 PyProof.Rows

/-- enumerate(v) begins, whatever v is -/
theorem meets_enum1 {v : Value} {o : Obj} {Hh : Heap → Prop} (B : Begins v o Hh) :
    Meets (Builtin.«enumerate.__new__» ⟨[.type "enumerate", v], []⟩) (fun _ R s => Hh s.heap ∧
      R (.ok (.ret (.ref (s.heap.push o).objs.size))) { s with heap := (s.heap.push o).push { cls := .type "enumerate", data := .fields #[.none, .bool false, .ref s.heap.objs.size, rawInt 0, .none, .none] } }) :=
  .of_wp fun prog w A R s hh => by
    obtain ⟨hp, gg, dd, tk, os⟩ := s; obtain ⟨z1, hh⟩ := hh
    have hsub := sub_enumerate
    have it1 : ∀ {A' : Around} {E : Value → Shared → Prop} {Q : Value → Shared → Prop}, Q (.ref hp.objs.size) ⟨hp.push o, gg, dd, tk, os⟩ → wpAny (model prog w) A' (pyIter v) Q E ⟨hp, gg, dd, tk, os⟩ :=
      fun q => B.iter prog w _ _ ⟨hp, gg, dd, tk, os⟩ _ z1 q
    wp_walk using it1
    refine wpAny_stack_any fun st => wpAny_pure ?_
    split
    · rename_i c _ _ _ _ _
      cases (c == Value.type "enumerate") <;> (wp_walk using it1; exact ⟨_, rfl, hh⟩)
    · wp_walk using it1
      exact ⟨_, rfl, hh⟩
theorem enum1 {prog : Program} {w : World} {A : Around} {E : Value → Shared → Prop} {s : Shared} {v : Value} {o : Obj} {Hh : Heap → Prop} {Q : Value → Shared → Prop} (B : Begins v o Hh) (z1 : Hh s.heap)
    (hq : ∀ h', IsEnum h' (s.heap.objs.size + 1) s.heap.objs.size 0 .none → h'.get? s.heap.objs.size = some o → (∀ b o', s.heap.get? b = some o' → h'.get? b = some o') → Q (.ref (s.heap.objs.size + 1)) { s with heap := h' }) :
    wpAny (model prog w) A (call (.type "enumerate") [v]) Q E s := by
  refine callType_new F.called_enumerate (by decide) (F.typeCall_enumerate_1 v) (F.newCall_enumerate_1 v) (fun obj => F.args_object_init_2 obj _) F.entry_enumerate_new (meets_enum1 B) ⟨z1, ?_⟩
  have sz : (s.heap.push o).objs.size = s.heap.objs.size + 1 := Heap.size_push ..
  have he := Heap.get?_push_size (s.heap.push o) (o := { cls := .type "enumerate", data := .fields #[.none, .bool false, .ref s.heap.objs.size, rawInt 0, .none, .none] }) rfl
  show _ ∧ _
  rw [sz] at he ⊢
  exact ⟨⟨_, he, rfl⟩, hq _ he (Heap.get?_push_of_some _ (Heap.get?_push_size _ B.free)) fun b o' q => Heap.get?_push_of_some _ (Heap.get?_push_of_some _ q)⟩

/-- a sequence: a tuple (true) or a list -/
def SqX (K : PySem.W.Frag) : Bool → Hp → Addr → List V → Prop
  | true => SqT K
  | false => SqL K
def IsSq : Bool → Heap → Addr → Array Value → Prop
  | true => Heap.IsTuple
  | false => Heap.IsList
def ItSt : Bool → Heap → Addr → Addr → Nat → Prop
  | true => Heap.IsTupleIter
  | false => Heap.IsListIter
def itObj (b : Bool) (a : Addr) : Obj := { cls := .type (if b then "tuple_iterator" else "list_iterator"), data := .fields #[.ref a, .int 0 0] }
section
variable {X : Cx} {pins : List (Addr × Obj)} {σ : L2.St} {s : Shared} {H : Hp} {a : Addr} {xs ys : List V} {b : Bool}
theorem sqX_items (I : Inv X pins σ H s) (h : SqX X.K b H a xs) : ∃ its : List Value, Vals xs its ∧ IsSq b s.heap a its.toArray ∧ xs.length ≤ sizeLine := by
  cases b with
  | true => obtain ⟨its, rv, p, z⟩ := I.tuple h; exact ⟨its, rv, p, z⟩
  | false => obtain ⟨its, rv, p, z⟩ := I.list h; exact ⟨its, rv, p.isList, z⟩
theorem sqX_inj (I : Inv X pins σ H s) (h : SqX X.K b H a xs) (h' : SqX X.K b H a ys) : xs = ys := by
  cases b with
  | true => exact I.tuple_inj h h'
  | false => exact I.list_inj h h'
theorem isSq_lt {h : Heap} {its : Array Value} (q : IsSq b h a its) : a < h.objs.size := by
  cases b with
  | true => obtain ⟨_, e, _⟩ := q; exact Heap.lt_size e
  | false => obtain ⟨_, e, _⟩ := q; exact Heap.lt_size e
theorem isSq_keep {h h' : Heap} {its : Array Value} (q : IsSq b h a its) (k : ∀ o, h.get? a = some o → h'.get? a = some o) : IsSq b h' a its := by
  cases b with
  | true => obtain ⟨o, e, r⟩ := q; exact ⟨o, k o e, r⟩
  | false => obtain ⟨o, e, r⟩ := q; exact ⟨o, k o e, r⟩
theorem itSt_keep {h h' : Heap} {it : Addr} {i : Nat} (q : ItSt b h it a i) (k : ∀ o, h.get? it = some o → h'.get? it = some o) : ItSt b h' it a i := by
  cases b with
  | true => obtain ⟨o, e, r⟩ := q; exact ⟨o, k o e, r⟩
  | false => obtain ⟨o, e, r⟩ := q; exact ⟨o, k o e, r⟩
theorem itSt_obj {h : Heap} {it : Addr} {i : Nat} (q : ItSt b h it a i) : ∃ o, h.get? it = some o ∧ ∀ v, o.data ≠ .cell v := by
  cases b with
  | true => obtain ⟨o, e, _, d⟩ := q; exact ⟨o, e, fun v z => by rw [d] at z; cases z⟩
  | false => obtain ⟨o, e, _, d⟩ := q; exact ⟨o, e, fun v z => by rw [d] at z; cases z⟩
theorem itSt_ne {h : Heap} {it : Addr} {i : Nat} {its : Array Value} (q : ItSt b h it a i) (r : IsSq b h a its) : a ≠ it := fun e => by
  cases b with
  | true =>
    obtain ⟨o, e1, c1, _⟩ := q
    obtain ⟨o2, e2, c2, _⟩ := r
    rw [e, e1] at e2; cases e2
    rw [c1] at c2
    injection c2 with z
    exact absurd z (by decide)
  | false =>
    obtain ⟨o, e1, c1, _⟩ := q
    obtain ⟨o2, e2, c2, _⟩ := r
    rw [e, e1] at e2; cases e2
    rw [c1] at c2
    injection c2 with z
    exact absurd z (by decide)
theorem draws_sq {prog : Program} {w : World} {A : Around} (hh : A.handled = none) (it l : Addr) (hne : l ≠ it) (items : Array Value) : Draws prog w A it [it, l] items.size (fun i v => items[i]? = some v) (fun i h => ItSt b h it l i ∧ IsSq b h l items) := by
  cases b with
  | true => exact Draws.tuple hh it l hne items
  | false => exact Draws.list hh it l hne items
theorem begins_sq (l : Addr) (items : Array Value) : Begins (.ref l) (itObj b l) fun h => IsSq b h l items := by
  cases b with
  | true => exact begins_tuple l items
  | false => exact begins_list l items
theorem itSt_begin {h : Heap} {it : Addr} (e : h.get? it = some (itObj b a)) : ItSt b h it a 0 := by
  cases b with
  | true => exact ⟨_, e, rfl, rfl⟩
  | false => exact ⟨_, e, rfl, rfl⟩
end

def Itx (K : PySem.W.Frag) (b : Bool) (a : Addr) : It := match b with
  | true => Itt K a
  | false => Itl K a
theorem turn_sq {P : Program} {w : World} {K : PySem.W.Frag} {tg : Expr} (b : Bool) (a it : Addr) : Turn P w K tg (Itx K b a) [it] it (fun i h => ItSt b h it a i) := by
  cases b with
  | true => exact turn_tuple a it
  | false => exact turn_list a it

def Iex (K : PySem.W.Frag) (b : Bool) (a : Addr) : It :=
  ⟨fun i H => ∃ (xs : List V) (x : V), SqX K b H a xs ∧ xs[i]? = some x, fun i H v H' => ∃ tp x, v = .ref tp ∧ H tp = none ∧ H' = upd H tp (.tup [.int (i : Nat), x]) ∧ ∀ xs, SqX K b H a xs → xs[i]? = some x, fun i H => ∃ xs : List V, SqX K b H a xs ∧ xs.length = i⟩
theorem turn_ex {P : Program} {w : World} {K : PySem.W.Frag} {elts : List Expr} {kk : Nat} {tpos : Pos} (b : Bool) (a e it : Addr) :
    Turn P w K (.Tuple elts kk tpos) (Iex K b a) [e, it] e (fun i h => (∃ old, IsEnum h e it ((i : Nat) : Int) old) ∧ ItSt b h it a i ∧ e ≠ it) where
  mem := List.mem_cons_self ..
  obj := fun i h st c hc => by
    obtain ⟨⟨old, he⟩, hi, _⟩ := st
    rcases List.mem_cons.mp hc with z | hc
    · rw [z]; exact ⟨_, he, fun v q => nomatch q⟩
    · rcases List.mem_cons.mp hc with z | hc
      · rw [z]; exact itSt_obj hi
      · cases hc
  keep := fun i h h' st k => ⟨st.1.elim fun old he => ⟨old, k e (List.mem_cons_self ..) _ he⟩, itSt_keep st.2.1 fun o q => k it (List.mem_cons_of_mem _ (List.mem_cons_self ..)) o q, st.2.2⟩
  item := by
    intro X hP hw hK hc i pins s σ H E I hf st hg
    subst hP hw hK
    obtain ⟨⟨old, he⟩, hit, hne⟩ := st
    obtain ⟨xs, x, hq, hx⟩ := hg
    obtain ⟨its, rv, p, hz⟩ := sqX_items I hq
    obtain ⟨u, hu, ru⟩ := rv.get hx
    have hel : e < s.heap.objs.size := Heap.lt_size he
    have hil : it < s.heap.objs.size := (itSt_obj hit).elim fun o q => Heap.lt_size q.1
    have nla := itSt_ne hit p
    have nea : e ≠ a := fun z => by
      cases b with
      | true =>
        obtain ⟨o2, e2, c2, _⟩ := p
        rw [← z, he] at e2; cases e2
        injection c2 with q
        exact absurd q (by decide)
      | false =>
        obtain ⟨o2, e2, c2, _⟩ := p
        rw [← z, he] at e2; cases e2
        injection c2 with q
        exact absurd q (by decide)
    refine wpAny_pyNext_enum_itemD (draws_sq (b := b) (show X.A.in1.handled = none from I.ok.hd hc) it a nla its.toArray) he ⟨hit, p⟩ (by have := (List.getElem?_eq_some_iff.mp hu).1; simpa using this) hne
      (by simp [hne, nea]) fun x' h' tk hx' ho st' hT hsz hk => ?_
    have ex : x' = u := by
      have q : its.toArray[i]? = some u := by simpa using hu
      rw [q] at hx'; exact (Option.some.inj hx').symm
    subst ex
    refine ⟨_, rfl, wpAny_letOwnedTupleGo_enum (s := { s with heap := h', toks := tk + 1 }) ho fun h'' he' sb => ?_⟩
    have hT2 := (sb.2 _ (Nat.ne_of_gt hel)).trans hT
    have new : ObjOk X.prog X.w (upd H s.heap.objs.size (.tup [.int (i : Nat), x])) h'' s.heap.objs.size (.tup [.int (i : Nat), x]) :=
      ⟨by show 2 ≤ sizeLine; decide, [.int i tk, x'], .cons ⟨_, rfl⟩ (.cons ru .nil), ⟨_, hT2, rfl, _, rfl⟩⟩
    have I1 : Inv X pins σ (upd H s.heap.objs.size (.tup [.int (i : Nat), x])) { s with heap := h'', toks := tk + 1 } :=
      I.turnedNew (ch := [e, it]) (fun c ob hb q => (sb.2 c fun z => hb (by rw [z]; exact List.mem_cons_self ..)).trans (hk c ob (fun z => hb (by rw [z]; exact List.mem_cons_self ..)) (fun z => hb (by rw [z]; exact List.mem_cons_of_mem _ (List.mem_cons_self ..))) q)) hf (Nat.le_refl _) new
    refine ⟨.ref s.heap.objs.size, _, I1, rfl, ⟨_, x, rfl, I.hok.fresh (Nat.le_refl _), rfl, fun zs hy => by rw [sqX_inj I hy hq]; exact hx⟩, ⟨⟨x', ?_⟩, itSt_keep st'.1 fun o q => (sb.2 it (Ne.symm hne)).trans q, hne⟩, fun c hb => ?_⟩
    · have e1 : ((i + 1 : Nat) : Int) = (i : Int) + 1 := Int.natCast_succ i
      rw [e1]; exact he'
    · have hb' : c < s.heap.objs.size := by
        rcases List.mem_cons.mp hb with z | hb2
        · rw [z]; exact hel
        · rcases List.mem_cons.mp hb2 with z | hb3
          · rw [z]; exact hil
          · cases hb3
      rw [upd_ne (Nat.ne_of_lt hb')]
      exact (hf c hb).1
  done := by
    intro X hP hw hK hc i pins s σ H E I hf st hg
    subst hP hw hK
    obtain ⟨⟨old, he⟩, hit, hne⟩ := st
    obtain ⟨xs, hq, hx⟩ := hg
    obtain ⟨its, rv, p, hz⟩ := sqX_items I hq
    have nla := itSt_ne hit p
    have hl := rv.length
    obtain ⟨f0, f1, f2, f3, f4, f5⟩ := hf it (List.mem_cons_of_mem _ (List.mem_cons_self ..))
    have en : its.toArray.size = i := by rw [List.size_toArray]; omega
    refine wpAny_pyNext_enum_endD (draws_sq (b := b) (show X.A.in1.handled = none from I.ok.hd hc) it a nla its.toArray) he (by rw [en]; exact ⟨hit, p⟩) fun h' eb => ⟨rfl, ?_⟩
    exact I.turned (t' := s.toks) (fun c o hb q => eb c o hb q) f0 f1 f3 f4 f5
  self := fun A i s Q E st hq => st.1.elim fun _ he => wpAny_pyIter_enum he hq

def Izx (K : PySem.W.Frag) (b1 b2 : Bool) (a1 a2 : Addr) : It :=
  ⟨fun i H => ∃ (xs ys : List V) (x y : V), SqX K b1 H a1 xs ∧ SqX K b2 H a2 ys ∧ xs[i]? = some x ∧ ys[i]? = some y,
    fun i H v H' => ∃ tp x y, v = .ref tp ∧ H tp = none ∧ H' = upd H tp (.tup [x, y]) ∧ (∀ xs, SqX K b1 H a1 xs → xs[i]? = some x) ∧ ∀ ys, SqX K b2 H a2 ys → ys[i]? = some y,
    fun i H => ∃ xs ys : List V, SqX K b1 H a1 xs ∧ SqX K b2 H a2 ys ∧ i ≤ xs.length ∧ i ≤ ys.length ∧ (i = xs.length ∨ i = ys.length)⟩
structure Zs (z TI TO i1 i2 : Addr) : Prop where
  TIz : TI ≠ z
  TOz : TO ≠ z
  TITO : TI ≠ TO
  TIi1 : TI ≠ i1
  TIi2 : TI ≠ i2
  zi1 : z ≠ i1
  zi2 : z ≠ i2
  Ti1 : TO ≠ i1
  Ti2 : TO ≠ i2
  ii : i1 ≠ i2
theorem isSq_cls {h : Heap} {a : Addr} {its : Array Value} {b : Bool} (q : IsSq b h a its) {c : Addr} {o : Obj} (e : h.get? c = some o) (n1 : o.cls ≠ .type "tuple") (n2 : o.cls ≠ .type "list") : c ≠ a := fun z => by
  cases b with
  | true => obtain ⟨o2, e2, c2, _⟩ := q; rw [← z, e] at e2; cases e2; exact n1 c2
  | false => obtain ⟨o2, e2, c2, _⟩ := q; rw [← z, e] at e2; cases e2; exact n2 c2
theorem itSt_cls {h : Heap} {it a : Addr} {i : Nat} {b : Bool} (q : ItSt b h it a i) : ∃ o, h.get? it = some o ∧ o.cls ≠ .type "tuple" ∧ o.cls ≠ .type "list" := by
  cases b with
  | true => obtain ⟨o, e, c, _⟩ := q; exact ⟨o, e, by rw [c]; intro z; injection z with z; exact absurd z (by decide), by rw [c]; intro z; injection z with z; exact absurd z (by decide)⟩
  | false => obtain ⟨o, e, c, _⟩ := q; exact ⟨o, e, by rw [c]; intro z; injection z with z; exact absurd z (by decide), by rw [c]; intro z; injection z with z; exact absurd z (by decide)⟩
end Pd

namespace Pd
open PySem L2 PyProof.Rows
structure Zp (z TI TO i1 i2 a1 a2 : Addr) : Prop where
  TIz : TI ≠ z
  TOz : TO ≠ z
  TITO : TI ≠ TO
  TIi1 : TI ≠ i1
  TIi2 : TI ≠ i2
  zi1 : z ≠ i1
  zi2 : z ≠ i2
  Ti1 : TO ≠ i1
  Ti2 : TO ≠ i2
  ii : i1 ≠ i2
  za1 : z ≠ a1
  za2 : z ≠ a2
  Ta1 : TO ≠ a1
  Ta2 : TO ≠ a2
  ia2 : i1 ≠ a2
  ia1 : i2 ≠ a1
theorem Zp.sep {z TI TO i1 i2 a1 a2 : Addr} (D : Zp z TI TO i1 i2 a1 a2) : ZipSep2 z TI TO i1 i2 [i1, a1] [i2, a2] :=
  ⟨D.TIz, D.TOz, D.TITO, D.TIi1, List.mem_cons_self .., by simp [D.zi1, D.za1], by simp [D.Ti1, D.Ta1], D.TIi2, List.mem_cons_self .., by simp [D.zi2, D.za2], by simp [D.Ti2, D.Ta2], by simp [D.ii, D.ia2], by simp [Ne.symm D.ii, D.ia1]⟩
theorem turn_zx {P : Program} {w : World} {K : PySem.W.Frag} {elts : List Expr} {kk : Nat} {tpos : Pos} {b1 b2 : Bool} {a1 a2 z TI TO i1 i2 : Addr} (D : Zp z TI TO i1 i2 a1 a2) :
    Turn P w K (.Tuple elts kk tpos) (Izx K b1 b2 a1 a2) [z, TI, TO, i1, i2] z (fun i h => IsZip h z TI TO .none ∧ IsTupOf2 h TI (.ref i1) (.ref i2) ∧ (∃ x y, IsTupOf2 h TO x y) ∧ ItSt b1 h i1 a1 i ∧ ItSt b2 h i2 a2 i) where
  mem := List.mem_cons_self ..
  obj := fun i h st c hc => by
    obtain ⟨hz, hTI, ⟨x, y, hTO⟩, h1, h2⟩ := st
    rcases List.mem_cons.mp hc with q | hc
    · rw [q]; exact ⟨_, hz, fun v q => nomatch q⟩
    · rcases List.mem_cons.mp hc with q | hc
      · rw [q]; exact ⟨_, hTI, fun v q => nomatch q⟩
      · rcases List.mem_cons.mp hc with q | hc
        · rw [q]; exact ⟨_, hTO, fun v q => nomatch q⟩
        · rcases List.mem_cons.mp hc with q | hc
          · rw [q]; exact itSt_obj h1
          · rcases List.mem_cons.mp hc with q | hc
            · rw [q]; exact itSt_obj h2
            · cases hc
  keep := fun i h h' st k => by
    obtain ⟨hz, hTI, ⟨x, y, hTO⟩, h1, h2⟩ := st
    exact ⟨k z (by simp) _ hz, k TI (by simp) _ hTI, ⟨x, y, k TO (by simp) _ hTO⟩, itSt_keep h1 fun o q => k i1 (by simp) o q, itSt_keep h2 fun o q => k i2 (by simp) o q⟩
  item := by
    intro X hP hw hK hc i pins s σ H E I hf st hg
    subst hP hw hK
    obtain ⟨hz, hTI, ⟨x0, y0, hTO⟩, h1, h2⟩ := st
    obtain ⟨xs, ys, x, y, hqx, hqy, hx, hy⟩ := hg
    obtain ⟨its, rv, p, _⟩ := sqX_items I hqx
    obtain ⟨its2, rv2, p2, _⟩ := sqX_items I hqy
    obtain ⟨u, hu, ru⟩ := rv.get hx
    obtain ⟨u2, hu2, ru2⟩ := rv2.get hy
    have hzl : z < s.heap.objs.size := Heap.lt_size hz
    have hh : X.A.in1.handled = none := I.ok.hd hc
    refine wpAny_pyNext_zipD2_item D.sep (draws_sq (b := b1) hh i1 a1 (itSt_ne h1 p) its.toArray) (draws_sq (b := b2) hh i2 a2 (itSt_ne h2 p2) its2.toArray) hz hTI hTO ⟨h1, p⟩ ⟨h2, p2⟩
      (by have := (List.getElem?_eq_some_iff.mp hu).1; simpa using this) (by have := (List.getElem?_eq_some_iff.mp hu2).1; simpa using this) fun v1 v2 h' tk e1 e2 z' TO' s1' s2' hT hsz hk => ?_
    have q1 : its.toArray[i]? = some u := by simpa using hu
    have q2 : its2.toArray[i]? = some u2 := by simpa using hu2
    rw [q1] at e1
    rw [q2] at e2
    have e1' := Option.some.inj e1
    have e2' := Option.some.inj e2
    subst e1' e2'
    refine ⟨_, rfl, wpAny_letOwnedTupleGo_zip (s := { s with heap := h', toks := tk }) z' fun h'' z'' sb => ?_⟩
    have hT2 := (sb.2 _ (Nat.ne_of_gt hzl)).trans hT
    have new : ObjOk X.prog X.w (upd H s.heap.objs.size (.tup [x, y])) h'' s.heap.objs.size (.tup [x, y]) :=
      ⟨by show 2 ≤ sizeLine; decide, [u, u2], .cons ru (.cons ru2 .nil), ⟨_, hT2, rfl, _, rfl⟩⟩
    have I1 : Inv X pins σ (upd H s.heap.objs.size (.tup [x, y])) { s with heap := h'', toks := tk } :=
      I.turnedNew (ch := [z, TI, TO, i1, i2]) (fun c o hb q => (sb.2 c (fun q' => hb (by simp [q']))).trans (hk c o (fun q' => hb (by simp [q'])) (fun q' => hb (by simp [q'])) (fun q' => hb (by simp [q'])) (fun q' => hb (by simp [q'])) q)) hf (Nat.le_refl _) new
    refine ⟨.ref s.heap.objs.size, _, I1, rfl, ⟨_, x, y, rfl, I.hok.fresh (Nat.le_refl _), rfl, fun l hl => by rw [sqX_inj I hl hqx]; exact hx, fun l hl => by rw [sqX_inj I hl hqy]; exact hy⟩, ⟨z'', ?_, ⟨u, u2, ?_⟩, ?_, ?_⟩, fun c hcm => ?_⟩
    · exact (sb.2 _ D.TIz).trans (hk _ _ D.TIz D.TITO D.TIi1 D.TIi2 hTI)
    · exact (sb.2 _ D.TOz).trans TO'
    · exact itSt_keep s1'.1 fun o q => (sb.2 _ (Ne.symm D.zi1)).trans q
    · exact itSt_keep s2'.1 fun o q => (sb.2 _ (Ne.symm D.zi2)).trans q
    · have hlt : c < s.heap.objs.size := by
        have all := (show ∀ c, c ∈ [z, TI, TO, i1, i2] → ∃ o, s.heap.get? c = some o from fun c hc => by
          rcases List.mem_cons.mp hc with q | hc
          · rw [q]; exact ⟨_, hz⟩
          · rcases List.mem_cons.mp hc with q | hc
            · rw [q]; exact ⟨_, hTI⟩
            · rcases List.mem_cons.mp hc with q | hc
              · rw [q]; exact ⟨_, hTO⟩
              · rcases List.mem_cons.mp hc with q | hc
                · rw [q]; exact (itSt_obj h1).elim fun o q => ⟨o, q.1⟩
                · rcases List.mem_cons.mp hc with q | hc
                  · rw [q]; exact (itSt_obj h2).elim fun o q => ⟨o, q.1⟩
                  · cases hc)
        exact (all c hcm).elim fun o q => Heap.lt_size q
      rw [upd_ne (Nat.ne_of_lt hlt)]
      exact (hf c hcm).1
  done := by
    intro X hP hw hK hc i pins s σ H E I hf st hg
    subst hP hw hK
    obtain ⟨hz, hTI, ⟨x0, y0, hTO⟩, h1, h2⟩ := st
    obtain ⟨xs, ys, hqx, hqy, le1, le2, hend⟩ := hg
    obtain ⟨its, rv, p, _⟩ := sqX_items I hqx
    obtain ⟨its2, rv2, p2, _⟩ := sqX_items I hqy
    have l1 := rv.length
    have l2 := rv2.length
    have hh : X.A.in1.handled = none := I.ok.hd hc
    refine wpAny_pyNext_zipD2_end D.sep (draws_sq (b := b1) hh i1 a1 (itSt_ne h1 p) its.toArray) (draws_sq (b := b2) hh i2 a2 (itSt_ne h2 p2) its2.toArray) hz hTI hTO ⟨h1, p⟩ ⟨h2, p2⟩
      (by rw [List.size_toArray]; omega) (by rw [List.size_toArray]; omega) (by rw [List.size_toArray, List.size_toArray]; omega) fun h' tk hk => ⟨rfl, ?_⟩
    exact I.turnedL (t' := tk) (ch := [z, TI, TO, i1, i2]) (fun c o hb q => hk c o (fun q' => hb (by simp [q'])) (fun q' => hb (by simp [q'])) (fun q' => hb (by simp [q'])) (fun q' => hb (by simp [q'])) q) hf
  self := fun A i s Q E st h => wpAny_pyIter_zip st.1 h

section
variable {X : Cx} {tg e e2 : Expr} {te te2 : TE} {p pos tpos : Pos} {elts : List Expr} {kk : Nat}
/-- the readings: x a list or a tuple -/
def iSq (K : PySem.W.Frag) (te : TE) : TI := fun σ H Rk => te σ H fun x H1 => ∃ (b : Bool) (a : Addr), x = .ref a ∧ (∃ xs, SqX K b H1 a xs) ∧ Rk (Itx K b a) H1
theorem pi_sq (he : PE X e te) : PI X tg e (iSq X.K te) := by
  refine ⟨fun pins s σ H Rk I h => ?_⟩
  refine thn (he.run pins s σ H _ I h) fun v s1 ⟨x, H1, I1, r1, b, a, ex, ⟨xs, hq⟩, q⟩ => ?_
  subst ex
  cases r1
  obtain ⟨its, rv, ps, hz⟩ := sqX_items I1 hq
  refine (begins_sq (b := b) a its.toArray).iter _ _ _ _ _ _ ps ?_
  refine ⟨s1.heap.objs.size, [s1.heap.objs.size], _, _, H1, rfl, I1.kept (t' := s1.toks) fun c o q => Heap.get?_push_of_some _ q, turn_sq b a _, itSt_begin (Heap.get?_push_size _ (by cases b <;> rfl)), fun c hc => ?_, q⟩
  have ec : c = s1.heap.objs.size := List.mem_singleton.mp hc
  rw [ec]
  exact I1.fpOk (Nat.le_refl _) (I1.hok.fresh (Nat.le_refl _))
def iEx (K : PySem.W.Frag) (te : TE) : TI := fun σ H Rk => te σ H fun x H1 => ∃ (b : Bool) (a : Addr), x = .ref a ∧ (∃ xs, SqX K b H1 a xs) ∧ Rk (Iex K b a) H1
theorem pi_ex (hg : Gl X "enumerate") (hm : X.mg "enumerate" = none) (ha : PA X [e] (tCons te tNil)) (hs : starEach [e] X.env = [(false, eval e X.env)]) : PI X (.Tuple elts kk tpos) (.Call (.Name "enumerate" p) [e] [] pos) (iEx X.K te) := by
  refine ⟨fun pins s σ H Rk I h => ?_⟩
  have h' : tCons te tNil σ H (fun vs H1 => ∃ x, vs = [x] ∧ ∃ (b : Bool) (a : Addr), x = .ref a ∧ (∃ xs, SqX X.K b H1 a xs) ∧ Rk (Iex X.K b a) H1) := by
    show te σ H fun x H1 => ∃ x', [x] = [x'] ∧ _
    have e1 : (fun (x : V) (H1 : Hp) => ∃ (b : Bool) (a : Addr), x = .ref a ∧ (∃ xs, SqX X.K b H1 a xs) ∧ Rk (Iex X.K b a) H1) = fun x H1 => ∃ x', [x] = [x'] ∧ ∃ (b : Bool) (a : Addr), x' = .ref a ∧ (∃ xs, SqX X.K b H1 a xs) ∧ Rk (Iex X.K b a) H1 := by
      funext x H1
      simp
    rw [← e1]
    exact h
  refine Call_ (ld_blt I hg hm boot_enumerate (PyProof.Rows.callWith_type1 (thn (ha.run pos pins s σ H _ I h') fun us s1 ⟨vs, H1, I1, r1, x, ev, b, a, ex, ⟨xs, hq⟩, q⟩ => ?_) hs rfl))
  subst ev ex
  obtain ⟨u, rfl, ru⟩ := vals1 r1
  cases ru
  obtain ⟨its, rv, ps, hz⟩ := sqX_items I1 hq
  refine enum1 (begins_sq (b := b) a its.toArray) ps fun h' he hi hk => wpAny_pyIter_enum he ?_
  have I2 : Inv X pins σ H1 { s1 with heap := h' } := I1.kept (t' := s1.toks) hk
  refine ⟨s1.heap.objs.size + 1, [s1.heap.objs.size + 1, s1.heap.objs.size], _, _, H1, rfl, I2, turn_ex b a _ _, ⟨⟨.none, he⟩, itSt_begin hi, Nat.succ_ne_self _⟩, fun c hc => ?_, q⟩
  have hle : s1.heap.objs.size ≤ c := by
    rcases List.mem_cons.mp hc with z | hc
    · rw [z]; exact Nat.le_succ _
    · rcases List.mem_cons.mp hc with z | hc
      · rw [z]; exact Nat.le_refl _
      · cases hc
  exact I1.fpOk hle (I1.hok.fresh hle)
def iZx (K : PySem.W.Frag) (ta : TA) : TI := fun σ H Rk => ta σ H fun vs H1 => ∃ (b1 b2 : Bool) (a1 a2 : Addr), vs = [.ref a1, .ref a2] ∧ (∃ xs, SqX K b1 H1 a1 xs) ∧ (∃ ys, SqX K b2 H1 a2 ys) ∧ Rk (Izx K b1 b2 a1 a2) H1
theorem pi_zx {ta : TA} (hg : Gl X "zip") (hm : X.mg "zip" = none) (ha : PA X [e, e2] ta) (hs : starEach [e, e2] X.env = (false, eval e X.env) :: starEach [e2] X.env) (hpl : (backTo pos (starEach [e2] X.env)).any (·.1) = false) :
    PI X (.Tuple elts kk tpos) (.Call (.Name "zip" p) [e, e2] [] pos) (iZx X.K ta) := by
  refine ⟨fun pins s σ H Rk I h => ?_⟩
  refine Call_ (ld_blt I hg hm PyProof.Rows.boot_zip (PyProof.Rows.callWith_type1 (thn (ha.run pos pins s σ H _ I h) fun us s1 ⟨vs, H1, I1, r1, b1, b2, a1, a2, ev, ⟨xs, hqx⟩, ⟨ys, hqy⟩, q⟩ => ?_) hs hpl))
  subst ev
  obtain ⟨u1, u2, rfl, r1, r2⟩ := vals2 r1
  cases r1
  cases r2
  obtain ⟨its, rv, p1, _⟩ := sqX_items I1 hqx
  obtain ⟨its2, rv2, p2, _⟩ := sqX_items I1 hqy
  have l1 := isSq_lt p1
  have l2 := isSq_lt p2
  refine zip_begins2 (begins_sq (b := b1) a1 its.toArray) (begins_sq (b := b2) a2 its2.toArray) p1 p2 fun h' hz hTI hTO h1 h2 hsz hk => wpAny_pyIter_zip hz ?_
  have I2 : Inv X pins σ H1 { s1 with heap := h' } := I1.kept (t' := s1.toks) hk
  generalize hN : s1.heap.objs.size = N at *
  have lt1 : (a1 : Nat) < N := l1
  have lt2 : (a2 : Nat) < N := l2
  have ap : ∀ (a i : Nat), a < N → N + i ≠ a := fun a i h => by omega
  have ne : ∀ (i j : Nat), i ≠ j → N + i ≠ N + j := fun i j h => by omega
  refine ⟨N + 4, [N + 4, N + 2, N + 3, N, N + 1], _, _, H1, rfl, I2, turn_zx (b1 := b1) (b2 := b2) ⟨ne 2 4 (by decide), ne 3 4 (by decide), ne 2 3 (by decide), ne 2 0 (by decide), ne 2 1 (by decide), ne 4 0 (by decide), ne 4 1 (by decide), ne 3 0 (by decide), ne 3 1 (by decide), ne 0 1 (by decide), ap _ 4 lt1, ap _ 4 lt2, ap _ 3 lt1, ap _ 3 lt2, ap _ 0 lt2, ap _ 1 lt1⟩,
    ⟨hz, hTI, ⟨_, _, hTO⟩, itSt_begin h1, itSt_begin h2⟩, fun c hc => ?_, q⟩
  have hle : s1.heap.objs.size ≤ c := by
    rw [hN]
    rcases List.mem_cons.mp hc with z | hc
    · rw [z]; exact Nat.le_add_right _ _
    · rcases List.mem_cons.mp hc with z | hc
      · rw [z]; exact Nat.le_add_right _ _
      · rcases List.mem_cons.mp hc with z | hc
        · rw [z]; exact Nat.le_add_right _ _
        · rcases List.mem_cons.mp hc with z | hc
          · rw [z]; exact Nat.le_refl _
          · rcases List.mem_cons.mp hc with z | hc
            · rw [z]; exact Nat.le_add_right _ _
            · cases hc
  exact I1.fpOk hle (I1.hok.fresh hle)
end
end Pd

namespace Pd
open PySem L2 PyProof.Rows

section
variable {prog : Program} {w : World} {A : Around} {E : Value → Shared → Prop} {s : Shared}
theorem rev_adjust (n : Nat) : Builtin.Slice.sliceAdjust none none (-1) (n : Int) = ((n : Int) - 1, -1) := by
  unfold Builtin.Slice.sliceAdjust
  simp
theorem rev_places (n : Nat) : Builtin.Slice.slicePlaces ((n : Int) - 1) (-1) (-1) = n := by
  unfold Builtin.Slice.slicePlaces
  simp
  omega
theorem rev_pick (xs : Array Value) : ((List.range xs.size).filterMap fun (m : Nat) => xs[(((xs.size : Int) - 1) + (m : Int) * (-1)).toNat]?).toArray = xs.toList.reverse.toArray := by
  have e := PySem.W.krv_pick xs
  congr 1
  apply List.ext_getElem?
  intro i
  have h1 : ∀ (l : List Nat), (∀ m, m ∈ l → m < xs.size) → l.filterMap (fun (m : Nat) => xs[(((xs.size : Int) - 1) + (m : Int) * (-1)).toNat]?) = l.map fun m => xs.toList.reverse[m]?.getD .none := by
    intro l
    induction l with
    | nil => intro _; rfl
    | cons m r ih =>
      intro h
      have hm := h m (List.mem_cons_self ..)
      have e1 : (((xs.size : Int) - 1) + (m : Int) * (-1)).toNat = xs.size - 1 - m := by omega
      have e2 : xs[xs.size - 1 - m]? = some (xs[xs.size - 1 - m]'(by omega)) := Array.getElem?_eq_getElem (by omega)
      have e3 : xs.toList.reverse[m]? = some (xs[xs.size - 1 - m]'(by omega)) := by
        rw [List.getElem?_reverse (by simpa using hm)]
        simp
      rw [List.filterMap_cons, e1, e2, List.map_cons, e3, ih fun k hk => h k (List.mem_cons_of_mem _ hk)]
      rfl
  rw [h1 _ fun m hm => List.mem_range.mp hm]
  rw [List.getElem?_map]
  by_cases hi : i < xs.size
  · rw [List.getElem?_range hi]
    have : i < xs.toList.reverse.length := by simpa using hi
    rw [List.getElem?_eq_getElem this]
    simp [hi]
  · have : xs.toList.reverse.length ≤ i := by simpa using Nat.le_of_not_lt hi
    rw [List.getElem?_eq_none this, List.getElem?_eq_none (by simpa using Nat.le_of_not_lt hi)]
    rfl
theorem rev_applied {sl : Addr} {vs : Value} {n : Nat} {Q : Int × Int × Nat → Shared → Prop} (hs : s.heap.IsSliceOf sl .none .none vs) (ps : IsPart vs (some (-1)))
    (h : Q ((n : Int) - 1, -1, n) s) : wpAny (model prog w) A (Builtin.Slice.sliceApplied (.ref sl) (pure (n : Int))) Q E s := by
  obtain ⟨os, hos, hcs, hds⟩ := id hs
  unfold Builtin.Slice.sliceApplied Builtin.Slice.sliceFields
  refine wpAny_bind (wpAny_bind (wpAny_field hos hds (x := .none) rfl (wpAny_bind (wpAny_field hos hds (x := .none) rfl (wpAny_bind (wpAny_field hos hds (x := vs) rfl (wpAny_pure ?_)))))))
  refine wpAny_bind (HT.slicePart_ ps ?_)
  show wpAny _ _ (if ((-1 : Int) == 0) = true then _ else _) _ _ s
  rw [if_neg (by decide)]
  refine wpAny_bind (slicePart_none (wpAny_bind (slicePart_none (wpAny_bind (wpAny_pure ?_)))))
  show wpAny _ _ (match Builtin.Slice.sliceAdjust none none (-1) (n : Int) with | (lo, hi) => pure (lo, (-1 : Int), Builtin.Slice.slicePlaces lo hi (-1))) _ _ s
  rw [rev_adjust n]
  show wpAny _ _ (pure (((n : Int) - 1), (-1 : Int), Builtin.Slice.slicePlaces ((n : Int) - 1) (-1) (-1))) _ _ s
  rw [rev_places]
  exact wpAny_pure h
theorem rev_tuple {t sl : Addr} {items : Array Value} {vs : Value} {Q : Value → Shared → Prop} (ht : IsTup s.heap t items) (hs : s.heap.IsSliceOf sl .none .none vs) (ps : IsPart vs (some (-1)))
    (h : Q (.ref s.heap.objs.size) { s with heap := s.heap.push { cls := .type "tuple", data := .seq items.toList.reverse.toArray } })
    (hsz : items.size ≤ sizeLine) : wpAny (model prog w) A (getItem (.ref t) (.ref sl)) Q E s := by
  have htake : sizeOk (.seq items.toList.reverse.toArray) := by
    show items.toList.reverse.toArray.size ≤ sizeLine
    rw [List.size_toArray, List.length_reverse, Array.length_toList]
    exact hsz
  obtain ⟨os, hos, hcs, hds⟩ := id hs
  have hTs : s.TypeIs (.ref sl) "slice" := ⟨os, hos, hcs⟩
  unfold getItem
  try with_reducible refine wpAny_holding ?_
  first | refine wpAny_bind (wpAny_pure ?_) | skip
  refine wpAny_bind (wpAny_sequenceKey ht.typeIs (by decide) ?_)
  refine wpAny_bind (wpAny_callSpecial?_slot (name := Str.ofString "__getitem__") ht.typeIs PyProof.Rows.slot_tuple_getitem
    (wpAny_call_entry PyProof.Rows.slot_tuple_getitem ht.typeIs entry_tuple_getitem ?_ (args_tuple_getitem _ _)))
  show wpAny _ _ (Builtin.Tuple.tupleItemsOf (.ref t) >>= _) _ _ s
  refine wpAny_bind (tupleItemsOf_ ht (wpAny_bind (wpAny_typeOf hTs ?_)))
  rw [if_pos (by decide)]
  refine wpAny_bind (rev_applied hs ps ?_)
  have hno : ¬ ((((items.size : Int) - 1) == 0 && (-1 : Int) == 1 && items.size == items.size) = true) := by simp
  show wpAny _ _ (if (((items.size : Int) - 1) == 0 && (-1 : Int) == 1 && items.size == items.size) = true then _ else _) _ _ s
  rw [if_neg hno, rev_pick]
  first
    | exact wpAny_bind (m := Builtin.Tuple.tupleExact _) (wpAny_newObj_type (wpAny_pure ⟨_, rfl, wpAny_pure h⟩) htake)
    | exact wpAny_bind (m := Builtin.Tuple.tupleExact _) (wpAny_newObj_type (wpAny_bind (wpAny_pure (wpAny_pure ⟨_, rfl, wpAny_pure h⟩))) htake)
    | exact wpAny_bind (wpAny_bind (m := Builtin.Tuple.tupleExact _) (wpAny_newObj_type (wpAny_pure (wpAny_pure ⟨_, rfl, wpAny_pure h⟩)) htake))
    | exact wpAny_bind (wpAny_bind (m := Builtin.Tuple.tupleExact _) (wpAny_newObj_type (wpAny_pure ⟨_, rfl, wpAny_pure h⟩) htake))
end

section
variable {X : Cx} {T : Tb} {EX : Xk} {a b c : Expr} {ia ib ic : E} {pos : Pos}
theorem prepL_rev {K : PySem.W.Frag} {R : List Addr} {w : Wd} {vs : List V} {ps : List PyData} (h : PRepL K R w vs ps) : PRepL K R w vs.reverse ps.reverse := by
  have q := repL_rev (repL_of_prepL h)
  rw [← List.map_reverse] at q
  exact prepL_of_repL q
theorem se_rev {k : Nat} {p1 p2 p3 : Pos} (ha : PE X a (tR X.K T EX ia)) : PE X (.Subscript a (.Slice none none (some (.UnaryOp .USub (.Constant (.int 1) k p1) p2)) p3) pos) (tR X.K T EX (.rev ia)) := by
  refine ⟨fun pins s σ H Q I ⟨R, env, w, P, e, sim, ev, fin⟩ => ?_⟩
  subst e
  refine Subscript_ (thn (ha.run pins s σ w.H _ I (tR_val (Q := fun x H1 => ∃ (w1 : Wd) (d : D), w1.H = H1 ∧ Le X.K w w1 ∧ SimG X.K R w1 ∧ Rep X.K R w1 x d ∧ revW d w1.M fun r => P r w1.M) sim ev fun d w1 x h1 l1 sim1 rx => ⟨w1, d, rfl, l1, sim1.g, rx, h1⟩)) fun v s1 ⟨x, H1, I1, r1, w1, d, e1, l1, g, rx, h1⟩ => ?_)
  subst e1
  have hst : PO X (some (.UnaryOp .USub (.Constant (.int 1) k p1) p2)) (tPart (tUn (rU fun i => .int (-i)) (tC (.int 1)))) := po_some (pe_un un_neg pe_int)
  refine wpAny_Slice (thn (po_none.run pins s1 σ w1.H (fun o H2 => o = none ∧ H2 = w1.H) I1 ⟨rfl, rfl⟩) fun vl s2 ⟨l, H2, I2, pl, el, e2⟩ => ?_)
  subst el e2
  refine thn (po_none.run pins s2 σ w1.H (fun o H3 => o = none ∧ H3 = w1.H) I2 ⟨rfl, rfl⟩) fun vu s3 ⟨u, H3, I3, pu, eu, e3⟩ => ?_
  subst eu e3
  refine thn (hst.run pins s3 σ w1.H (fun o H4 => o = some (-1) ∧ H4 = w1.H) I3 ⟨1, rfl, -1, rfl, rfl, rfl⟩) fun vs s4 ⟨o, H4, I4, ps, eo, e4⟩ => ?_
  subst eo e4
  have I5 : Inv X pins σ w1.H { s4 with heap := s4.heap.push { cls := .type "slice", data := .fields #[vl, vu, vs] } } := I4.kept (t' := s4.toks) fun b ob q => Heap.get?_push_of_some _ q
  show wpAny (model X.prog X.w) X.A (subscriptTail a (.Slice none none (some (.UnaryOp .USub (.Constant (.int 1) k p1) p2)) p3) v (.ref s4.heap.objs.size)) (EP X pins σ Q) X.xe { s4 with heap := s4.heap.push { cls := .type "slice", data := .fields #[vl, vu, vs] } }
  unfold revW at h1
  split at h1
  · rename_i qs
    obtain ⟨a', zs, rfl, hq, hr⟩ := rep_tup rx
    have er : v = .ref a' := by cases r1; rfl
    subst er
    obtain ⟨its, r, ht, hz⟩ := I5.tuple hq
    have hlen := r.length
    cases pl
    cases pu
    refine tail_any (ops := [.ref a', .ref s4.heap.objs.size]) ht.typeIs (PyProof.Rows.slot_tuple_getitem.lookup) ?_ (by with_unfolding_all rfl)
    refine rev_tuple ht (Heap.IsSliceOf.new _ .none .none vs) ps ?_ (by rw [List.size_toArray]; omega)
    have et : its.toArray.toList = its := rfl
    rw [et]
    refine ⟨.ref _, _, I5.laid (t' := s4.toks) (o := .tup zs.reverse) (fun b ob q => Heap.get?_push_of_some _ q) (Nat.le_refl _) ?_, rfl, ?_⟩
    · exact ⟨by rw [List.length_reverse]; exact hz, its.reverse, r.reverse, IsTup.new _ _⟩
    · have hp := I5.hok.fresh (a := _) (Nat.le_refl _)
      exact fin _ w1.M h1 (w1.lay _ _) _ (l1.trans (le_lay hp)) rfl (SimG.lay g hp) (rep_tup_new g hp (prepL_rev hr))
  · obtain ⟨ds, h2, h1⟩ := h1
    obtain ⟨a', zs, rfl, hq, hr⟩ := rep_lst g rx h2
    have er : v = .ref a' := by cases r1; rfl
    subst er
    obtain ⟨its, r, ht, hz⟩ := I5.list (SqL.of hq)
    have hlen := r.length
    refine tail_any (ops := [.ref a', .ref s4.heap.objs.size]) ht.isList.typeIs (PySem.slot_list_getitem.lookup) ?_ (by with_unfolding_all rfl)
    refine wpAny_getItem_list_slice ht.isList (Heap.IsSliceOf.new _ vl vu vs) pl pu ps (by decide) ?_ (by rw [List.size_toArray]; omega)
    rw [PySem.W.krv_pick]
    refine ⟨.ref _, _, I5.laid (t' := s4.toks) (o := .lst zs.reverse) (fun b ob q => Heap.get?_push_of_some _ q) (Nat.le_refl _) ?_, rfl, ?_⟩
    · exact ⟨by rw [List.length_reverse]; exact hz, _, 0, r.reverse, Heap.get?_push_size _ rfl⟩
    · have hp := I5.hok.fresh (a := _) (Nat.le_refl _)
      exact fin _ w1.M h1 w1 zs.reverse _ l1 rfl g (repL_rev hr) hp

theorem se_mth {m : MT} {name : Str} {e : Expr} {es : List Expr} {ies : List E} {apos : Pos} (slot : Slot "list" name (mtId m)) (hty : typeOf (.builtin (mtId m)) = pure (.type "method_descriptor")) (ha : PE X a (tR X.K T EX ia)) (hr : PA X (e :: es) (tL X.K T EX ies))
    (hbase : attributeBase a name X.env (eval a X.env) = eval a X.env)
    (hfew : ((backTo pos (starEach (e :: es) X.env)).all (fun x => !x.1) && (backToKw pos (keywordEach [] X.env)).all (fun x => x.1.isSome)
      && decide ((e :: es).length + ([] : List Keyword).length + (if ([] : List Keyword).isEmpty then 0 else 1) < 30)) = true)
    (hline : (apos.endLine == pos.line) = true) (hs : starEach (e :: es) X.env = (false, eval e X.env) :: starEach es X.env) (hplain : (backTo pos (starEach es X.env)).any (·.1) = false) :
    PE X (.Call (.Attribute a name apos) (e :: es) [] pos) (tR X.K T EX (.mth m ia ies)) :=
  PE.imp (pe_bm F.plainAttrs_list slot hty (mt_D m) ha hr hbase hfew hline hs hplain) fun σ H Q ⟨R, env, w, P, e, sim, ev, fin⟩ => by
    subst e
    refine tR_val sim ev fun dx w1 x h1 l1 sim1 rx => ?_
    obtain ⟨hl, h1⟩ := h1
    obtain ⟨ds, hd⟩ := Option.isSome_iff_exists.mp hl
    obtain ⟨p, vs, rfl, hq, _⟩ := rep_lst sim1.g rx hd
    refine ⟨.inl ⟨rfl, vs, SqL.of hq⟩, ?_⟩
    refine tL_of sim1 h1 fun es w2 us h2 l2 sim2 rs => ?_
    exact ⟨R, w2, dx, es, _, rfl, sim2.g, rx.mono l2, rs, h2, fun d M' w' v p l em g r => fin _ M' p w' v ((l1.trans l2).trans l) em g r⟩
theorem se_mth0 {m : MT} {name : Str} {apos : Pos} (slot : Slot "list" name (mtId m)) (hty : typeOf (.builtin (mtId m)) = pure (.type "method_descriptor")) (ha : PE X a (tR X.K T EX ia))
    (hbase : attributeBase a name X.env (eval a X.env) = eval a X.env) (hline : (apos.endLine == pos.line) = true) :
    PE X (.Call (.Attribute a name apos) [] [] pos) (tR X.K T EX (.mth m ia [])) :=
  PE.imp (pe_bm0 F.plainAttrs_list slot hty (mt_D m) ha hbase hline) fun σ H Q ⟨R, env, w, P, e, sim, ev, fin⟩ => by
    subst e
    refine tR_val sim ev fun dx w1 x h1 l1 sim1 rx => ?_
    obtain ⟨hl, h1⟩ := h1
    obtain ⟨ds, hd⟩ := Option.isSome_iff_exists.mp hl
    obtain ⟨p, vs, rfl, hq, _⟩ := rep_lst sim1.g rx hd
    refine ⟨.inl ⟨rfl, vs, SqL.of hq⟩, ?_⟩
    have h1' : mtW m dx [] w1.M fun d M3 => P (.val d) M3 := h1
    exact ⟨R, w1, dx, [], (fun d M3 => P (.val d) M3), rfl, sim1.g, rx, .nil, h1', fun d M' w' v p l em g r => fin (.val d) M' p w' v (l1.trans l) em g r⟩
theorem se_dnew : PE X (.Dict [] [] pos) (tR X.K T EX .dnew) :=
  PE.imp pe_dnewK fun σ H Q ⟨R, env, w, P, e, sim, ev, fin⟩ => by
    subst e
    exact fun p hp => fin _ w.M ev w [] p (Le.refl w) rfl sim.g .nil hp
end
end Pd

namespace Pd
open PySem L2 PyProof.Rows

section
variable {K : PySem.W.Frag} {R R' : List Addr} {w w' : Wd}
/-- more is hidden -/
def Hid (R R' : List Addr) (w : Wd) : Prop := ∀ a, a ∈ R' → a ∈ R ∨ w.H a = none
theorem Hid.refl : Hid R R w := fun _ h => .inl h
theorem Hid.nb (h : Hid R R' w) {a : Addr} {o : HO} (e : w.H a = some o) (n : a ∉ R) : a ∉ R' := fun q => (h a q).elim n fun z => by rw [e] at z; cases z
mutual
theorem PRep.hide (h : Hid R R' w) : ∀ {v : V} {q : PyData}, PRep K R w v q → PRep K R' w v q
  | _, _, .non => .non
  | _, _, .bl b => .bl b
  | _, _, .int i => .int i
  | _, _, .str x => .str x
  | _, _, .tup e hs => .tup e (PRepL.hide h hs)
  | _, _, .lst e nl hr hs => .lst e nl (h.nb e hr) (PRepL.hide h hs)
  | _, _, .dct e nl hr q hs => .dct e nl (h.nb e hr) q (PRepL.hide h hs)
theorem PRepL.hide (h : Hid R R' w) : ∀ {vs : List V} {qs : List PyData}, PRepL K R w vs qs → PRepL K R' w vs qs
  | _, _, .nil => .nil
  | _, _, .cons a t => .cons (PRep.hide h a) (PRepL.hide h t)
end
theorem Rep.hide (h : Hid R R' w) {v : V} : ∀ {d : D}, Rep K R w v d → Rep K R' w v d
  | .v _, r => PRep.hide h r
  | .loc _, r => r
theorem RepL.hide (h : Hid R R' w) {vs : List V} {ds : List D} (r : RepL K R w vs ds) : RepL K R' w vs ds := Paired.mapP r fun _ _ => Rep.hide h
theorem ObRep.hide (h : Hid R R' w) {a : Addr} : ∀ {ob : Ob}, ObRep K R w a ob → ObRep K R' w a ob
  | .lst _, ⟨vs, e, r⟩ => ⟨vs, e, RepL.hide h r⟩
  | .dct _, ⟨vs, e, r⟩ => ⟨vs, e, Paired.mapP r fun _ _ q => ⟨q.1, q.2.hide h⟩⟩
  | .fz _, ⟨vs, e, r⟩ => ⟨vs, e, RepL.hide h r⟩
/-- less is hidden -/
theorem SimG.less (s : SimG K R w) (h : ∀ a, a ∈ R' → a ∈ R) : SimG K R' w :=
  ⟨s.inj, s.fin, fun n a e => ⟨(s.occ n a e).1, fun z => (s.occ n a e).2 (h a z)⟩, fun a e => s.hid a (h a e), fun n ob e => let ⟨a, h1, h2⟩ := s.obj n ob e; ⟨a, h1, h2.hide fun a q => .inl (h a q)⟩⟩

/-- a list or tuple, as it is read later on -/
theorem seq_at (g : SimG K R w) {x : V} {d : D} {ds : List D} (h : Rep K R w x d) (hd : seqOf w.M d = some ds) : ∃ (b : Bool) (a : Addr), x = .ref a ∧ ∀ (R' : List Addr) (w' : Wd), Hid R R' w → Le K w w' → SimG K R' w' →
    (∀ p, p ∈ guardOf w.M d → w'.M p.1 = some (.lst p.2) ∨ w'.M p.1 = some (.fz p.2)) → ∃ xs, SqX K b w'.H a xs ∧ RepL K R' w' xs ds := by
  cases d with
  | v p =>
    cases p with
    | list ps =>
      have e : ps.map D.v = ds := Option.some.inj hd
      subst e
      cases h with
      | lst h1 nl hr hs => exact ⟨false, _, rfl, fun R' w' hh l g' _ => ⟨_, SqL.of (l.keep _ _ h1 nl), repL_of_prepL ((hs.hide hh).mono l)⟩⟩
    | tuple ps =>
      have e : ps.map D.v = ds := Option.some.inj hd
      subst e
      cases h with
      | tup h1 hs => exact ⟨true, _, rfl, fun R' w' hh l g' _ => ⟨_, l.tups _ _ h1, repL_of_prepL ((hs.hide hh).mono l)⟩⟩
    | _ => cases hd
  | loc n =>
    obtain ⟨a, e, hi⟩ := h
    have hd' : (match w.M n with | some (.lst ds) => some ds | some (.fz ds) => some ds | _ => none) = some ds := hd
    have hg : (n, ds) ∈ guardOf w.M (.loc n) := by
      show (n, ds) ∈ (match w.M n with | some (.lst ds) => [(n, ds)] | some (.fz ds) => [(n, ds)] | _ => [])
      cases q : w.M n with
      | none => rw [q] at hd'; cases hd'
      | some ob => rw [q] at hd'; cases ob <;> first | (cases hd'; exact List.mem_singleton.mpr rfl) | cases hd'
    refine ⟨false, a, e, fun R' w' hh l g' hk => ?_⟩
    rcases hk (n, ds) hg with q | q
    · obtain ⟨b, hb, us, h1, h2⟩ := g'.obj n _ q
      rw [l.ext n a hi] at hb; cases hb
      exact ⟨us, SqL.of h1, h2⟩
    · obtain ⟨b, hb, us, h1, h2⟩ := g'.obj n _ q
      rw [l.ext n a hi] at hb; cases hb
      exact ⟨us, .inl h1, h2⟩

/-- an iterator hands on these items, as long as what it stands on stays -/
structure ItOk (K : PySem.W.Frag) (R : List Addr) (w : Wd) (J : It) (g : Its) : Prop where
  go : ∀ (R' : List Addr) (w' : Wd), Hid R R' w → Le K w w' → SimG K R' w' → g.ok w'.M → ∀ (i : Nat) (d : D), g.xs[i]? = some d → J.go i w'.H ∧ ∀ x H', J.yld i w'.H x H' → ∃ w'', w''.H = H' ∧ Le K w' w'' ∧ w''.M = w'.M ∧ SimG K R' w'' ∧ Rep K R' w'' x d
  stop : ∀ (R' : List Addr) (w' : Wd), Hid R R' w → Le K w w' → SimG K R' w' → g.ok w'.M → J.stop g.xs.length w'.H

theorem it_sq {b : Bool} {a : Addr} {d : D} {ds : List D} (M : Mem) (h : ∀ (R' : List Addr) (w' : Wd), Hid R R' w → Le K w w' → SimG K R' w' → (∀ p, p ∈ guardOf M d → w'.M p.1 = some (.lst p.2) ∨ w'.M p.1 = some (.fz p.2)) → ∃ xs, SqX K b w'.H a xs ∧ RepL K R' w' xs ds) :
    ItOk K R w (Itx K b a) ⟨ds, guardOf M d⟩ := by
  refine ⟨fun R' w' hh l g hk i d hd => ?_, fun R' w' hh l g hk => ?_⟩
  · obtain ⟨xs, h1, h2⟩ := h R' w' hh l g hk
    obtain ⟨v, h3, h4⟩ := repL_get h2 hd
    cases b with
    | true => exact ⟨⟨xs, v, h1, h3⟩, fun x H' ⟨e, y⟩ => ⟨w', e.symm, Le.refl w', rfl, g, by have q := y xs h1; rw [h3] at q; rw [← Option.some.inj q]; exact h4⟩⟩
    | false => exact ⟨⟨xs, v, h1, h3⟩, fun x H' ⟨e, y⟩ => ⟨w', e.symm, Le.refl w', rfl, g, by have q := y xs h1; rw [h3] at q; rw [← Option.some.inj q]; exact h4⟩⟩
  · obtain ⟨xs, h1, h2⟩ := h R' w' hh l g hk
    have e := repL_len h2
    cases b with
    | true => exact ⟨xs, h1, Nat.le_of_eq e⟩
    | false => exact ⟨xs, h1, Nat.le_of_eq e⟩
theorem enumFrom_get : ∀ {ds : List D} {k : Nat} {ps : List PyData} {i : Nat} {t : PyData}, enumFrom k ds = some ps → ps[i]? = some t → ∃ p, t = .tuple [.int ((k + i : Nat) : Int), p] ∧ ds[i]? = some (.v p)
  | [], k, ps, i, t, h, e => by
    have h' : ([] : List PyData) = ps := Option.some.inj h
    subst h'; simp at e
  | .loc _ :: _, _, _, _, _, h, _ => by cases h
  | .v p :: r, k, ps, i, t, h, e => by
    obtain ⟨qs, h1, h2⟩ := Option.map_eq_some_iff.mp (show (enumFrom (k + 1) r).map _ = some ps from h)
    subst h2
    cases i with
    | zero => simp at e; subst e; exact ⟨p, rfl, rfl⟩
    | succ i =>
      obtain ⟨q, h3, h4⟩ := enumFrom_get h1 (by simpa using e)
      exact ⟨q, by rw [h3]; congr 3; omega, by simpa using h4⟩
theorem enumFrom_len : ∀ {ds : List D} {k : Nat} {ps : List PyData}, enumFrom k ds = some ps → ps.length = ds.length
  | [], k, ps, h => by
    have h' : ([] : List PyData) = ps := Option.some.inj h
    subst h'; rfl
  | .loc _ :: _, _, _, h => by cases h
  | .v p :: r, k, ps, h => by
    obtain ⟨qs, h1, h2⟩ := Option.map_eq_some_iff.mp (show (enumFrom (k + 1) r).map _ = some ps from h)
    subst h2
    exact congrArg (· + 1) (enumFrom_len h1)
theorem it_ex {b : Bool} {a : Addr} {d : D} {ds : List D} {ps : List PyData} (M : Mem) (h : ∀ (R' : List Addr) (w' : Wd), Hid R R' w → Le K w w' → SimG K R' w' → (∀ p, p ∈ guardOf M d → w'.M p.1 = some (.lst p.2) ∨ w'.M p.1 = some (.fz p.2)) → ∃ xs, SqX K b w'.H a xs ∧ RepL K R' w' xs ds)
    (he : enumFrom 0 ds = some ps) : ItOk K R w (Iex K b a) ⟨ps.map D.v, guardOf M d⟩ := by
  refine ⟨fun R' w' hh l g hk i d hd => ?_, fun R' w' hh l g hk => ?_⟩
  · obtain ⟨xs, h1, h2⟩ := h R' w' hh l g hk
    have hd : (ps.map D.v)[i]? = some d := hd
    rw [List.getElem?_map] at hd
    obtain ⟨t, ht, rfl⟩ := Option.map_eq_some_iff.mp hd
    obtain ⟨p, rfl, hp⟩ := enumFrom_get he ht
    rw [Nat.zero_add]
    obtain ⟨v, h3, h4⟩ := repL_get h2 hp
    refine ⟨⟨xs, v, h1, h3⟩, fun x H' ⟨tp, y, e1, e2, e3, e4⟩ => ?_⟩
    subst e1 e3
    have q := e4 xs h1
    rw [h3] at q; cases q
    exact ⟨w'.lay tp _, rfl, le_lay e2, rfl, SimG.lay g e2, rep_tup_new g e2 (.cons (.int _) (.cons h4 .nil))⟩
  · obtain ⟨xs, h1, h2⟩ := h R' w' hh l g hk
    refine ⟨xs, h1, ?_⟩
    show xs.length = (ps.map D.v).length
    rw [List.length_map, enumFrom_len he, repL_len h2]
theorem zipP_get : ∀ {ds es : List D} {ps : List PyData} {i : Nat} {t : PyData}, zipP ds es = some ps → ps[i]? = some t → ∃ p q, t = .tuple [p, q] ∧ ds[i]? = some (.v p) ∧ es[i]? = some (.v q)
  | [], _, ps, i, t, h, e => by
    have h' : ([] : List PyData) = ps := by cases h; rfl
    subst h'; simp at e
  | d :: _, [], ps, i, t, h, e => by
    have h' : ([] : List PyData) = ps := by cases d <;> (cases h; rfl)
    subst h'; simp at e
  | .loc _ :: _, _ :: _, _, _, _, h, _ => by cases h
  | .v _ :: _, .loc _ :: _, _, _, _, h, _ => by cases h
  | .v p :: r, .v q :: s, ps, i, t, h, e => by
    obtain ⟨qs, h1, h2⟩ := Option.map_eq_some_iff.mp (show (zipP r s).map _ = some ps from h)
    subst h2
    cases i with
    | zero => simp at e; subst e; exact ⟨p, q, rfl, rfl, rfl⟩
    | succ i =>
      obtain ⟨p', q', h3, h4, h5⟩ := zipP_get h1 (by simpa using e)
      exact ⟨p', q', h3, by simpa using h4, by simpa using h5⟩
theorem zipP_len : ∀ {ds es : List D} {ps : List PyData}, zipP ds es = some ps → ps.length = min ds.length es.length
  | [], _, ps, h => by
    have h' : ([] : List PyData) = ps := by cases h; rfl
    subst h'; simp
  | d :: _, [], ps, h => by
    have h' : ([] : List PyData) = ps := by cases d <;> (cases h; rfl)
    subst h'; simp
  | .loc _ :: _, _ :: _, _, h => by cases h
  | .v _ :: _, .loc _ :: _, _, h => by cases h
  | .v p :: r, .v q :: s, ps, h => by
    obtain ⟨qs, h1, h2⟩ := Option.map_eq_some_iff.mp (show (zipP r s).map _ = some ps from h)
    subst h2
    have := zipP_len h1
    simp only [List.length_cons]
    omega
theorem it_zx {b1 b2 : Bool} {a1 a2 : Addr} {d1 d2 : D} {ds es : List D} {ps : List PyData} (M : Mem) (h : ∀ (R' : List Addr) (w' : Wd), Hid R R' w → Le K w w' → SimG K R' w' → (∀ p, p ∈ guardOf M d1 → w'.M p.1 = some (.lst p.2) ∨ w'.M p.1 = some (.fz p.2)) → ∃ xs, SqX K b1 w'.H a1 xs ∧ RepL K R' w' xs ds)
    (k : ∀ (R' : List Addr) (w' : Wd), Hid R R' w → Le K w w' → SimG K R' w' → (∀ p, p ∈ guardOf M d2 → w'.M p.1 = some (.lst p.2) ∨ w'.M p.1 = some (.fz p.2)) → ∃ xs, SqX K b2 w'.H a2 xs ∧ RepL K R' w' xs es)
    (he : zipP ds es = some ps) : ItOk K R w (Izx K b1 b2 a1 a2) ⟨ps.map D.v, guardOf M d1 ++ guardOf M d2⟩ := by
  refine ⟨fun R' w' hh l g hk i d hd => ?_, fun R' w' hh l g hk => ?_⟩
  · obtain ⟨xs, h1, h2⟩ := h R' w' hh l g fun p hp => hk p (List.mem_append_left _ hp)
    obtain ⟨ys, k1, k2⟩ := k R' w' hh l g fun p hp => hk p (List.mem_append_right _ hp)
    have hd : (ps.map D.v)[i]? = some d := hd
    rw [List.getElem?_map] at hd
    obtain ⟨t, ht, rfl⟩ := Option.map_eq_some_iff.mp hd
    obtain ⟨p, q, rfl, hp, hq⟩ := zipP_get he ht
    obtain ⟨v, h3, h4⟩ := repL_get h2 hp
    obtain ⟨u, k3, k4⟩ := repL_get k2 hq
    refine ⟨⟨xs, ys, v, u, h1, k1, h3, k3⟩, fun x H' ⟨tp, y, z, e1, e2, e3, e4, e5⟩ => ?_⟩
    subst e1 e3
    have q1 := e4 xs h1
    rw [h3] at q1; cases q1
    have q2 := e5 ys k1
    rw [k3] at q2; cases q2
    exact ⟨w'.lay tp _, rfl, le_lay e2, rfl, SimG.lay g e2, rep_tup_new g e2 (.cons h4 (.cons k4 .nil))⟩
  · obtain ⟨xs, h1, h2⟩ := h R' w' hh l g fun p hp => hk p (List.mem_append_left _ hp)
    obtain ⟨ys, k1, k2⟩ := k R' w' hh l g fun p hp => hk p (List.mem_append_right _ hp)
    have e1 := repL_len h2
    have e2 := repL_len k2
    have e3 := zipP_len he
    refine ⟨xs, ys, h1, k1, ?_⟩
    show (ps.map D.v).length ≤ xs.length ∧ (ps.map D.v).length ≤ ys.length ∧ ((ps.map D.v).length = xs.length ∨ (ps.map D.v).length = ys.length)
    rw [List.length_map]
    omega
theorem it_rng {i : Int} {n : Nat} : ItOk K R w (Itr i n) ⟨(List.range n).map fun (k : Nat) => D.v (.int (i + k)), []⟩ := by
  refine ⟨fun R' w' hh l g hk m d hd => ?_, fun R' w' hh l g hk => ?_⟩
  · have hd : ((List.range n).map fun (k : Nat) => D.v (.int (i + k)))[m]? = some d := hd
    rw [List.getElem?_map] at hd
    obtain ⟨t, ht, rfl⟩ := Option.map_eq_some_iff.mp hd
    have hm : m < n := by
      have := (List.getElem?_eq_some_iff.mp ht).1
      simpa using this
    rw [List.getElem?_range hm] at ht
    cases ht
    exact ⟨hm, fun x H' ⟨e1, e2⟩ => ⟨w', e1.symm, Le.refl w', rfl, g, by rw [e2]; exact .int _⟩⟩
  · show n ≤ ((List.range n).map fun (k : Nat) => D.v (.int (i + k))).length
    simp
end

def tSrc (K : PySem.W.Frag) (T : Tb) (EX : Xk) (src : Src) : TI := fun σ H Rk => ∃ (R : List Addr) (env : Env) (w : Wd) (P : Its → Mem → Prop), w.H = H ∧ Sim K R EX env w σ ∧ evSrc T EX.ex src env w.M P ∧
  ∀ g w' J, P g w'.M → Le K w w' → SimG K R w' → ItOk K R w' J g → Rk J w'.H
theorem PI.imp {X : Cx} {tg e : Expr} {t u : TI} (h : PI X tg e t) (k : ∀ σ H Q, u σ H Q → t σ H Q) : PI X tg e u := ⟨fun pins s σ H Q I q => h.run pins s σ H Q I (k σ H Q q)⟩

section
variable {X : Cx} {T : Tb} {EX : Xk} {tg a b : Expr} {ia ib : E} {pos p tpos : Pos} {elts : List Expr} {kk : Nat}
theorem guard_self {M : Mem} {d : D} {p : Nat × List D} (hp : p ∈ guardOf M d) : M p.1 = some (.lst p.2) ∨ M p.1 = some (.fz p.2) := by
  cases d with
  | v _ => cases hp
  | loc n =>
    have hp : p ∈ (match M n with | some (.lst ds) => [(n, ds)] | some (.fz ds) => [(n, ds)] | _ => []) := hp
    cases qn : M n with
    | none => rw [qn] at hp; cases hp
    | some ob =>
      rw [qn] at hp
      cases ob with
      | lst zs => have := List.mem_singleton.mp hp; subst this; exact .inl qn
      | fz zs => have := List.mem_singleton.mp hp; subst this; exact .inr qn
      | dct _ => cases hp
theorem ss_seq (ha : PE X a (tR X.K T EX ia)) : PI X tg a (tSrc X.K T EX (.seq ia)) :=
  PI.imp (pi_sq ha) fun σ H Q ⟨R, env, w, P, e, sim, ev, fin⟩ => by
    subst e
    refine tR_val sim ev fun d w1 x h1 l1 sim1 rx => ?_
    obtain ⟨ds, h2, h1⟩ := h1
    obtain ⟨b, a', e, hq⟩ := seq_at sim1.g rx h2
    obtain ⟨xs, z, _⟩ := hq R w1 Hid.refl (Le.refl w1) sim1.g fun p hp => guard_self hp
    exact ⟨b, a', e, ⟨xs, z⟩, fin _ w1 _ h1 l1 sim1.g (it_sq w1.M hq)⟩
theorem ss_enum (hg : Gl X "enumerate") (hm : X.mg "enumerate" = none) (ha : PE X a (tR X.K T EX ia)) (hs : starEach [a] X.env = [(false, eval a X.env)]) : PI X (.Tuple elts kk tpos) (.Call (.Name "enumerate" p) [a] [] pos) (tSrc X.K T EX (.enum ia)) :=
  PI.imp (pi_ex hg hm (pa_cons ha pa_nil hs) hs) fun σ H Q ⟨R, env, w, P, e, sim, ev, fin⟩ => by
    subst e
    refine tR_val sim ev fun d w1 x h1 l1 sim1 rx => ?_
    obtain ⟨ds, ps, h2, h3, h1⟩ := h1
    obtain ⟨b, a', e, hq⟩ := seq_at sim1.g rx h2
    obtain ⟨xs, z, _⟩ := hq R w1 Hid.refl (Le.refl w1) sim1.g fun p hp => guard_self hp
    exact ⟨b, a', e, ⟨xs, z⟩, fin _ w1 _ h1 l1 sim1.g (it_ex w1.M hq h3)⟩
theorem ss_zip2 (hg : Gl X "zip") (hm : X.mg "zip" = none) (ha : PE X a (tR X.K T EX ia)) (hb : PE X b (tR X.K T EX ib)) (hs : starEach [a, b] X.env = (false, eval a X.env) :: starEach [b] X.env) (hs2 : starEach [b] X.env = (false, eval b X.env) :: starEach [] X.env) (hpl : (backTo pos (starEach [b] X.env)).any (·.1) = false) :
    PI X (.Tuple elts kk tpos) (.Call (.Name "zip" p) [a, b] [] pos) (tSrc X.K T EX (.zip2 ia ib)) :=
  PI.imp (pi_zx hg hm (pa_cons ha (pa_cons hb pa_nil hs2) hs) hs hpl) fun σ H Q ⟨R, env, w, P, e, sim, ev, fin⟩ => by
    subst e
    refine tR_val sim ev fun d1 w1 x h1 l1 sim1 rx => ?_
    refine tR_val sim1 h1 fun d2 w2 y h2 l2 sim2 ry => ?_
    obtain ⟨ds, es, ps, h3, h4, h5, h2⟩ := h2
    obtain ⟨b1, a1, e1, hq1⟩ := seq_at sim2.g (rx.mono l2) h3
    obtain ⟨b2, a2, e2, hq2⟩ := seq_at sim2.g ry h4
    obtain ⟨xs, z1, _⟩ := hq1 R w2 Hid.refl (Le.refl w2) sim2.g fun p hp => guard_self hp
    obtain ⟨ys, z2, _⟩ := hq2 R w2 Hid.refl (Le.refl w2) sim2.g fun p hp => guard_self hp
    exact ⟨b1, b2, a1, a2, by rw [e1, e2], ⟨xs, z1⟩, ⟨ys, z2⟩, fin _ w2 _ h2 (l1.trans l2) sim2.g (it_zx w2.M hq1 hq2 h5)⟩
theorem ss_rng1 (hg : Gl X "range") (hm : X.mg "range" = none) (ha : PE X a (tR X.K T EX ia)) (hs : starEach [a] X.env = [(false, eval a X.env)]) : PI X tg (.Call (.Name "range" p) [a] [] pos) (tSrc X.K T EX (.rng (.cst (.int 0)) ia)) :=
  PI.imp (pi_range1 hg hm (pa_cons ha pa_nil hs) hs) fun σ H Q ⟨R, env, w, P, e, sim, ev, fin⟩ => by
    subst e
    refine tR_val sim ev fun d w1 x h1 l1 sim1 rx => ?_
    obtain ⟨i, j, e1, rfl, hz, h1⟩ := h1
    injection e1 with e1
    injection e1 with e1
    subst e1
    refine ⟨j, by rw [rep_int rx], hz.2.2.1, hz.2.2.2, fin _ w1 _ h1 l1 sim1.g ?_⟩
    have q := it_rng (K := X.K) (R := R) (w := w1) (i := 0) (n := j.toNat)
    rw [Int.sub_zero]
    exact q
theorem ss_rng2 (hg : Gl X "range") (hm : X.mg "range" = none) (ha : PE X a (tR X.K T EX ia)) (hb : PE X b (tR X.K T EX ib)) (hs : starEach [a, b] X.env = [(false, eval a X.env), (false, eval b X.env)]) (hs2 : starEach [b] X.env = [(false, eval b X.env)]) :
    PI X tg (.Call (.Name "range" p) [a, b] [] pos) (tSrc X.K T EX (.rng ia ib)) :=
  PI.imp (pi_range2 hg hm (pa_cons ha (pa_cons hb pa_nil hs2) (hs.trans (by rw [hs2]))) hs hs2) fun σ H Q ⟨R, env, w, P, e, sim, ev, fin⟩ => by
    subst e
    refine tR_val sim ev fun d1 w1 x h1 l1 sim1 rx => ?_
    refine tR_val sim1 h1 fun d2 w2 y h2 l2 sim2 ry => ?_
    obtain ⟨i, j, rfl, rfl, hz, h2⟩ := h2
    exact ⟨i, j, by rw [rep_int rx, rep_int ry], hz, fin _ w2 _ h2 (l1.trans l2) sim2.g it_rng⟩
end

mutual
/-- the names of a target are among these -/
def tgIn : Tg → List Nat → Bool
  | .var i, vs => vs.contains i
  | .tup ts, vs => tgsIn ts vs
  | .sub _ _, _ => true
def tgsIn : List Tg → List Nat → Bool
  | [], _ => true
  | t :: ts, vs => tgIn t vs && tgsIn ts vs
end
def KeepT (t : Tg) (σ σ' : L2.St) : Prop := ∀ vs, tgIn t vs = true → L2.wipe σ' vs = L2.wipe σ vs
def KeepTs (ts : List Tg) (σ σ' : L2.St) : Prop := ∀ vs, tgsIn ts vs = true → L2.wipe σ' vs = L2.wipe σ vs
theorem wipe_set {σ : L2.St} {i : Nat} {o : Option V} : ∀ {vs : List Nat}, i ∈ vs → L2.wipe (σ.set i o) vs = L2.wipe σ vs
  | v :: vs, h => by
    unfold L2.wipe
    by_cases q : i ∈ vs
    · rw [wipe_set q]
    · have e : i = v := (List.mem_cons.mp h).elim id fun z => absurd z q
      subst e
      have z : ∀ (vs : List Nat) (σ : L2.St), i ∉ vs → L2.wipe (σ.set i o) vs = (L2.wipe σ vs).set i o := by
        intro vs
        induction vs with
        | nil => intro σ _; rfl
        | cons u us ih =>
          intro σ hn
          unfold L2.wipe
          rw [ih σ fun e => hn (List.mem_cons_of_mem _ e), List.set_comm _ _ fun e => hn (by rw [e]; exact List.mem_cons_self ..)]
      rw [z vs σ q, List.set_set]
def tTg (K : PySem.W.Frag) (T : Tb) (EX : Xk) (t : Tg) : TG := fun x σ H Q => ∃ (R : List Addr) (env : Env) (w : Wd) (d : D) (P : Env → Mem → Prop), w.H = H ∧ Sim K R EX env w σ ∧ Rep K R w x d ∧ evT T EX.ex t d env w.M P ∧
  ∀ env' w' σ', P env' w'.M → Le K w w' → Sim K R EX env' w' σ' → KeepT t σ σ' → Q σ' w'.H
def tTgs (K : PySem.W.Frag) (T : Tb) (EX : Xk) (ts : List Tg) : TGs := fun xs σ H Q => ∃ (R : List Addr) (env : Env) (w : Wd) (ds : List D) (P : Env → Mem → Prop), w.H = H ∧ Sim K R EX env w σ ∧ RepL K R w xs ds ∧ ds.length = ts.length ∧ evTs T EX.ex ts ds env w.M P ∧
  ∀ env' w' σ', P env' w'.M → Le K w w' → Sim K R EX env' w' σ' → KeepTs ts σ σ' → Q σ' w'.H
theorem PG.imp {X : Cx} {e : Expr} {t u : TG} (h : PG X e t) (k : ∀ x σ H Q, u x σ H Q → t x σ H Q) : PG X e u := ⟨fun pins s σ H v u Q I r q => h.run pins s σ H v u Q I r (k v σ H Q q)⟩
theorem PGs.imp {X : Cx} {e : List Expr} {t u : TGs} (h : PGs X e t) (k : ∀ x σ H Q, u x σ H Q → t x σ H Q) : PGs X e u := ⟨fun pins s σ H v u Q I r q => h.run pins s σ H v u Q I r (k v σ H Q q)⟩
theorem Sim0.set {K : PySem.W.Frag} {R : List Addr} {env : Env} {w : Wd} {σ : L2.St} (s : Sim0 K R env w σ) {i : Nat} {v : V} {d : D} (r : Rep K R w v d) : Sim0 K R (setE env i d) w (σ.set i (some v)) := by
  refine ⟨s.g, fun j e h => ?_, by unfold setE; rw [List.length_set, List.length_set, s.len]⟩
  unfold setE at h
  by_cases q : i = j
  · subst q
    by_cases hi : i < env.length
    · rw [List.getElem?_set_self hi] at h
      cases h
      exact ⟨v, List.getElem?_set_self (by rw [← s.len]; exact hi), r⟩
    · rw [List.getElem?_eq_none (by rw [List.length_set]; omega)] at h; cases h
  · rw [List.getElem?_set_ne q] at h
    rw [List.getElem?_set_ne q]
    exact s.vals j e h
theorem Sim.set {K : PySem.W.Frag} {R : List Addr} {EX : Xk} {env : Env} {w : Wd} {σ : L2.St} (s : Sim K R EX env w σ) {i : Nat} {v : V} {d : D} (r : Rep K R w v d) : Sim K R EX (setE env i d) w (σ.set i (some v)) := ⟨s.toSim0.set r, s.exc⟩
section
variable {X : Cx} {T : Tb} {EX : Xk} {a b : Expr} {ia ib : E} {pos : Pos}
theorem sg_var {i : Nat} {x : Str} (hN : X.N.Nodup) (hi : X.N[i]? = some x) (hx : Loc X.env.scope x) (hf : X.fn x = true ∨ X.env.scope.names.lookup x = some .local) : PG X (.Name x pos) (tTg X.K T EX (.var i)) :=
  PG.imp (pg_name hN hi hx hf) fun v σ H Q ⟨R, env, w, d, P, e, sim, r, ev, fin⟩ => by
    subst e
    exact fin _ w _ ev.2 (Le.refl w) (sim.set r) fun vs h => wipe_set (by simpa [tgIn] using h)
theorem sgs_nil : PGs X [] (tTgs X.K T EX []) := PGs.imp pgs_nil fun v σ H Q ⟨R, env, w, ds, P, e, sim, r, el, ev, fin⟩ => by
  subst e
  cases ds with
  | nil => cases r; exact ⟨rfl, fin _ w _ ev (Le.refl w) sim fun _ _ => rfl⟩
  | cons _ _ => cases el
theorem sgs_cons {es : List Expr} {t : Tg} {ts : List Tg} (h1 : PG X a (tTg X.K T EX t)) (h2 : PGs X es (tTgs X.K T EX ts)) (hs : (assignEach (a :: es) X.env).map (·.2) = assign a X.env :: (assignEach es X.env).map (·.2)) : PGs X (a :: es) (tTgs X.K T EX (t :: ts)) :=
  PGs.imp (pgs_cons h1 h2 hs) fun v σ H Q ⟨R, env, w, ds, P, e, sim, r, el, ev, fin⟩ => by
    subst e
    obtain ⟨d, dr, rfl, ev⟩ := ev
    cases r with
    | cons r rr =>
      exact ⟨_, _, rfl, R, env, w, d, _, rfl, sim, r, ev, fun env1 w1 σ1 p l sim1 k1 => ⟨R, env1, w1, dr, P, rfl, sim1, RepL.mono l rr, Nat.succ.inj el, p, fun env2 w2 σ2 p2 l2 sim2 k2 => fin env2 w2 σ2 p2 (l.trans l2) sim2 fun vs h => by
        have h' : (tgIn t vs && tgsIn ts vs) = true := by simpa [tgsIn] using h
        rw [Bool.and_eq_true] at h'
        rw [k2 vs h'.2, k1 vs h'.1]⟩⟩
theorem sg_tup {es : List Expr} {ts : List Tg} {k n : Nat} (hc : X.calm = true) (h : PGs X es (tTgs X.K T EX ts)) (hn : (assignEach es X.env).length = n) (ht : ts.length = n) (hst : (assignEach es X.env).findIdx? (·.1) = none) : PG X (.Tuple es k pos) (tTg X.K T EX (.tup ts)) :=
  PG.imp (pg_tup hc h hn hst) fun v σ H Q ⟨R, env, w, d, P, e, sim, r, ev, fin⟩ => by
    subst e
    obtain ⟨ps, rfl, el, ev⟩ := ev
    obtain ⟨a', vs, rfl, hq, hr⟩ := rep_tup r
    exact ⟨a', vs, rfl, hq, by rw [hr.length, el, ht], R, env, w, ps.map D.v, P, rfl, sim, repL_of_prepL hr, by rw [List.length_map]; exact el, ev, fun env2 w2 σ2 p2 l2 sim2 k2 => fin env2 w2 σ2 p2 l2 sim2 fun vs h => k2 vs (by simpa [tgIn] using h)⟩
theorem sg_sub (ha : PE X a (tR X.K T EX ia)) (hb : PE X b (tR X.K T EX ib)) (hs : ∀ v, assign (.Subscript a b pos) X.env v = (do
      let ov ← holding [v] (eval a X.env)
      let iv ← holding [v, ov] (eval b X.env)
      standAt pos
      holding [v, ov, iv] (setItem ov iv v)
      release [v, ov, iv] [])) : PG X (.Subscript a b pos) (tTg X.K T EX (.sub ia ib)) :=
  PG.imp (pg_sub ha hb set_D hs) fun v σ H Q ⟨R, env, w, d, P, e, sim, r, ev, fin⟩ => by
    subst e
    refine tR_val sim ev fun d1 w1 x h1 l1 sim1 rx => ?_
    refine tR_val sim1 h1 fun d2 w2 y h2 l2 sim2 ry => ?_
    exact ⟨R, w2, d1, d2, d, _, rfl, sim2.g, rx.mono l2, ry, r.mono (l1.trans l2), h2, fun M' w' p l em g => fin env w' σ (by rw [em]; exact p) ((l1.trans l2).trans l) (sim2.move l g) fun _ _ => rfl⟩

/-- what is wanted behind statements, on both sides -/
structure EndsOk (K : PySem.W.Frag) (R : List Addr) (EX : Xk) (w : Wd) (P : Po) (D : Ends) : Prop where
  nx : ∀ env' w' σ', P.nx env' w'.M → Le K w w' → Sim K R EX env' w' σ' → D.nx σ' w'.H
  rt : ∀ d w' v, P.rt d w'.M → Le K w w' → SimG K R w' → Rep K R w' v d → D.rt v w'.H
  bk : ∀ env' w' σ', P.bk env' w'.M → Le K w w' → Sim K R EX env' w' σ' → D.bk σ' w'.H
  ct : ∀ env' w' σ', P.ct env' w'.M → Le K w w' → Sim K R EX env' w' σ' → D.ct σ' w'.H
theorem EndsOk.le {K : PySem.W.Frag} {R : List Addr} {EX : Xk} {w w1 : Wd} {P : Po} {D : Ends} (h : EndsOk K R EX w P D) (l : Le K w w1) : EndsOk K R EX w1 P D :=
  ⟨fun e w' σ p q s => h.nx e w' σ p (l.trans q) s, fun d w' v p q s r => h.rt d w' v p (l.trans q) s r, fun e w' σ p q s => h.bk e w' σ p (l.trans q) s, fun e w' σ p q s => h.ct e w' σ p (l.trans q) s⟩
def tS (K : PySem.W.Frag) (T : Tb) (EX : Xk) (s : S) : TS := fun D σ H => ∃ (R : List Addr) (env : Env) (w : Wd) (P : Po), w.H = H ∧ Sim K R EX env w σ ∧ evS T EX.ex s env w.M P ∧ EndsOk K R EX w P D
def tSs (K : PySem.W.Frag) (T : Tb) (EX : Xk) (s : List S) : TS := fun D σ H => ∃ (R : List Addr) (env : Env) (w : Wd) (P : Po), w.H = H ∧ Sim K R EX env w σ ∧ evSs T EX.ex s env w.M P ∧ EndsOk K R EX w P D
variable {st : Stmt} {sts : List Stmt} {s : S} {ss ss' : List S} {t : Tg} {tg : Expr}
theorem sss_nil : PSs X [] (tSs X.K T EX []) := PSs.imp pss_nil fun D σ H ⟨R, env, w, P, e, sim, ev, fin⟩ => by
  subst e
  exact fin.nx env w σ ev (Le.refl w) sim
theorem sss_cons (h1 : PS X st (tS X.K T EX s)) (h2 : PSs X sts (tSs X.K T EX ss)) : PSs X (st :: sts) (tSs X.K T EX (s :: ss)) :=
  PSs.imp (pss_cons h1 h2) fun D σ H ⟨R, env, w, P, e, sim, ev, fin⟩ => by
    subst e
    exact ⟨R, env, w, _, rfl, sim, ev, fun env1 w1 σ1 p l sim1 => ⟨R, env1, w1, P, rfl, sim1, p, fin.le l⟩, fin.rt, fin.bk, fin.ct⟩
/-- a statement that is nothing (a docstring) -/
theorem sss_skip (h1 : PS X st tNext) (h2 : PSs X sts (tSs X.K T EX ss)) : PSs X (st :: sts) (tSs X.K T EX ss) :=
  PSs.imp (pss_cons h1 h2) fun D σ H h => h
theorem sst_expr (ha : PE X a (tR X.K T EX ia)) (hs : swapsWith a none pos.line X.env = pure false) : PS X (.Expr a pos) (tS X.K T EX (.expr ia)) :=
  PS.imp (ps_expr ha hs) fun D σ H ⟨R, env, w, P, e, sim, ev, fin⟩ => by
    subst e
    refine tR_val sim ev fun d w1 x h1 l1 sim1 rx => ?_
    exact fin.nx env w1 σ h1 l1 sim1
theorem sst_ret (ha : PE X a (tR X.K T EX ia)) : PS X (.Return (some a) pos) (tS X.K T EX (.ret ia)) :=
  PS.imp (ps_ret ha) fun D σ H ⟨R, env, w, P, e, sim, ev, fin⟩ => by
    subst e
    refine tR_val sim ev fun d w1 x h1 l1 sim1 rx => ?_
    exact fin.rt d w1 x h1 l1 sim1.g rx
theorem sst_retN : PS X (.Return none pos) (tS X.K T EX .retN) :=
  PS.imp ps_retN fun D σ H ⟨R, env, w, P, e, sim, ev, fin⟩ => by
    subst e
    exact fin.rt _ w _ ev (Le.refl w) sim.g .non
theorem sst_pass : PS X (.Pass pos) (tS X.K T EX .pass) := PS.imp ps_pass fun D σ H ⟨R, env, w, P, e, sim, ev, fin⟩ => by
  subst e
  exact fin.nx env w σ ev (Le.refl w) sim
theorem sst_brk : PS X (.Break pos) (tS X.K T EX .brk) := PS.imp ps_break fun D σ H ⟨R, env, w, P, e, sim, ev, fin⟩ => by
  subst e
  exact fin.bk env w σ ev (Le.refl w) sim
theorem sst_cnt : PS X (.Continue pos) (tS X.K T EX .cnt) := PS.imp ps_continue fun D σ H ⟨R, env, w, P, e, sim, ev, fin⟩ => by
  subst e
  exact fin.ct env w σ ev (Le.refl w) sim
theorem sst_if {bd : List Stmt} {be : List Stmt} (hc : PT X a (tT X.K T EX ia)) (h1 : PSs X bd (tSs X.K T EX ss)) (h2 : PSs X be (tSs X.K T EX ss')) : PS X (.If a bd be pos) (tS X.K T EX (.ite ia ss ss')) :=
  PS.imp (ps_if hc h1 h2) fun D σ H ⟨R, env, w, P, e, sim, ev, fin⟩ => by
    subst e
    have ev2 : evR T EX.ex ia env w.M (asVal fun x M1 => ∃ k, x = .v (.bool k) ∧ if k = true then evSs T EX.ex ss env M1 P else evSs T EX.ex ss' env M1 P) := ev
    refine tT_of sim (P := fun k M1 => if k = true then evSs T EX.ex ss env M1 P else evSs T EX.ex ss' env M1 P) ev2 fun k w1 h1 l1 sim1 => ?_
    cases k with
    | true => rw [if_pos rfl] at h1 ⊢; exact ⟨R, env, w1, P, rfl, sim1, h1, fin.le l1⟩
    | false => rw [if_neg Bool.false_ne_true] at h1 ⊢; exact ⟨R, env, w1, P, rfl, sim1, h1, fin.le l1⟩
theorem tAsg_of {e : E} {D : Ends} {σ : L2.St} {R : List Addr} {env : Env} {w : Wd} {P : Po} (sim : Sim X.K R EX env w σ) (ev : evS T EX.ex (.asg t e) env w.M P) (fin : EndsOk X.K R EX w P D) : tAsg (tR X.K T EX e) (tTg X.K T EX t) D σ w.H := by
  refine tR_val sim ev fun d w1 x h1 l1 sim1 rx => ?_
  exact ⟨R, env, w1, d, P.nx, rfl, sim1, rx, h1, fun env2 w2 σ2 p l2 sim2 _ => fin.nx env2 w2 σ2 p (l1.trans l2) sim2⟩
/-- name = value -/
theorem sst_set {i : Nat} {x : Str} {pos' : Pos} (hN : X.N.Nodup) (hi : X.N[i]? = some x) (hx : Loc X.env.scope x) (ha : PE X a (tR X.K T EX ia)) (hs : swapsWith a (some (.Name x pos')) pos.line X.env = pure false) (hf : X.fn x = true ∨ X.env.scope.names.lookup x = some .local) :
    PS X (.Assign [.Name x pos'] a pos) (tS X.K T EX (.asg (.var i) ia)) :=
  PS.imp (ps_set hN hi hx ha hs hf) fun D σ H ⟨R, env, w, P, e, sim, ev, fin⟩ => by
    subst e
    refine tR_val sim ev fun d w1 x h1 l1 sim1 rx => ?_
    exact fin.nx _ w1 _ h1.2 l1 (sim1.set rx)
theorem sst_asg (ha : PE X a (tR X.K T EX ia)) (hg : PG X tg (tTg X.K T EX t)) (hs : swapsWithSole [tg] a pos.line X.env = pure false) (hw : swappedStores [tg] a X.env = pure none)
    (h1 : (assignEach [tg] X.env).map (·.2) = [assign tg X.env]) : PS X (.Assign [tg] a pos) (tS X.K T EX (.asg t ia)) :=
  PS.imp (ps_asg ha hg hs hw h1) fun D σ H ⟨R, env, w, P, e, sim, ev, fin⟩ => by
    subst e
    exact tAsg_of sim ev fin
/-- a loop -/
theorem sst_for {iter : Expr} {src : Src} {bd : List Stmt} (hp : PassesOwn (model X.prog X.w) X.A X.env X.xe) (hc : X.calm = true) (hi : PI X tg iter (tSrc X.K T EX src)) (hg : PG X tg (tTg X.K T EX t)) (hb : PSs X bd (tSs X.K T EX ss)) (hs : ∀ x, foldedSetIterable iter X.env x = pure x) :
    PS X (.For tg iter bd [] pos) (tS X.K T EX (.for_ t src ss)) :=
  PS.imp (ps_for hp hc hi hg hb hs) fun D σ H ⟨R, env, w, P, e, sim, ev, fin⟩ => by
    subst e
    refine ⟨R, env, w, _, rfl, sim, ev, fun g w1 J h1 l1 g1 it => ?_⟩
    refine ⟨fun i m σ H => ∃ env w', w'.H = H ∧ Le X.K w1 w' ∧ Sim X.K R EX env w' σ ∧ m = g.xs.length - i ∧ i ≤ g.xs.length ∧ forW (fun M => g.ok M) (evT T EX.ex t) (fun env M P => evSs T EX.ex ss env M P) P (g.xs.drop i) env w'.M,
      ⟨g.xs.length, env, w1, rfl, Le.refl w1, sim.move l1 g1, by omega, Nat.zero_le _, h1⟩, ?_⟩
    rintro i m σ' H' ⟨env', w', rfl, l', sim', rfl, hi', q⟩
    by_cases hlt : i < g.xs.length
    · rw [List.drop_eq_getElem_cons hlt] at q
      obtain ⟨gd, q⟩ := q
      obtain ⟨go, yl⟩ := it.go R w' Hid.refl l' sim'.g gd i _ (List.getElem?_eq_getElem hlt)
      refine .inr ⟨go, fun σ2 H2 => ∃ env w', w'.H = H2 ∧ Le X.K w1 w' ∧ Sim X.K R EX env w' σ2 ∧ forW (fun M => g.ok M) (evT T EX.ex t) (fun env M P => evSs T EX.ex ss env M P) P (g.xs.drop (i + 1)) env w'.M, ?_, fun x H2 y => ?_⟩
      · rintro σ2 H2 ⟨env2, w2, rfl, l2, sim2, q2⟩
        exact ⟨g.xs.length - (i + 1), by omega, env2, w2, rfl, l2, sim2, rfl, hlt, q2⟩
      · obtain ⟨w2, rfl, l2, em, g2, rx⟩ := yl x H2 y
        refine ⟨R, env', w2, _, _, rfl, sim'.move l2 g2, rx, by rw [em]; exact q, fun env3 w3 σ3 p3 l3 sim3 _ => ?_⟩
        refine ⟨R, env3, w3, _, rfl, sim3, p3, ?_⟩
        have L := (l'.trans l2).trans l3
        exact ⟨fun env4 w4 σ4 p4 l4 sim4 => ⟨env4, w4, rfl, L.trans l4, sim4, p4⟩, fun d w4 v p4 l4 g4 r4 => fin.rt d w4 v p4 ((l1.trans L).trans l4) g4 r4, fun env4 w4 σ4 p4 l4 sim4 => fin.nx env4 w4 σ4 p4 ((l1.trans L).trans l4) sim4,
          fun env4 w4 σ4 p4 l4 sim4 => ⟨env4, w4, rfl, L.trans l4, sim4, p4⟩⟩
    · have e : i = g.xs.length := by omega
      subst e
      rw [List.drop_length] at q
      exact .inl ⟨it.stop R w' Hid.refl l' sim'.g q.1, fin.nx env' w' σ' q.2 (l1.trans l') sim'⟩
theorem sst_while {bd : List Stmt} (hp : PassesOwn (model X.prog X.w) X.A X.env X.xe) (hc : PT X a (tT X.K T EX ia)) (hb : PSs X bd (tSs X.K T EX ss)) : PS X (.While a bd [] pos) (tS X.K T EX (.whl ia ss)) :=
  PS.imp (ps_while hp hc hb) fun D σ H ⟨R, env, w, P, e, sim, ev, fin⟩ => by
    subst e
    obtain ⟨I, ⟨k0, i0⟩, turn⟩ := ev
    refine ⟨fun m σ H => ∃ env w', w'.H = H ∧ Le X.K w w' ∧ Sim X.K R EX env w' σ ∧ I m env w'.M, ⟨k0, env, w, rfl, Le.refl w, sim, i0⟩, ?_⟩
    rintro m σ1 H1 ⟨env1, w1, rfl, l1, sim1, i1⟩
    have q := turn m env1 w1.M i1
    refine tT_of sim1 (P := fun b M1 => if b = true then evSs T EX.ex ss env1 M1 ⟨fun e m' => ∃ j, j < m ∧ I j e m', P.rt, P.nx, fun e m' => ∃ j, j < m ∧ I j e m'⟩ else P.nx env1 M1) q fun b w2 h2 l2 sim2 => ?_
    cases b with
    | true =>
      rw [if_pos rfl] at h2 ⊢
      refine ⟨fun σ H => ∃ env w', w'.H = H ∧ Le X.K w w' ∧ Sim X.K R EX env w' σ ∧ ∃ j, j < m ∧ I j env w'.M, ?_, R, env1, w2, _, rfl, sim2, h2, ?_⟩
      · rintro σ' H' ⟨env', w', rfl, l', sim', j, hj, q⟩
        exact ⟨j, hj, env', w', rfl, l', sim', q⟩
      · have L := l1.trans l2
        exact ⟨fun env4 w4 σ4 p4 l4 sim4 => ⟨env4, w4, rfl, L.trans l4, sim4, p4⟩, fun d w4 v p4 l4 g4 r4 => fin.rt d w4 v p4 (L.trans l4) g4 r4, fun env4 w4 σ4 p4 l4 sim4 => fin.nx env4 w4 σ4 p4 (L.trans l4) sim4,
          fun env4 w4 σ4 p4 l4 sim4 => ⟨env4, w4, rfl, L.trans l4, sim4, p4⟩⟩
    | false =>
      rw [if_neg Bool.false_ne_true] at h2 ⊢
      exact fin.nx env1 w2 σ1 h2 (l1.trans l2) sim2
end
end Pd

namespace Pd
open PySem L2 PyProof.Rows
section
variable {X : Cx} {T : Tb} {EX : Xk} {a b c : Expr} {ia ib ic : E} {pos : Pos}
theorem sst_parG {es ts : List Expr} {ies : List E} {its : List Tg} {k1 k2 n : Nat} {p1 p2 : Pos} (hc : X.calm = true) (ha : PA X es (tL X.K T EX ies)) (hg : PGs X ts (tTgs X.K T EX its)) (hn : (assignEach ts X.env).length = n) (ht : its.length = n)
    (hst : (assignEach ts X.env).findIdx? (·.1) = none) (hs : swapsWithSole [.Tuple ts k1 p1] (.Tuple es k2 p2) pos.line X.env = pure false) (hw : swappedStores [.Tuple ts k1 p1] (.Tuple es k2 p2) X.env = pure none)
    (h1 : (assignEach [.Tuple ts k1 p1] X.env).map (·.2) = [assign (.Tuple ts k1 p1) X.env]) : PS X (.Assign [.Tuple ts k1 p1] (.Tuple es k2 p2) pos) (tS X.K T EX (.par its ies)) :=
  PS.imp (ps_asg (pe_tup ha) (pg_tup hc hg hn hst) hs hw h1) fun D σ H ⟨R, env, w, P, e, sim, ev, fin⟩ => by
    subst e
    unfold tAsg tTup
    refine tL_of sim ev fun ds w1 vs h2 l1 sim1 rs => ?_
    obtain ⟨z, el, h2⟩ := h2
    refine ⟨by rw [repL_len rs]; exact z, fun p hp => ?_⟩
    have l2 : Le X.K w1 (w1.lay p (.tup vs)) := le_lay hp
    have sim2 := sim1.move l2 (SimG.lay sim1.g hp)
    exact ⟨p, vs, rfl, SqT.of (show upd w1.H p _ p = _ from upd_same), by rw [repL_len rs, el, ht], R, env, w1.lay p (.tup vs), ds, P.nx, rfl, sim2, RepL.mono l2 rs, el, h2, fun env2 w2 σ2 p2 l3 sim3 _ => fin.nx env2 w2 σ2 p2 ((l1.trans l2).trans l3) sim3⟩
theorem sst_par2 {i j : Nat} {x y : Str} {ies : List E} {px py pt : Pos} {kt k2 : Nat} {pt2 : Pos} (hc : X.calm = true) (hN : X.N.Nodup) (hi : X.N[i]? = some x) (hj : X.N[j]? = some y) (hij : i ≠ j)
    (hx : X.env.scope.names.lookup x = some .local) (hy : X.env.scope.names.lookup y = some .local) (ha : PA X [a, b] (tL X.K T EX ies))
    (hw : swappedStores [.Tuple [.Name x px, .Name y py] kt pt] (.Tuple [a, b] k2 pt2) X.env = pure (some [x, y]))
    (hs : swapsWithSole [.Tuple [.Name x px, .Name y py] kt pt] (.Tuple [a, b] k2 pt2) pos.line X.env = pure false) :
    PS X (.Assign [.Tuple [.Name x px, .Name y py] kt pt] (.Tuple [a, b] k2 pt2) pos) (tS X.K T EX (.par [.var i, .var j] ies)) :=
  PS.imp (ps_par hc hN hi hj hij hx hy ha hw hs) fun D σ H ⟨R, env, w, P, e, sim, ev, fin⟩ => by
    subst e
    unfold tPar
    refine tL_of sim ev fun ds w1 vs h2 l1 sim1 rs => ?_
    obtain ⟨z, el, d1, r1, rfl, _, d2, r2, rfl, _, h2⟩ := h2
    have e2 : r2 = [] := by
      cases r2 with
      | nil => rfl
      | cons _ _ => simp at el
    subst e2
    obtain ⟨v, u, rfl, rv, ru⟩ := repL_two rs
    exact ⟨v, u, rfl, fin.nx _ w1 _ h2 l1 ((sim1.set rv).set ru)⟩
theorem sst_par3 {i j l : Nat} {x y z : Str} {ies : List E} {px py pz pt : Pos} {kt k2 : Nat} {pt2 : Pos} (hc : X.calm = true) (hN : X.N.Nodup) (hi : X.N[i]? = some x) (hj : X.N[j]? = some y) (hl : X.N[l]? = some z) (hij : i ≠ j) (hil : i ≠ l) (hjl : j ≠ l)
    (hx : X.env.scope.names.lookup x = some .local) (hy : X.env.scope.names.lookup y = some .local) (hz : X.env.scope.names.lookup z = some .local) (ha : PA X [a, b, c] (tL X.K T EX ies))
    (hw : swappedStores [.Tuple [.Name x px, .Name y py, .Name z pz] kt pt] (.Tuple [a, b, c] k2 pt2) X.env = pure (some [x, y, z]))
    (hs : swapsWithSole [.Tuple [.Name x px, .Name y py, .Name z pz] kt pt] (.Tuple [a, b, c] k2 pt2) pos.line X.env = pure false) :
    PS X (.Assign [.Tuple [.Name x px, .Name y py, .Name z pz] kt pt] (.Tuple [a, b, c] k2 pt2) pos) (tS X.K T EX (.par [.var i, .var j, .var l] ies)) :=
  PS.imp (ps_par3 hc hN hi hj hl hij hil hjl hx hy hz ha hw hs) fun D σ H ⟨R, env, w, P, e, sim, ev, fin⟩ => by
    subst e
    unfold tPar3
    refine tL_of sim ev fun ds w1 vs h2 l1 sim1 rs => ?_
    obtain ⟨_, el, d1, r1, rfl, _, d2, r2, rfl, _, d3, r3, rfl, _, h2⟩ := h2
    have e2 : r3 = [] := by
      cases r3 with
      | nil => rfl
      | cons _ _ => simp at el
    subst e2
    cases rs with
    | cons rv rs =>
      obtain ⟨u, t, rfl, ru, rt⟩ := repL_two rs
      exact ⟨_, u, t, rfl, fin.nx _ w1 _ h2 l1 (((sim1.set rv).set ru).set rt)⟩
end

theorem wipe_none {σ : L2.St} {i : Nat} : ∀ {vs : List Nat}, i ∉ vs → (wipe σ vs)[i]? = σ[i]?
  | [], _ => rfl
  | v :: vs, h => by
    unfold wipe
    rw [List.getElem?_set_ne (fun e => h (by rw [e]; exact List.mem_cons_self ..))]
    exact wipe_none fun e => h (List.mem_cons_of_mem _ e)
theorem wipeE_length (env : Env) : ∀ vs : List Nat, (wipeE env vs).length = env.length
  | [] => rfl
  | v :: vs => by unfold wipeE; rw [List.length_set, wipeE_length env vs]
theorem wipeE_some {env : Env} {i : Nat} {d : D} : ∀ {vs : List Nat}, (wipeE env vs)[i]? = some (some d) → env[i]? = some (some d) ∧ i ∉ vs
  | [], h => ⟨h, by simp⟩
  | v :: vs, h => by
    unfold wipeE at h
    by_cases hi : v = i
    · subst hi
      by_cases hv : v < (wipeE env vs).length
      · rw [List.getElem?_set_self hv] at h; cases h
      · rw [List.getElem?_eq_none (by simpa using hv)] at h; cases h
    · rw [List.getElem?_set_ne hi] at h
      obtain ⟨h1, h2⟩ := wipeE_some h
      exact ⟨h1, by simp only [List.mem_cons, not_or]; exact ⟨fun e => hi e.symm, h2⟩⟩
theorem Sim0.wipe {K : PySem.W.Frag} {R : List Addr} {env : Env} {w : Wd} {σ : L2.St} (s : Sim0 K R env w σ) (vs : List Nat) : Sim0 K R (wipeE env vs) w (L2.wipe σ vs) := by
  refine ⟨s.g, fun i d h => ?_, by rw [wipeE_length, wipe_length, s.len]⟩
  obtain ⟨h1, h2⟩ := wipeE_some h
  rw [wipe_none h2]
  exact s.vals i d h1
/-- no exception is wanted -/
def Xk.no (EX : Xk) : Xk := { EX with ex := noX, W := fun _ _ _ _ => False }
theorem Sim0.no {K : PySem.W.Frag} {R : List Addr} {env : Env} {w : Wd} {σ : L2.St} (s : Sim0 K R env w σ) (EX : Xk) : Sim K R EX.no env w σ := ⟨s, fun _ _ _ _ _ _ h => h.elim⟩
def tB (K : PySem.W.Frag) (T : Tb) (EX : Xk) (o : Option E) : TT := fun σ H Q => ∃ (R : List Addr) (env : Env) (w : Wd) (P : Bool → Mem → Prop), w.H = H ∧ Sim K R EX env w σ ∧ evB T EX.ex o env w.M P ∧ ∀ b M' w', P b M' → Le K w w' → w'.M = M' → SimG K R w' → Q b w'.H
theorem PTs.imp {X : Cx} {e : List Expr} {t u : TT} (h : PTs X e t) (k : ∀ σ H Q, u σ H Q → t σ H Q) : PTs X e u := ⟨fun pins s σ H Q I q => h.run pins s σ H Q I (k σ H Q q)⟩
section
variable {X : Cx} {T : Tb} {EX : Xk} {a : Expr} {ia : E}
theorem sts_nil : PTs X [] (tB X.K T EX none) := PTs.imp pts_nil fun σ H Q ⟨R, env, w, P, e, sim, ev, fin⟩ => by
  subst e
  exact fin true _ w ev (Le.refl w) rfl sim.g
theorem sts_one (h : PT X a (tT X.K T EX ia)) : PTs X [a] (tB X.K T EX (some ia)) := PTs.imp (pts_one h) fun σ H Q ⟨R, env, w, P, e, sim, ev, fin⟩ => ⟨R, env, w, P, e, sim, ev, fin⟩
end
section
variable {K : PySem.W.Frag} {R R' R'' : List Addr} {w : Wd} {q0 : Addr} {us : List V} {h5 : Hp}
theorem sqT_swap (hl : w.H q0 = some (.lst us)) (he : ∀ a, a ≠ q0 → h5 a = w.H a) {a : Addr} {vs : List V} (h : SqT K w.H a vs) : SqT K h5 a vs := by
  rcases h with h | h
  · have ha : a ≠ q0 := by
      rintro rfl
      rcases h with h | ⟨o, h⟩ <;> (rw [hl] at h; cases h)
    refine .inl ?_
    rcases h with h | ⟨o, h⟩
    · exact .inl ((he a ha).trans h)
    · exact .inr ⟨o, (he a ha).trans h⟩
  · exact .inr h
mutual
/-- a hidden list is another one -/
theorem PRep.swap (hD : q0 ∈ R') (hl : w.H q0 = some (.lst us)) (hs : ∀ a, a ∈ R'' → a ∈ R') (he : ∀ a, a ≠ q0 → h5 a = w.H a) : ∀ {v : V} {q : PyData}, PRep K R' w v q → PRep K R'' { w with H := h5 } v q
  | _, _, .non => .non
  | _, _, .bl b => .bl b
  | _, _, .int i => .int i
  | _, _, .str x => .str x
  | _, _, .tup e hr => .tup (sqT_swap hl he e) (PRepL.swap hD hl hs he hr)
  | _, _, .lst (a := a) e nl hr hq => .lst ((he a fun z => hr (by rw [z]; exact hD)).trans e) nl (fun z => hr (hs a z)) (PRepL.swap hD hl hs he hq)
  | _, _, .dct (a := a) e nl hr q hq => .dct ((he a fun z => hr (by rw [z]; exact hD)).trans e) nl (fun z => hr (hs a z)) q (PRepL.swap hD hl hs he hq)
theorem PRepL.swap (hD : q0 ∈ R') (hl : w.H q0 = some (.lst us)) (hs : ∀ a, a ∈ R'' → a ∈ R') (he : ∀ a, a ≠ q0 → h5 a = w.H a) : ∀ {vs : List V} {qs : List PyData}, PRepL K R' w vs qs → PRepL K R'' { w with H := h5 } vs qs
  | _, _, .nil => .nil
  | _, _, .cons a t => .cons (PRep.swap hD hl hs he a) (PRepL.swap hD hl hs he t)
end
theorem Rep.swap (hD : q0 ∈ R') (hl : w.H q0 = some (.lst us)) (hs : ∀ a, a ∈ R'' → a ∈ R') (he : ∀ a, a ≠ q0 → h5 a = w.H a) {v : V} : ∀ {d : D}, Rep K R' w v d → Rep K R'' { w with H := h5 } v d
  | .v _, r => PRep.swap hD hl hs he r
  | .loc _, r => r
theorem RepL.swap (hD : q0 ∈ R') (hl : w.H q0 = some (.lst us)) (hs : ∀ a, a ∈ R'' → a ∈ R') (he : ∀ a, a ≠ q0 → h5 a = w.H a) {vs : List V} {ds : List D} (r : RepL K R' w vs ds) : RepL K R'' { w with H := h5 } vs ds := Paired.mapP r fun _ _ => Rep.swap hD hl hs he
theorem SimG.swap (s : SimG K R' w) (hD : q0 ∈ R') (hl : w.H q0 = some (.lst us)) (hs : ∀ a, a ∈ R'' → a ∈ R') (he : ∀ a, a ≠ q0 → h5 a = w.H a) (hh : q0 ∈ R'' → h5 q0 ≠ none) : SimG K R'' { w with H := h5 } := by
  have nD : ∀ n a, w.io n = some a → a ≠ q0 := fun n a e z => (s.occ n a e).2 (by rw [z]; exact hD)
  refine ⟨s.inj, s.fin, fun n a e => ⟨?_, fun z => (s.occ n a e).2 (hs a z)⟩, fun a e => ?_, fun n ob e => ?_⟩
  · show h5 a ≠ none
    rw [he a (nD n a e)]; exact (s.occ n a e).1
  · show h5 a ≠ none
    by_cases q : a = q0
    · subst q; exact hh e
    · rw [he a q]; exact s.hid a (hs a e)
  · obtain ⟨a, e1, r⟩ := s.obj n ob e
    refine ⟨a, e1, ?_⟩
    have ha := he a (nD n a e1)
    cases ob with
    | lst ds => obtain ⟨vs, h1, h2⟩ := r; exact ⟨vs, ha.trans h1, RepL.swap hD hl hs he h2⟩
    | dct kvs => obtain ⟨vs, h1, h2⟩ := r; exact ⟨vs, ha.trans h1, Paired.mapP h2 fun _ _ q => ⟨q.1, q.2.swap hD hl hs he⟩⟩
    | fz ds => obtain ⟨vs, h1, h2⟩ := r; exact ⟨vs, h1.elim (fun z => .inl (ha.trans z)) (fun ⟨o, z⟩ => .inr ⟨o, ha.trans z⟩), RepL.swap hD hl hs he h2⟩
/-- .. what was there before it came stays -/
theorem Le.swap {w1 : Wd} (l : Le K w1 w) (hn : w1.H q0 = none) (hl : w.H q0 = some (.lst us)) (he : ∀ a, a ≠ q0 → h5 a = w.H a) : Le K w1 { w with H := h5 } where
  ext := l.ext
  new := l.new
  dead := l.dead
  keep := fun a o e nl => (he a (ne_of_none e hn)).trans (l.keep a o e nl)
  dom := fun a e => by
    show h5 a ≠ none
    rw [he a fun z => e (by rw [z]; exact hn)]; exact l.dom a e
  tups := fun a vs e => sqT_swap hl he (l.tups a vs e)
theorem SimG.hideLay (s : SimG K R w) (h : w.H q0 = none) : SimG K (q0 :: R) (w.lay q0 (.lst us)) := by
  have l : Le K w (w.lay q0 (.lst us)) := le_lay h
  have hd : Hid R (q0 :: R) w := fun a e => (List.mem_cons.mp e).elim (fun z => .inr (by rw [z]; exact h)) .inl
  refine ⟨s.inj, s.fin, fun n a e => ⟨l.dom a (s.occ n a e).1, fun z => (List.mem_cons.mp z).elim (fun z => (s.occ n a e).1 (by rw [z]; exact h)) (s.occ n a e).2⟩, fun a e => ?_, fun n ob e => ?_⟩
  · rcases List.mem_cons.mp e with z | z
    · show upd w.H q0 _ a ≠ none
      rw [z, upd_same]; simp
    · exact l.dom a (s.hid a z)
  · obtain ⟨a, e1, r⟩ := s.obj n ob e
    refine ⟨a, e1, (r.hide hd).mono l ?_⟩
    show upd w.H q0 _ a = _
    exact upd_ne fun z => (s.occ n a e1).1 (by rw [z]; exact h)
theorem Sim0.hide {env : Env} {σ : L2.St} {w' : Wd} (s : Sim0 K R env w σ) (h : Hid R R' w) (l : Le K w w') (g : SimG K R' w') : Sim0 K R' env w' σ :=
  ⟨g, fun i d e => let ⟨v, h1, h2⟩ := s.vals i d e; ⟨v, h1, (h2.hide h).mono l⟩, s.len⟩
theorem wipe_idem {σ : L2.St} {vs : List Nat} : L2.wipe (L2.wipe σ vs) vs = L2.wipe σ vs := by
  have z : ∀ (us vs : List Nat) (τ : L2.St), (∀ i, i ∈ us → i ∈ vs) → L2.wipe (L2.wipe τ us) vs = L2.wipe τ vs := by
    intro us
    induction us with
    | nil => intro vs τ _; rfl
    | cons u us ih =>
      intro vs τ h
      show L2.wipe ((L2.wipe τ us).set u none) vs = _
      rw [wipe_set (h u (List.mem_cons_self ..))]
      exact ih vs τ fun i hi => h i (List.mem_cons_of_mem _ hi)
  exact z vs vs σ fun _ h => h
end
section
variable {K : PySem.W.Frag} {T : Tb} {EX : Xk}
theorem lc_of {own : List Nat} {t : Tg} {src : Src} {oi : Option E} {ie : E} {σ : L2.St} {H : Hp} {Q : VK} (hin : tgIn t own = true) (h : tR K T EX (.comp own t src oi ie) σ H Q) : tLc (tSrc K T EX src) (tTg K T EX.no t) (tB K T EX.no oi) (tR K T EX.no ie) own σ H Q := by
  obtain ⟨R, env, w, P, e, sim, ev, fin⟩ := h
  subst e
  refine ⟨R, env, w, _, rfl, sim, ev, fun g w1 J h1 l1 g1 it => ?_⟩
  intro D hD
  have hd : Hid R (D :: R) w1 := fun a e => (List.mem_cons.mp e).elim (fun z => .inr (by rw [z]; exact hD)) .inl
  have inD : D ∈ D :: R := List.mem_cons_self ..
  have nl : ∀ {w' : Wd}, SimG K (D :: R) w' → ¬ live w' D := fun {w'} s ⟨n, e, _⟩ => (s.occ n D e).2 inD
  have sim1 := sim.toSim0.move l1 g1
  refine ⟨fun i m H => ∃ (w' : Wd) (us : List V) (ds : List Pd.D), w'.H = H ∧ Le K w1 w' ∧ SimG K (D :: R) w' ∧ w'.H D = some (.lst us) ∧ RepL K (D :: R) w' us ds ∧ m = g.xs.length - i ∧ i ≤ g.xs.length ∧
    compW (fun M => g.ok M) (evT T noX t) (fun env M Q => evB T noX oi env M Q) (fun env M Q => evR T noX ie env M (asVal Q)) (wipeE env own) (fun ds M2 => P (.fl ds) M2) (g.xs.drop i) ds w'.M,
    ⟨g.xs.length, w1.lay D (.lst []), [], [], rfl, le_lay hD, SimG.hideLay g1 hD, show upd w1.H D _ D = _ from upd_same, .nil, by omega, Nat.zero_le _, h1⟩, ?_⟩
  rintro i m H' ⟨w', us, ds, rfl, l', g', hus, rds, rfl, hi, q⟩
  by_cases hlt : i < g.xs.length
  · rw [List.drop_eq_getElem_cons hlt] at q
    obtain ⟨gd, hz, q⟩ := q
    obtain ⟨go, yl⟩ := it.go (D :: R) w' hd l' g' gd i _ (List.getElem?_eq_getElem hlt)
    refine .inr ⟨go, fun H2 => ∃ (w' : Wd) (us : List V) (ds : List Pd.D), w'.H = H2 ∧ Le K w1 w' ∧ SimG K (D :: R) w' ∧ w'.H D = some (.lst us) ∧ RepL K (D :: R) w' us ds ∧
      compW (fun M => g.ok M) (evT T noX t) (fun env M Q => evB T noX oi env M Q) (fun env M Q => evR T noX ie env M (asVal Q)) (wipeE env own) (fun ds M2 => P (.fl ds) M2) (g.xs.drop (i + 1)) ds w'.M, ?_, fun x H2 y => ?_⟩
    · rintro H2 ⟨w2, us2, ds2, rfl, l2, g2, hus2, rds2, q2⟩
      exact ⟨g.xs.length - (i + 1), by omega, w2, us2, ds2, rfl, l2, g2, hus2, rds2, rfl, hlt, q2⟩
    · obtain ⟨w2, rfl, l2, em, g2, rx⟩ := yl x H2 y
      have s2 : Sim0 K (D :: R) (wipeE env own) w2 (L2.wipe σ own) := (sim1.hide hd (l'.trans l2) g2).wipe own
      refine ⟨D :: R, wipeE env own, w2, _, _, rfl, s2.no EX, rx, by rw [em]; exact q, fun env3 w3 σ3 p3 l3 sim3 kp => ⟨(kp own hin).trans wipe_idem, ?_⟩⟩
      refine ⟨D :: R, env3, w3, _, rfl, sim3, p3, fun b M4 w4 pb l4 em4 g4 => ?_⟩
      subst em4
      have L4 : Le K w' w4 := (l2.trans l3).trans l4
      cases b with
      | true =>
        rw [if_pos rfl] at pb ⊢
        refine tR_val (sim3.move l4 g4) pb fun d5 w5 v5 p5 l5 sim5 r5 => ?_
        have L5 : Le K w' w5 := L4.trans l5
        have h5 : w5.H D = some (.lst us) := L5.keep D _ hus (nl g')
        have he : ∀ a, a ≠ D → upd w5.H D (.lst (us ++ [v5])) a = w5.H a := fun a h => upd_ne h
        have hs : ∀ a, a ∈ D :: R → a ∈ D :: R := fun _ h => h
        refine ⟨us, h5, by rw [repL_len rds]; exact hz, { w5 with H := upd w5.H D (.lst (us ++ [v5])) }, us ++ [v5], ds ++ [d5], rfl, (l'.trans L5).swap hD h5 he, sim5.g.swap inD h5 hs he (fun _ => by rw [upd_same]; simp), upd_same, ?_, p5⟩
        exact RepL.swap inD h5 hs he (repL_append (RepL.mono L5 rds) (.cons r5 .nil))
      | false =>
        rw [if_neg Bool.false_ne_true] at pb ⊢
        exact ⟨w4, us, ds, rfl, l'.trans L4, g4, L4.keep D _ hus (nl g'), RepL.mono L4 rds, pb⟩
  · have e : i = g.xs.length := by omega
    subst e
    rw [List.drop_length] at q
    refine .inl ⟨it.stop (D :: R) w' hd l' g' q.1, ?_⟩
    have he : ∀ a, a ≠ D → (fun a => if a = D then none else w'.H a) a = w'.H a := fun a h => if_neg h
    have hs : ∀ a, a ∈ R → a ∈ D :: R := fun _ h => List.mem_cons_of_mem _ h
    have nR : D ∉ R := fun z => g1.hid D z hD
    have q6 := fin _ _ q.2.2 { w' with H := fun a => if a = D then none else w'.H a } us D (l1.trans (l'.swap hD hus he)) rfl (g'.swap inD hus hs he fun z => absurd z nR) (RepL.swap inD hus hs he rds) (if_pos rfl)
    have e6 : upd (fun a => if a = D then none else w'.H a) D (.lst us) = w'.H := by
      funext a
      by_cases z : a = D
      · subst z; rw [upd_same, hus]
      · rw [upd_ne z, if_neg z]
    rw [← e6]
    exact q6
end
section
variable {X : Cx} {T : Tb} {EX : Xk}
theorem se_comp {elt tg iter : Expr} {ifs : List Expr} {scope : Scope} {own : List (Str × Nat)} {pos : Pos} {t : Tg} {src : Src} {oi : Option E} {ie : E} (hc : X.calm = true) (hN : X.N.Nodup) (hi : PI X tg iter (tSrc X.K T EX src)) (ok : BlkOk X.N X.env.scope scope own)
    (hg : ∀ (s : Shared) (H : Hp) (C : Addr) (cl : List (Str × Addr)) (fp : List Addr), PG (X.blk s H scope (compEnvC scope cl C X.env) fp) tg (tTg X.K T EX.no t)) (ht : ∀ (s : Shared) (H : Hp) (C : Addr) (cl : List (Str × Addr)) (fp : List Addr), PTs (X.blk s H scope (compEnvC scope cl C X.env) fp) ifs (tB X.K T EX.no oi))
    (he : ∀ (s : Shared) (H : Hp) (C : Addr) (cl : List (Str × Addr)) (fp : List Addr), PE (X.blk s H scope (compEnvC scope cl C X.env) fp) elt (tR X.K T EX.no ie)) (hs : ∀ x, foldedSetIterable iter X.env x = pure x) (hin : tgIn t (own.map (·.2)) = true) :
    PE X (.ListComp elt [⟨tg, iter, ifs, 0⟩] scope pos) (tR X.K T EX (.comp (own.map (·.2)) t src oi ie)) :=
  PE.imp (pe_lc hc hN hi ok hg ht he hs) fun σ H Q h => lc_of hin h
/-- name = [..] on one line -/
theorem sst_setLc {i : Nat} {y : Str} {py spos : Pos} {elt tg iter : Expr} {ifs : List Expr} {scope : Scope} {own : List (Str × Nat)} {pos : Pos} {t : Tg} {src : Src} {oi : Option E} {ie : E} (hc : X.calm = true) (hN : X.N.Nodup) (hy : X.N[i]? = some y) (hyl : X.env.scope.names.lookup y = some .local)
    (hsw : swapsWith (.ListComp elt [⟨tg, iter, ifs, 0⟩] scope pos) (some (.Name y py)) spos.line X.env = pure true) (hi : PI X tg iter (tSrc X.K T EX src)) (ok : BlkOk X.N X.env.scope scope own)
    (hg : ∀ (s : Shared) (H : Hp) (C : Addr) (cl : List (Str × Addr)) (fp : List Addr), PG (X.blk s H scope (compEnvC scope cl C X.env) fp) tg (tTg X.K T EX.no t)) (ht : ∀ (s : Shared) (H : Hp) (C : Addr) (cl : List (Str × Addr)) (fp : List Addr), PTs (X.blk s H scope (compEnvC scope cl C X.env) fp) ifs (tB X.K T EX.no oi))
    (he : ∀ (s : Shared) (H : Hp) (C : Addr) (cl : List (Str × Addr)) (fp : List Addr), PE (X.blk s H scope (compEnvC scope cl C X.env) fp) elt (tR X.K T EX.no ie)) (hs : ∀ x, foldedSetIterable iter X.env x = pure x) (hin : tgIn t (own.map (·.2)) = true) {e : E} (hE : e = .comp (own.map (·.2)) t src oi ie ∨ e = .new (.comp (own.map (·.2)) t src oi ie)) :
    PS X (.Assign [.Name y py] (.ListComp elt [⟨tg, iter, ifs, 0⟩] scope pos) spos) (tS X.K T EX (.asg (.var i) e)) :=
  PS.imp (ps_setLc hc hN hy hyl hsw hi ok hg ht he hs) fun D σ H ⟨R, env, w, P, e2, sim, ev, fin⟩ => by
    subst e2
    have z : tR X.K T EX (.comp (own.map (·.2)) t src oi ie) σ w.H (fun x H1 => gName i x σ H1 D.nx) := by
      rcases hE with hE | hE
      · subst hE
        refine tR_val sim ev fun d w1 x h1 l1 sim1 rx => ?_
        exact fin.nx _ w1 _ h1.2 l1 (sim1.set rx)
      · subst hE
        refine tR_of sim (show evR T EX.ex _ env w.M (asNew _) from ev) fun r M' hr => ?_
        cases r with
        | val d => exact hr.elim
        | fl ds =>
          intro w' vs p l em g rs hp
          subst em
          obtain ⟨n, h1, h2⟩ := fresh_loc g
          have q := hr n h2
          have l2 := le_mk (K := X.K) (ob := .lst ds) (o := .lst vs) hp h1
          have g2 := SimG.mk' g hp h1 (ob := .lst ds) (o := .lst vs) ⟨vs, show upd w'.H p _ p = _ from upd_same, RepL.mono l2 rs⟩
          refine fin.nx _ (w'.mk' n (.lst ds) p (.lst vs)) _ q.2 (l.trans l2) ((sim.move (l.trans l2) g2).set ⟨p, rfl, ?_⟩)
          show (if n = n then some p else w'.io n) = some p
          rw [if_pos rfl]
        | fd kvs =>
          intro w' vs p l em g rs hp
          subst em
          obtain ⟨n, h1, h2⟩ := fresh_loc g
          have q := hr n h2
          have l2 := le_mk (K := X.K) (ob := .dct kvs) (o := .dK vs) hp h1
          have g2 := SimG.mk' g hp h1 (ob := .dct kvs) (o := .dK vs) ⟨vs, show upd w'.H p _ p = _ from upd_same, Paired.mapP rs fun _ _ z => ⟨z.1, z.2.mono l2⟩⟩
          refine fin.nx _ (w'.mk' n (.dct kvs) p (.dK vs)) _ q.2 (l.trans l2) ((sim.move (l.trans l2) g2).set ⟨p, rfl, ?_⟩)
          show (if n = n then some p else w'.io n) = some p
          rw [if_pos rfl]
    exact lc_of hin z
end
end Pd

namespace Pd
open PySem L2 PyProof.Rows

def restr (M0 M : Mem) : Mem := fun k => match M0 k with
  | none => none
  | some _ => M k
def frz (M0 : Mem) : Nat → Mem → D → Option PyData
  | _, _, .v p => some p
  | 0, _, .loc _ => none
  | k + 1, M, .loc n => match M0 n with
    | some _ => none
    | none => match M n with
      | some (.lst ds) => (ds.mapM (frz M0 k M)).map PyData.list
      | some (.dct kvs) => ((kvs.map (·.2)).mapM (frz M0 k M)).map fun ps => PyData.dict (((kvs.map (·.1)).map keyP).zip ps)
      | _ => none
def exitW (raw : Bool) (M0 : Mem) (P : D → Mem → Prop) (d : D) (M : Mem) : Prop :=
  if raw = true then P d M else ∃ p, frz M0 4 M d = some p ∧ P (.v p) (restr M0 M)
/-- what a def is worth, by its body -/
def fnW (raw : Bool) (T : Tb) (N n : Nat) (ir : List S) : FS := fun ds M P PX => ds.length = n ∧
  evSs T (fun x _ M' => PX x (restr M M')) ir (ds.map some ++ List.replicate (N - ds.length) none) M ⟨fun _ M' => exitW raw M P (.v .none) M', fun d M' => exitW raw M P d M', fun _ _ => False, fun _ _ => False⟩

section
variable {K : PySem.W.Frag} {R : List Addr} {w : Wd} {M0 : Mem}
theorem restr_or : ∀ n, restr M0 w.M n = w.M n ∨ restr M0 w.M n = none := fun n => by
  unfold restr
  cases M0 n with
  | none => exact .inr rfl
  | some _ => exact .inl rfl
theorem frz_list {l : Le K w (w.cut (restr M0 w.M))} {k : Nat} (ih : ∀ {v : V} {d : D} {p : PyData}, Rep K R w v d → frz M0 k w.M d = some p → PRep K R (w.cut (restr M0 w.M)) v p) :
    ∀ {vs : List V} {ds : List D} {ps : List PyData}, RepL K R w vs ds → ds.mapM (frz M0 k w.M) = some ps → PRepL K R (w.cut (restr M0 w.M)) vs ps
  | _, _, ps, .nil, h => by
    rw [List.mapM_nil] at h
    have h' : ([] : List PyData) = ps := by simpa using h
    subst h'; exact .nil
  | _, _, ps, .cons (b := d) a t, h => by
    rw [List.mapM_cons] at h
    simp only [Option.bind_eq_bind, Option.bind_eq_some_iff, Option.pure_def, Option.some.injEq] at h
    obtain ⟨p, h1, ps', h2, h3⟩ := h
    subst h3
    exact .cons (ih a h1) (frz_list (l := l) ih t h2)
theorem frz_ok (g : SimG K R w) : ∀ (k : Nat) {v : V} {d : D} {p : PyData}, Rep K R w v d → frz M0 k w.M d = some p → PRep K R (w.cut (restr M0 w.M)) v p := by
  have l : Le K w (w.cut (restr M0 w.M)) := le_cut restr_or
  intro k
  induction k with
  | zero =>
    intro v d p r h
    cases d with
    | v q => have e : q = p := Option.some.inj h; subst e; exact PRep.mono l r
    | loc n => cases h
  | succ k ih =>
    intro v d p r h
    cases d with
    | v q => have e : q = p := Option.some.inj h; subst e; exact PRep.mono l r
    | loc n =>
      have h' : (match M0 n with
        | some _ => none
        | none => match w.M n with
          | some (.lst ds) => (ds.mapM (frz M0 k w.M)).map PyData.list
          | some (.dct kvs) => ((kvs.map (·.2)).mapM (frz M0 k w.M)).map fun ps => PyData.dict (((kvs.map (·.1)).map keyP).zip ps)
          | _ => none) = some p := h
      cases q0 : M0 n with
      | some _ => rw [q0] at h'; cases h'
      | none =>
        rw [q0] at h'
        have hcut : restr M0 w.M n = none := by unfold restr; rw [q0]
        obtain ⟨a, rfl, hi⟩ := r
        have nl : ¬ live (w.cut (restr M0 w.M)) a := fun ⟨m, e, hm⟩ => by
          have e' : w.io m = some a := e
          have := g.inj m n a e' hi
          subst this
          exact hm hcut
        have nr := (g.occ n a hi).2
        cases q : w.M n with
        | none => rw [q] at h'; cases h'
        | some ob =>
          obtain ⟨b, hb, ro⟩ := g.obj n ob q
          rw [hi] at hb; cases hb
          rw [q] at h'
          cases ob with
          | fz _ => cases h'
          | lst ds =>
            obtain ⟨ps, h1, h2⟩ := Option.map_eq_some_iff.mp h'
            subst h2
            obtain ⟨vs, h3, h4⟩ := ro
            exact .lst h3 nl nr (frz_list (l := l) (fun r h => ih r h) h4 h1)
          | dct kvs =>
            obtain ⟨ps, h1, h2⟩ := Option.map_eq_some_iff.mp h'
            subst h2
            obtain ⟨vs, h3, h4⟩ := ro
            have e1 : vs.map (·.1) = kvs.map (·.1) := by
              clear h1 h' h q ih h3
              induction h4 with
              | nil => rfl
              | cons a _ ih => rw [List.map_cons, List.map_cons, ih, a.1]
            have e2 : RepL K R w (vs.map (·.2)) (kvs.map (·.2)) := by
              clear h1 h' h q ih e1 h3
              induction h4 with
              | nil => exact .nil
              | cons a _ ih => exact .cons a.2 ih
            exact .dct h3 nl nr e1 (frz_list (l := l) (fun r h => ih r h) e2 h1)
end

/-- what a def promises -/
structure FnG (P : Program) (w : World) (K : PySem.W.Frag) (mg : Str → Option Value) (base : Heap) (XR : List Addr → Wd → Value → Option Addr → XN → Prop) (k : Nat) (f : Addr) (fd : FuncData) (ps : List Str) (fs : FS) : Prop where
  len : ∀ ds M Po PX, fs ds M Po PX → ds.length = ps.length
  run : ∀ (A : Around) (outer : List PySem.Env) (s : Shared) (args : Args) (us : List Value) (vs : List V) (R : List Addr) (wd : Wd) (ds : List D) (Po : D → Mem → Prop) (PX : XN → Mem → Prop) (Q : VK) (E : XK), Room k A → A.guards = some [] →
    Env0 P w K mg base A outer s wd.H → BindsTo s fd args (ps.zip us) → Vals vs us → SimG K R wd → RepL K R wd vs ds → fs ds wd.M Po PX →
    (∀ d wd' v, Po d wd'.M → Le K wd wd' → SimG K R wd' → Rep K R wd' v d → Q v wd'.H) → (∀ x wd' c dx, PX x wd'.M → Le K wd wd' → SimG K R wd' → XR R wd' c dx x → E c dx wd'.H) →
    codeAny (model P w) A (.call (.ref f) args) (CR (L2.CX P w) outer P w wd.H s Q E) s
theorem FnG.imp {P : Program} {w : World} {K : PySem.W.Frag} {mg : Str → Option Value} {base : Heap} {XR : List Addr → Wd → Value → Option Addr → XN → Prop} {k : Nat} {f : Addr} {fd : FuncData} {ps : List Str} {fs fs' : FS} (F : FnG P w K mg base XR k f fd ps fs)
    (h : ∀ ds M Po PX, fs' ds M Po PX → fs ds M Po PX) : FnG P w K mg base XR k f fd ps fs' :=
  ⟨fun ds M Po PX q => F.len _ _ _ _ (h _ _ _ _ q), fun A outer s args us vs R wd ds Po PX Q E hr hg e0 hb r g rs q => F.run A outer s args us vs R wd ds Po PX Q E hr hg e0 hb r g rs (h _ _ _ _ q)⟩
theorem FnG.mono {P : Program} {w : World} {K : PySem.W.Frag} {mg : Str → Option Value} {base : Heap} {XR : List Addr → Wd → Value → Option Addr → XN → Prop} {j k : Nat} {f : Addr} {fd : FuncData} {ps : List Str} {fs : FS} (F : FnG P w K mg base XR j f fd ps fs)
    (h : j ≤ k) : FnG P w K mg base XR k f fd ps fs := ⟨F.len, fun A outer s args us vs R wd ds Po PX Q E hr => F.run A outer s args us vs R wd ds Po PX Q E (hr.mono h)⟩

/-- the places of the parameters' values among the written arguments -/
def permOf (ps : List Str) (n : Nat) (ks : List Str) : List Nat := (List.range ps.length).map fun i => if i < n then i else n + ks.idxOf (ps.getD i "")
def BindsP (fd : FuncData) (ps : List Str) (n : Nat) (ks : List Str) : Prop :=
  ∀ us ws : List Value, us.length = n → ws.length = ks.length → bindArgs fd ⟨us, ks.zip ws⟩ = pure (ps.zip (permute (us ++ ws) (permOf ps n ks)))
section
variable {K : PySem.W.Frag} {R : List Addr} {wd : Wd}
theorem repL_get2 : ∀ {vs : List V} {ds : List D} {i : Nat}, RepL K R wd vs ds → (∃ v d, vs[i]? = some v ∧ ds[i]? = some d ∧ Rep K R wd v d) ∨ (vs[i]? = none ∧ ds[i]? = none)
  | _, _, _, .nil => .inr ⟨by simp, by simp⟩
  | _, _, 0, .cons r _ => .inl ⟨_, _, rfl, rfl, r⟩
  | _, _, i + 1, .cons _ t => by
    have q := repL_get2 (i := i) t
    simpa using q
theorem repL_perm {vs : List V} {ds : List D} (h : RepL K R wd vs ds) : ∀ (ks : List Nat), RepL K R wd (permute vs ks) (permute ds ks)
  | [] => .nil
  | k :: ks => by
    unfold permute
    rcases repL_get2 (i := k) h with ⟨v, d, e1, e2, r⟩ | ⟨e1, e2⟩
    · rw [List.filterMap_cons, List.filterMap_cons, e1, e2]
      exact .cons r (repL_perm h ks)
    · rw [List.filterMap_cons, List.filterMap_cons, e1, e2]
      exact repL_perm h ks
theorem vals_perm {vs : List V} {us : List Value} (h : Vals vs us) : ∀ (ks : List Nat), Vals (permute vs ks) (permute us ks)
  | [] => .nil
  | k :: ks => by
    have z : ∀ {vs : List V} {us : List Value} {i : Nat}, Vals vs us → (∃ v u, vs[i]? = some v ∧ us[i]? = some u ∧ RelV v u) ∨ (vs[i]? = none ∧ us[i]? = none) := by
      intro vs us i h
      induction h generalizing i with
      | nil => exact .inr ⟨by simp, by simp⟩
      | cons r _ ih =>
        cases i with
        | zero => exact .inl ⟨_, _, rfl, rfl, r⟩
        | succ i => simpa using ih (i := i)
    unfold permute
    rcases z (i := k) h with ⟨v, d, e1, e2, r⟩ | ⟨e1, e2⟩
    · rw [List.filterMap_cons, List.filterMap_cons, e1, e2]
      exact .cons r (vals_perm h ks)
    · rw [List.filterMap_cons, List.filterMap_cons, e1, e2]
      exact vals_perm h ks
end
section
variable {X : Cx} {T : Tb} {EX : Xk} {k : Nat} {f : Addr} {fd : FuncData} {ps ks : List Str} {x : Str} {p pos : Pos} {e : Expr} {es : List Expr} {kws : List Keyword} {ies iks : List E}
theorem run_g {fs : FS} {pins : List (Addr × Obj)} {σ : L2.St} {s : Shared} {Q : VK} {us ws : List Value} {vs zs : List V} {R : List Addr} {env : Env} {w w1 : Wd} {ds : List D} {P : Rs → Mem → Prop} (F : FnG X.prog X.w X.K X.mg X.base EX.xr k f fd ps fs) (hr : Room k X.A) (hg : X.A.guards = some []) (tk : Takes X EX.W) (hb : BindsP fd ps us.length ks) (hw : ws.length = ks.length)
    (I : Inv X pins σ w1.H s) (r : Vals (vs ++ zs) (us ++ ws)) (sim1 : Sim X.K R EX env w1 σ) (l : Le X.K w w1) (rs : RepL X.K R w1 (vs ++ zs) ds) (h : fs (permute ds (permOf ps us.length ks)) w1.M (fun d M2 => P (.val d) M2) (fun x M2 => EX.ex x env M2))
    (fin : ∀ r M', P r M' → Out X.K R w Q r M') : wpAny (model X.prog X.w) X.A (call (.ref f) us (ks.zip ws)) (EP X pins σ Q) X.xe s := by
  refine wpAny_call (codeAny_mono (F.run X.A X.stack s ⟨us, ks.zip ws⟩ (permute (us ++ ws) (permOf ps us.length ks)) (permute (vs ++ zs) (permOf ps us.length ks)) R w1 (permute ds (permOf ps us.length ks)) _ _ Q (fun c dx H => EX.W c dx σ H) hr hg I.env0
    (.of_eq (hb us ws rfl hw)) (vals_perm r _) sim1.g (repL_perm rs _) h (fun d w2 v pd l2 g2 rv => fin _ w2.M pd w2 v (l.trans l2) rfl g2 rv) fun x w2 c dx px l2 g2 xr => sim1.exc x env w2 σ c dx px l2 (sim1.toSim0.move l2 g2) xr) fun r s' hq => ?_)
  cases r with
  | error e => exact tk e s' (XE.of_call I (fun _ _ _ h => h) hq)
  | ok fl =>
    cases fl with
    | ret u => exact I.after hq
    | next => exact False.elim hq
    | brk => exact False.elim hq
    | cont => exact False.elim hq
theorem vals_length {vs : List V} {us : List Value} (h : Vals vs us) : vs.length = us.length := h.length
/-- f(e, ..), no keywords -/
theorem se_call (F : FnG X.prog X.w X.K X.mg X.base EX.xr k f fd ps (T x)) (hr : Room k X.A) (hgd : X.A.guards = some []) (tk : Takes X EX.W) (hg : Gl X x) (hm : X.mg x = some (.ref f)) (hk : PySem.W.keepIn X.K (.ref f) = true) (hb : BindsP fd ps (e :: es).length [])
    (ha : PA X (e :: es) (tL X.K T EX ies)) (hdb : (x == ("__debug__" : Str)) = false) (he : starEach (e :: es) X.env = (false, eval e X.env) :: starEach es X.env) (hpl : (backTo pos (starEach es X.env)).any (·.1) = false) (hlen : ies.length = (e :: es).length) :
    PE X (.Call (.Name x p) (e :: es) [] pos) (tR X.K T EX (.call x ies (permOf ps (e :: es).length []))) := by
  refine ⟨fun pins s σ H Q I ⟨R, env, w, P, ew, sim, ev, fin⟩ => ?_⟩
  subst ew
  refine wpAny_Call_Name_kw (ld_glob I hg hm ?_ hdb)
  refine PySem.W.callWith_K (h₀ := X.base) I.ok.mod.kin hk (thn (ha.run pos pins s σ w.H (fun vs H1 => vs.length = (e :: es).length ∧ ∃ (w1 : Wd) (ds : List D), w1.H = H1 ∧ Le X.K w w1 ∧ Sim X.K R EX env w1 σ ∧ RepL X.K R w1 vs ds ∧ T x (permute ds (permOf ps (e :: es).length [])) w1.M (fun d M2 => P (.val d) M2) (fun x M2 => EX.ex x env M2)) I ?_) fun us s1 ⟨vs, H1, I1, r, hl, w1, ds, e1, l1, sim1, rs, q⟩ => ⟨I1.kIn, ?_⟩) he hpl
  · have ev' : evL T EX.ex ies env w.M fun ds M1 => T x (permute ds (permOf ps (e :: es).length [])) M1 (fun d M2 => P (.val d) M2) (fun x M2 => EX.ex x env M2) := ev
    refine tL_len sim ev' fun ds w1 vs hl h1 l1 sim1 rs => ⟨?_, w1, ds, rfl, l1, sim1, rs, h1⟩
    rw [repL_len rs, hl, hlen]
  · subst e1
    have hl2 : us.length = (e :: es).length := by rw [← vals_length r]; exact hl
    have hb2 : BindsP fd ps us.length [] := by rw [hl2]; exact hb
    have q2 : T x (permute ds (permOf ps us.length [])) w1.M (fun d M2 => P (.val d) M2) (fun x M2 => EX.ex x env M2) := by rw [hl2]; exact q
    exact run_g (vs := vs) (zs := []) (ws := []) (ks := []) F hr hgd tk hb2 rfl I1 (by simpa using r) sim1 l1 (by simpa using rs) q2 fin

theorem sk_nil : PK X [] (tL X.K T EX []) := ⟨fun pos pins s σ H Q I ⟨R, env, w, P, e, sim, ev, fin⟩ => pk_nil.run pos pins s σ H Q I (by
  subst e
  exact fin [] w.M w [] rfl ev (Le.refl w) rfl sim.g .nil)⟩
theorem sk_cons {ia : E} {nm : Option Str} {kpos : Pos} (ha : PE X e (tR X.K T EX ia)) (hr : PK X kws (tL X.K T EX iks)) : PK X (⟨nm, e, kpos⟩ :: kws) (tL X.K T EX (ia :: iks)) :=
  ⟨fun pos pins s σ H Q I ⟨R, env, w, P, e, sim, ev, fin⟩ => (pk_cons ha hr).run pos pins s σ H Q I (by
    subst e
    refine tR_val sim ev fun dx w1 x h1 l1 sim1 rx => ?_
    refine tL_len sim1 h1 fun ds w2 vs hl h2 l2 sim2 rs => ?_
    exact fin _ w2.M w2 _ (congrArg (· + 1) hl) h2 (l1.trans l2) rfl sim2.g (.cons (rx.mono l2) rs))⟩
theorem evL_app {env : Env} {iks : List E} : ∀ {ies : List E} {P : List D → Mem → Prop} {M : Mem}, evL T EX.ex (ies ++ iks) env M P = evL T EX.ex ies env M fun ds M1 => evL T EX.ex iks env M1 fun es M2 => P (ds ++ es) M2
  | [], _, _ => rfl
  | i :: ies, P, M => by
    show evR T EX.ex i env M (asVal fun d M1 => evL T EX.ex (ies ++ iks) env M1 fun ds M2 => P (d :: ds) M2) = evR T EX.ex i env M (asVal fun d M1 => evL T EX.ex ies env M1 fun ds M2 => evL T EX.ex iks env M2 fun es M3 => P (d :: ds ++ es) M3)
    refine congrArg (evR T EX.ex i env M) (congrArg asVal ?_)
    funext d M1
    exact evL_app
/-- f(e, .., k = v, ..) -/
theorem se_callK (F : FnG X.prog X.w X.K X.mg X.base EX.xr k f fd ps (T x)) (hr : Room k X.A) (hgd : X.A.guards = some []) (tk : Takes X EX.W) (hg : Gl X x) (hm : X.mg x = some (.ref f)) (hk : PySem.W.keepIn X.K (.ref f) = true) (hb : BindsP fd ps (e :: es).length ks)
    (ha : PA X (e :: es) (tL X.K T EX ies)) (hkw : PK X kws (tL X.K T EX iks)) (hall : (backToKw pos (keywordEach kws X.env)).all (·.1.isSome) = true) (hks : (backToKw pos (keywordEach kws X.env)).filterMap (·.1) = ks)
    (hdb : (x == ("__debug__" : Str)) = false) (he : starEach (e :: es) X.env = (false, eval e X.env) :: starEach es X.env)
    (hpl : ((backTo pos (starEach (e :: es) X.env)).any (·.1) || (backToKw pos (keywordEach kws X.env)).any (·.1.isNone)) = false) (hlen : ies.length = (e :: es).length) (hlen2 : iks.length = ks.length) :
    PE X (.Call (.Name x p) (e :: es) kws pos) (tR X.K T EX (.call x (ies ++ iks) (permOf ps (e :: es).length ks))) := by
  refine ⟨fun pins s σ H Q I ⟨R, env, w, P, ew, sim, ev, fin⟩ => ?_⟩
  subst ew
  have ev' : evL T EX.ex (ies ++ iks) env w.M fun ds M1 => T x (permute ds (permOf ps (e :: es).length ks)) M1 (fun d M2 => P (.val d) M2) (fun x M2 => EX.ex x env M2) := ev
  rw [evL_app] at ev'
  refine wpAny_Call_Name_kw (ld_glob I hg hm ?_ hdb)
  refine PySem.W.callWith_KW (h₀ := X.base) I.ok.mod.kin hk hall (thn (ha.run pos pins s σ w.H (fun vs H1 => vs.length = (e :: es).length ∧ ∃ (w1 : Wd) (ds : List D), w1.H = H1 ∧ Le X.K w w1 ∧ Sim X.K R EX env w1 σ ∧ RepL X.K R w1 vs ds ∧ evL T EX.ex iks env w1.M fun es' M2 => T x (permute (ds ++ es') (permOf ps (e :: es).length ks)) M2 (fun d M2 => P (.val d) M2) (fun x M2 => EX.ex x env M2)) I ?_) fun us s1 ⟨vs, H1, I1, r, hl, w1, ds, e1, l1, sim1, rs, q⟩ => ?_) hpl he
  · refine tL_len sim ev' fun ds w1 vs hl h1 l1 sim1 rs => ⟨?_, w1, ds, rfl, l1, sim1, rs, h1⟩
    rw [repL_len rs, hl, hlen]
  · subst e1
    refine thn (hkw.run pos pins s1 σ w1.H (fun zs H2 => zs.length = ks.length ∧ ∃ (w2 : Wd) (es' : List D), w2.H = H2 ∧ Le X.K w1 w2 ∧ Sim X.K R EX env w2 σ ∧ RepL X.K R w2 zs es' ∧ T x (permute (ds ++ es') (permOf ps (e :: es).length ks)) w2.M (fun d M2 => P (.val d) M2) (fun x M2 => EX.ex x env M2)) I1 ?_) fun ws s2 ⟨zs, H2, I2, rz, hl2, w2, es', e2, l2, sim2, rs2, q2⟩ => ⟨I2.kIn, ?_⟩
    · refine tL_len sim1 q fun ds2 w2 vs2 hl2 h2 l2 sim2 rs2 => ⟨?_, w2, ds2, rfl, l2, sim2, rs2, h2⟩
      rw [repL_len rs2, hl2, hlen2]
    · subst e2
      have hl3 : us.length = (e :: es).length := by rw [← vals_length r]; exact hl
      have hb2 : BindsP fd ps us.length ks := by rw [hl3]; exact hb
      rw [hks]
      refine run_g (vs := vs) (zs := zs) F hr hgd tk hb2 (by rw [← vals_length rz]; exact hl2) I2 (r.append rz) sim2 (l1.trans l2) (repL_append (RepL.mono l2 rs) rs2) ?_ fin
      rw [List.nil_append, hl3]; exact q2
theorem se_callK0 (F : FnG X.prog X.w X.K X.mg X.base EX.xr k f fd ps (T x)) (hr : Room k X.A) (hgd : X.A.guards = some []) (tk : Takes X EX.W) (hg : Gl X x) (hm : X.mg x = some (.ref f)) (hk : PySem.W.keepIn X.K (.ref f) = true) (hb : BindsP fd ps 0 ks)
    (hkw : PK X kws (tL X.K T EX iks)) (hall : (backToKw pos (keywordEach kws X.env)).all (·.1.isSome) = true) (hks : (backToKw pos (keywordEach kws X.env)).filterMap (·.1) = ks)
    (hdb : (x == ("__debug__" : Str)) = false) (hpl : ((backTo pos (starEach [] X.env)).any (·.1) || (backToKw pos (keywordEach kws X.env)).any (·.1.isNone)) = false) (hlen2 : iks.length = ks.length) :
    PE X (.Call (.Name x p) [] kws pos) (tR X.K T EX (.call x iks (permOf ps 0 ks))) := by
  refine ⟨fun pins s σ H Q I ⟨R, env, w, P, ew, sim, ev, fin⟩ => ?_⟩
  subst ew
  have ev' : evL T EX.ex iks env w.M fun ds M1 => T x (permute ds (permOf ps 0 ks)) M1 (fun d M2 => P (.val d) M2) (fun x M2 => EX.ex x env M2) := ev
  refine wpAny_Call_Name_kw (ld_glob I hg hm ?_ hdb)
  refine PySem.W.callWith_KW0 (h₀ := X.base) I.ok.mod.kin hk hall (thn (hkw.run pos pins s σ w.H (fun zs H2 => zs.length = ks.length ∧ ∃ (w2 : Wd) (es' : List D), w2.H = H2 ∧ Le X.K w w2 ∧ Sim X.K R EX env w2 σ ∧ RepL X.K R w2 zs es' ∧ T x (permute es' (permOf ps 0 ks)) w2.M (fun d M2 => P (.val d) M2) (fun x M2 => EX.ex x env M2)) I ?_) fun ws s2 ⟨zs, H2, I2, rz, hl2, w2, es', e2, l2, sim2, rs2, q2⟩ => ⟨I2.kIn, ?_⟩) hpl
  · refine tL_len sim ev' fun ds2 w2 vs2 hl2 h2 l2 sim2 rs2 => ⟨?_, w2, ds2, rfl, l2, sim2, rs2, h2⟩
    rw [repL_len rs2, hl2, hlen2]
  · subst e2
    rw [hks]
    exact run_g (vs := []) (us := []) (zs := zs) F hr hgd tk hb (by rw [← vals_length rz]; exact hl2) I2 (by simpa using rz) sim2 l2 (by simpa using rs2) q2 fin
end
end Pd

namespace Pd
open PySem L2 PyProof.Rows

structure Fi where
  ps : List Str
  pats : List (Nat × List Str)
structure Cc where
  N : List Str
  sc : Scope
  wr : Scope
  blk : Bool
  fns : List (Str × Fi)
  cns : List (Str × PyData)
  own : List Str
  al : List (Nat × Nat)

def mapO {α β : Type} (f : α → Option β) : List α → Option (List β)
  | [] => some []
  | a :: r => match f a, mapO f r with
    | some b, some bs => some (b :: bs)
    | _, _ => none
def ixOf : List Str → Str → Option Nat
  | [], _ => none
  | y :: r, x => if x = y then some 0 else (ixOf r x).map (· + 1)
theorem ixOf_get : ∀ {l : List Str} {x : Str} {i : Nat}, ixOf l x = some i → l[i]? = some x
  | y :: r, x, i, h => by
    unfold ixOf at h
    split at h
    · rename_i e; cases h; subst e; rfl
    · obtain ⟨j, h1, h2⟩ := Option.map_eq_some_iff.mp h
      subst h2
      have := ixOf_get h1
      simpa using this
def dbg (x : Str) : Bool := x == ("__debug__" : Str) || x == ("__classdict__" : Str) || x == ("__name__" : Str)
theorem dbg_no {x : Str} (h : dbg x = false) : (x == ("__debug__" : Str)) = false ∧ (x == ("__classdict__" : Str)) = false ∧ x ≠ ("__name__" : Str) := by
  unfold dbg at h
  rw [Bool.or_eq_false_iff, Bool.or_eq_false_iff] at h
  exact ⟨h.1.1, h.1.2, by simpa using h.2⟩
def Cc.inner (C : Cc) (scope : Scope) : Cc := { C with sc := relS scope C.sc, wr := scope, blk := true }
def Cc.glob (C : Cc) (x : Str) : Bool := decide (C.sc.names.lookup x = some .globalImplicit) && !dbg x
def Cc.nw (C : Cc) (pos : Pos) (i : E) : E := if C.al.contains (pos.line, pos.col) then .new i else i
def Cc.loc (C : Cc) (x : Str) : Bool := match C.sc.names.lookup x with
  | some .local => true
  | some .cell => !C.blk || decide (C.wr.names.lookup x = some .cell)
  | _ => false

def nStar : Expr → Bool
  | .Starred .. => false
  | _ => true
def nSl : Expr → Bool
  | .Slice .. => false
  | _ => true
def nSup : Expr → Bool
  | .Call (.Name _ _) [] [] _ => false
  | _ => true
def nComp : Expr → Bool
  | .ListComp .. => false
  | .SetComp .. => false
  | .DictComp .. => false
  | _ => true
def nSet : Expr → Bool
  | .Set .. => false
  | _ => true
def constOf : Const → Option PyData
  | .int i => some (.int i)
  | .bool b => some (.bool b)
  | .none => some .none
  | .str s => some (.str s)
  | _ => none
def biL : List ((Str × Nat) × BI) := [(("len", 1), .len), (("abs", 1), .abs), (("sum", 1), .sum), (("all", 1), .all), (("any", 1), .any), (("int", 1), .int), (("tuple", 1), .tuple), (("list", 1), .list), (("sorted", 1), .sorted), (("repr", 1), .repr), (("max", 1), .max), (("min", 1), .min), (("max", 2), .max2), (("min", 2), .min2)]
def biOf (x : Str) (n : Nat) : Option BI := biL.lookup (x, n)
def tyOf (x : Str) : Option String :=
  if x = "int" then some "int" else if x = "bool" then some "bool" else if x = "str" then some "str" else if x = "list" then some "list" else if x = "tuple" then some "tuple" else if x = "dict" then some "dict" else none
def mtOf (x : Str) (n : Nat) : Option MT :=
  if x = "append" ∧ n = 1 then some .append else if x = "pop" ∧ n = 0 then some .pop else if x = "extend" ∧ n = 1 then some .extend else none
def kwNames : List Keyword → Option (List Str)
  | [] => some []
  | ⟨some x, _, _⟩ :: r => (kwNames r).map (x :: ·)
  | _ => none
def callOf (f : Expr → Option E) (C : Cc) (x : Str) (args : List Expr) (kws : List Keyword) (pos : Pos) : Option E :=
  if C.glob x = true ∧ args.all nStar = true then
    match C.fns.lookup x with
    | some fi => match mapO f args, mapO (fun k : Keyword => f k.value) kws, kwNames kws with
      | some as, some ks, some ns => if fi.pats.contains (args.length, ns) then some (.call x (as ++ ks) (permOf fi.ps args.length ns)) else none
      | _, _, _ => none
    | none => if C.own.contains x = false then none else match kws with
      | [] => if x = "isinstance" then match args with
          | [a, .Name y _] => match f a, tyOf y with
            | some ia, some T => if C.glob y = true ∧ C.own.contains y = true then some (.isi ia T) else none
            | _, _ => none
          | _ => none
        else match args, biOf x args.length, mapO f args with
          | _ :: _, some b, some as => some (C.nw pos (.bi b as))
          | _, _, _ => none
      | _ => none
  else none
def tgOf (f : Expr → Option E) (C : Cc) : Nat → Expr → Option Tg
  | _, .Name x _ => if C.loc x = true then (ixOf C.N x).map .var else none
  | n + 1, .Tuple es _ _ => if es.all nStar = true then (mapO (tgOf f C n) es).map .tup else none
  | _, .Subscript o i _ => if nSl i = true then match f o, f i with
      | some a, some b => some (.sub a b)
      | _, _ => none
    else none
  | _, _ => none
def isTup : Expr → Bool
  | .Tuple .. => true
  | _ => false
def srcX (f : Expr → Option E) (C : Cc) (tg : Expr) : Expr → Option Src
  | .Call (.Name x _) [a] [] _ =>
    if C.glob x = true ∧ C.own.contains x = true ∧ nStar a = true then match f a with
      | some i => if x = "range" then some (.rng (.cst (.int 0)) i) else if x = "enumerate" ∧ isTup tg = true then some (.enum i) else none
      | none => none
    else none
  | .Call (.Name x _) [a, b] [] _ =>
    if C.glob x = true ∧ C.own.contains x = true ∧ nStar a = true ∧ nStar b = true then match f a, f b with
      | some i, some j => if x = "range" then some (.rng i j) else if x = "zip" ∧ isTup tg = true then some (.zip2 i j) else none
      | _, _ => none
    else none
  | _ => none
def srcOf (f : Expr → Option E) (C : Cc) (tg : Expr) (e : Expr) : Option Src := match srcX f C tg e with
  | some s => some s
  | none => if nSet e = true then (f e).map .seq else none
def ownOf (N : List Str) (sc : Scope) : List (Str × Nat) := sc.names.filterMap fun (n, k) => if k = .local ∨ k = .cell then (ixOf N n).map fun i => (n, i) else none
def ifsOf (f : Expr → Option E) : List Expr → Option (Option E)
  | [] => some none
  | [c] => (f c).map some
  | _ => none
def compOf (f : Cc → Expr → Option E) (C : Cc) (n : Nat) (elt tg iter : Expr) (ifs : List Expr) (scope : Scope) : Option E :=
  if blkC C.N C.sc scope (ownOf C.N scope) = true ∧ nSet iter = true then
    match srcOf (f C) C tg iter, tgOf (f (C.inner scope)) (C.inner scope) n tg, ifsOf (f (C.inner scope)) ifs, f (C.inner scope) elt with
    | some src, some t, some oi, some ie => if tgIn t ((ownOf C.N scope).map (·.2)) = true then some (.comp ((ownOf C.N scope).map (·.2)) t src oi ie) else none
    | _, _, _, _ => none
  else none
def oOf (f : Expr → Option E) : Option Expr → Option (Option E)
  | none => some none
  | some e => (f e).map some
def cE : Nat → Cc → Expr → Option E
  | 0, _, _ => none
  | n + 1, C, e => match e with
    | .Name x _ => if dbg x = true then none else match C.sc.names.lookup x with
      | some .local => (ixOf C.N x).map .var
      | some .cell => (ixOf C.N x).map .var
      | some .free => (ixOf C.N x).map .var
      | some .globalImplicit => (C.cns.lookup x).map .cst
      | _ => none
    | .Constant c _ _ => (constOf c).map .cst
    | .Tuple es _ _ => if es.all nStar = true then (mapO (cE n C) es).map .tup else none
    | .List es pos => if es.all nStar = true then (mapO (cE n C) es).map fun is => C.nw pos (.lst is) else none
    | .Dict [] [] pos => some (C.nw pos .dnew)
    | .BinOp a o b pos => match cE n C a, cE n C b with
      | some i, some j => some (C.nw pos (.bin o i j))
      | _, _ => none
    | .UnaryOp .USub a _ => (cE n C a).map (.un .USub)
    | .UnaryOp .Not a _ => (cE n C a).map (.un .Not)
    | .Compare a [.Is] [.Constant .none _ _] _ => (cE n C a).map .isN
    | .Compare a [.IsNot] [.Constant .none _ _] _ => (cE n C a).map .notN
    | .Compare a [o] [b] _ => if behindInMarks o b = true then none else match cE n C a, cE n C b with
      | some i, some j => some (.cmp o i j)
      | _, _ => none
    | .Compare a [o1, o2] [b, c] _ => if behindInMarks o2 c = true then none else match cE n C a, cE n C b, cE n C c with
      | some i, some j, some k => some (.chain o1 o2 i j k)
      | _, _, _ => none
    | .BoolOp op [a] _ => cE n C a
    | .BoolOp op (a :: b :: r) pos => match cE n C a, cE n C (.BoolOp op (b :: r) pos) with
      | some i, some j => some (match op with
        | .And => .and i j
        | .Or => .or i j)
      | _, _ => none
    | .IfExp c a b _ => match cE n C c, cE n C a, cE n C b with
      | some k, some i, some j => some (.ite k i j)
      | _, _, _ => none
    | .Subscript a (.Slice none none (some (.UnaryOp .USub (.Constant (.int 1) _ _) _)) _) pos => (cE n C a).map fun i => C.nw pos (.rev i)
    | .Subscript a (.Slice lo hi none _) pos => match cE n C a, oOf (cE n C) lo, oOf (cE n C) hi with
      | some i, some l, some h => some (C.nw pos (.sl i l h))
      | _, _, _ => none
    | .Subscript a b _ => if nSl b = true then match cE n C a, cE n C b with
        | some i, some j => some (.ix i j)
        | _, _ => none
      else none
    | .Call (.Name x _) args kws pos => callOf (cE n C) C x args kws pos
    | .Call (.Attribute a m apos) args [] pos => if nSup a = true ∧ (apos.endLine == pos.line) = true ∧ args.all nStar = true ∧ args.length < 20 then match cE n C a, mapO (cE n C) args, mtOf m args.length with
        | some i, some as, some mt => some (.mth mt i as)
        | _, _, _ => none
      else none
    | .ListComp elt [⟨tg, iter, ifs, 0⟩] scope pos => (compOf (cE n) C n elt tg iter ifs scope).map fun i => C.nw pos i
    | _ => none

/-- the stores of a, b = .. by the scope -/
def swNames (sc : Scope) (ts : List Expr) : List Str := ts.filterMap fun
  | .Name id pos => if (sc.names.lookup id == some .local && pos.line == (ts.head?.map (·.pos.line)).getD 0) = true then some id else none
  | _ => none
def swP (sc : Scope) (ts vs : List Expr) : Option (Option (List Str)) :=
  if (!(ts.length == 2 || ts.length == 3) || vs.length != ts.length) = true then some none
  else if (vs.any fun | .Starred .. => true | _ => false) = true then some none
  else if ((swNames sc ts).length != ts.length || (swNames sc ts).eraseDups.length != (swNames sc ts).length) = true then some none
  else if vs.all (foldedForSure 8) = true then some none
  else if vs.all (constantsAlone 8) = true then none
  else some (some (swNames sc ts))
def swpOf (C : Cc) (scope : Scope) (x : Str) (p pos : Pos) : Bool := decide (C.sc.names.lookup x = some .local) && p.line == pos.line && !(scope.names.any fun (n, k) => n == x && (k == .local || k == .cell))
def asgOf (n : Nat) (C : Cc) (tg e : Expr) : Option S :=
  match tg, e with
  | .Name x p, .ListComp elt [⟨tg2, iter, ifs, 0⟩] scope pos => match compOf (cE n) C n elt tg2 iter ifs scope, ixOf C.N x with
    | some i, some k => if C.loc x = true then some (.asg (.var k) (C.nw pos i)) else none
    | _, _ => none
  | .Tuple ts _ _, .Tuple es _ _ => if ts.all nStar = true ∧ es.all nStar = true then match swP C.sc ts es, mapO (cE n C) es, mapO (tgOf (cE n C) C n) ts with
      | some none, some is, some gs => if gs.length = ts.length then some (.par gs is) else none
      | some (some [x, y]), some is, some _ => match ts, es, ixOf C.N x, ixOf C.N y with
        | [.Name x' _, .Name y' _], [_, _], some i, some j => if x' = x ∧ y' = y ∧ i ≠ j ∧ C.sc.names.lookup x = some .local ∧ C.sc.names.lookup y = some .local then some (.par [.var i, .var j] is) else none
        | _, _, _, _ => none
      | some (some [x, y, z]), some is, some _ => match ts, es, ixOf C.N x, ixOf C.N y, ixOf C.N z with
        | [.Name x' _, .Name y' _, .Name z' _], [_, _, _], some i, some j, some l => if x' = x ∧ y' = y ∧ z' = z ∧ i ≠ j ∧ i ≠ l ∧ j ≠ l ∧ C.sc.names.lookup x = some .local ∧ C.sc.names.lookup y = some .local ∧ C.sc.names.lookup z = some .local then some (.par [.var i, .var j, .var l] is) else none
        | _, _, _, _, _ => none
      | _, _, _ => none
    else none
  | .Name x _, e => if nComp e = true then match cE n C e, ixOf C.N x with
      | some i, some k => if C.loc x = true then some (.asg (.var k) i) else none
      | _, _ => none
    else none
  | tg, e => if nComp e = true ∧ nStar tg = true ∧ (isTup tg && isTup e) = false then match cE n C e, tgOf (cE n C) C n tg with
      | some i, some t => some (.asg t i)
      | _, _ => none
    else none
def isDoc : Stmt → Bool
  | .Expr (.Constant (.str _) _ _) _ => true
  | _ => false
def cS : Nat → Cc → Stmt → Option S
  | 0, _, _ => none
  | n + 1, C, s => match s with
    | .Assign [tg] e _ => asgOf n C tg e
    | .Expr e _ => if nComp e = true then (cE n C e).map .expr else none
    | .Return none _ => some .retN
    | .Return (some e) _ => (cE n C e).map .ret
    | .If c a b _ => match cE n C c, mapO (cS n C) a, mapO (cS n C) b with
      | some i, some x, some y => some (.ite i x y)
      | _, _, _ => none
    | .For tg iter body [] _ => if nSet iter = true then match srcOf (cE n C) C tg iter, tgOf (cE n C) C n tg, mapO (cS n C) body with
        | some src, some t, some b => some (.for_ t src b)
        | _, _, _ => none
      else none
    | .While c body [] _ => match cE n C c, mapO (cS n C) body with
      | some i, some b => some (.whl i b)
      | _, _ => none
    | .Break _ => some .brk
    | .Continue _ => some .cnt
    | .Pass _ => some .pass
    | _ => none
/-- a def's body (a docstring ahead is nothing) -/
def cB (n : Nat) (C : Cc) : List Stmt → Option (List S)
  | s :: r => if isDoc s = true then mapO (cS n C) r else mapO (cS n C) (s :: r)
  | [] => some []
end Pd

namespace Pd
open PySem L2 PyProof.Rows

/-- the context, as the translation knows it -/
structure CtxOk (C : Cc) (T : Tb) (EX : Xk) (X : Cx) : Prop where
  hN : X.N = C.N
  nd : X.N.Nodup
  sc : X.env.scope = C.sc
  kind : C.sc.kind = .function
  ok : Cok X
  fn : ∀ x, (C.blk = false ∨ C.wr.names.lookup x = some .cell) → X.fn x = true
  own : ∀ x, C.own.contains x = true → X.mg x = none
  fns : ∀ x fi, C.fns.lookup x = some fi → ∃ k f fd, X.mg x = some (.ref f) ∧ PySem.W.keepIn X.K (.ref f) = true ∧ FnG X.prog X.w X.K X.mg X.base EX.xr k f fd fi.ps (T x) ∧ Room k X.A ∧ ∀ pt, pt ∈ fi.pats → BindsP fd fi.ps pt.1 pt.2
  cns : ∀ x p, C.cns.lookup x = some p → ∃ v u, X.mg x = some u ∧ RelV v u ∧ ∀ (R : List Addr) (w : Wd), PRep X.K R w v p
  tk : Takes X EX.W
  pass : PassesOwn (model X.prog X.w) X.A X.env X.xe

section
variable {env : PySem.Env} {a : Expr} {es : List Expr} {pos : Pos}
theorem star_cons (h : nStar a = true) : starEach (a :: es) env = (false, eval a env) :: starEach es env := by
  cases a <;> first | rfl | cases h
theorem star_any (h : es.all nStar = true) : (backTo pos (starEach es env)).any (·.1) = false := by
  induction es with
  | nil => rfl
  | cons a es ih =>
    rw [List.all_cons, Bool.and_eq_true] at h
    rw [star_cons h.1]
    show (false || (backTo pos (starEach es env)).any (·.1)) = false
    rw [ih h.2]; rfl
theorem star_all (h : es.all nStar = true) : (backTo pos (starEach es env)).all (fun x => !x.1) = true := by
  induction es with
  | nil => rfl
  | cons a es ih =>
    rw [List.all_cons, Bool.and_eq_true] at h
    rw [star_cons h.1]
    show (!false && (backTo pos (starEach es env)).all (fun x => !x.1)) = true
    rw [ih h.2]; rfl
theorem plain_ix (h : nSl a = true) : PlainIx a := fun o i => by
  cases a <;> first | rfl | cases h
theorem base_of {m : Str} (h : nSup a = true) : attributeBase a m env (eval a env) = eval a env := by
  unfold attributeBase
  split
  · cases h
  · rfl
theorem folded_of (h : nSet a = true) (x : Value) : foldedSetIterable a env x = pure x := by
  unfold foldedSetIterable
  split
  · cases h
  · rfl
theorem swaps_of {o : Option Expr} {l : Nat} (h : nComp a = true) : swapsWith a o l env = pure false := by
  unfold swapsWith
  cases a <;> first | rfl | cases h
theorem swap_no {x : Str} {p : Pos} {l : Nat} {elt : Expr} {gs : List Comprehension} {scope : Scope} (h : swapsWith (.ListComp elt gs scope pos) (some (.Name x p)) l env ≠ pure true) : swapsWith (.ListComp elt gs scope pos) (some (.Name x p)) l env = pure false := by
  have e : ∃ b : Bool, swapsWith (.ListComp elt gs scope pos) (some (.Name x p)) l env = pure b := ⟨_, rfl⟩
  obtain ⟨b, e⟩ := e
  cases b with
  | true => exact absurd e h
  | false => exact e
theorem asg_sub (h : nSl es.head! = true) : True := trivial
theorem each_cons (h : nStar a = true) : assignEach (a :: es) env = (false, assign a env) :: assignEach es env := by
  cases a <;> first | rfl | cases h
theorem each_len (h : es.all nStar = true) : (assignEach es env).length = es.length := by
  induction es with
  | nil => rfl
  | cons a es ih =>
    rw [List.all_cons, Bool.and_eq_true] at h
    rw [each_cons h.1, List.length_cons, ih h.2]; rfl
theorem each_ix (h : es.all nStar = true) : (assignEach es env).findIdx? (·.1) = none := by
  induction es with
  | nil => rfl
  | cons a es ih =>
    rw [List.all_cons, Bool.and_eq_true] at h
    rw [each_cons h.1, List.findIdx?_cons, ih h.2]; rfl
theorem sub_asg {o i : Expr} (h : nSl i = true) (v : Value) : assign (.Subscript o i pos) env v = (do
      let ov ← holding [v] (eval o env)
      let iv ← holding [v, ov] (eval i env)
      standAt pos
      holding [v, ov, iv] (setItem ov iv v)
      release [v, ov, iv] []) := by
  cases i <;> first | rfl | cases h
theorem kw_all : ∀ {kws : List Keyword} {ns : List Str}, kwNames kws = some ns → (backToKw pos (keywordEach kws env)).all (·.1.isSome) = true ∧ (backToKw pos (keywordEach kws env)).filterMap (·.1) = ns ∧ (backToKw pos (keywordEach kws env)).any (·.1.isNone) = false
  | [], ns, h => by
    have h' : ([] : List Str) = ns := Option.some.inj h
    subst h'; exact ⟨rfl, rfl, rfl⟩
  | ⟨none, _, _⟩ :: _, _, h => by cases h
  | ⟨some x, e, p⟩ :: r, ns, h => by
    obtain ⟨m, h1, h2⟩ := Option.map_eq_some_iff.mp (show (kwNames r).map (x :: ·) = some ns from h)
    subst h2
    obtain ⟨q1, q2, q3⟩ := kw_all h1
    refine ⟨?_, ?_, ?_⟩
    · show (true && (backToKw pos (keywordEach r env)).all (·.1.isSome)) = true
      rw [q1]; rfl
    · show x :: (backToKw pos (keywordEach r env)).filterMap (·.1) = x :: m
      rw [q2]
    · show (false || (backToKw pos (keywordEach r env)).any (·.1.isNone)) = false
      rw [q3]; rfl
end
theorem kw_len : ∀ {kws : List Keyword} {ns : List Str}, kwNames kws = some ns → ns.length = kws.length
  | [], ns, h => by
    have h' : ([] : List Str) = ns := Option.some.inj h
    subst h'; rfl
  | ⟨none, _, _⟩ :: _, _, h => by cases h
  | ⟨some x, e, p⟩ :: r, ns, h => by
    obtain ⟨m, h1, h2⟩ := Option.map_eq_some_iff.mp (show (kwNames r).map (x :: ·) = some ns from h)
    subst h2
    exact congrArg (· + 1) (kw_len h1)
theorem mapO_len {α β : Type} {f : α → Option β} : ∀ {l : List α} {bs : List β}, mapO f l = some bs → bs.length = l.length
  | [], bs, h => by
    have h' : ([] : List β) = bs := Option.some.inj h
    subst h'; rfl
  | a :: r, bs, h => by
    unfold mapO at h
    split at h
    · rename_i b bs' h1 h2
      cases h
      exact congrArg (· + 1) (mapO_len h2)
    · cases h
theorem mapO_cons {α β : Type} {f : α → Option β} {a : α} {r : List α} {bs : List β} (h : mapO f (a :: r) = some bs) : ∃ b bs', bs = b :: bs' ∧ f a = some b ∧ mapO f r = some bs' := by
  unfold mapO at h
  split at h
  · rename_i b bs' h1 h2
    cases h
    exact ⟨b, bs', rfl, h1, h2⟩
  · cases h

/-- the built-ins by their names -/
theorem bi_all : ∀ p, p ∈ biL → bootBuiltins p.1.1 = some (biV p.2) := by
  simp only [biL, List.forall_mem_cons]
  exact ⟨rfl, rfl, rfl, rfl, rfl, rfl, rfl, rfl, rfl, rfl, rfl, rfl, rfl, rfl, fun _ h => nomatch h⟩
theorem lookup_memP {α β : Type} [BEq α] [LawfulBEq α] : ∀ {l : List (α × β)} {x : α} {b : β}, l.lookup x = some b → (x, b) ∈ l
  | (k, v) :: r, x, b, h => by
    rw [List.lookup_cons] at h
    split at h
    · rename_i e
      cases h
      have : x = k := by simpa using e
      rw [this]; exact List.mem_cons_self ..
    · exact List.mem_cons_of_mem _ (lookup_memP h)
theorem bi_boot {x : Str} {n : Nat} {b : BI} (h : biOf x n = some b) : bootBuiltins x = some (biV b) := bi_all _ (lookup_memP h)
theorem ty_boot {x : Str} {T : String} (h : tyOf x = some T) : bootBuiltins x = some (.type T) ∧ isOneOf T := by
  unfold tyOf at h
  repeat' split at h
  all_goals first | (cases h; rename_i e; subst e; exact ⟨rfl, by unfold isOneOf; simp⟩) | cases h
theorem mt_of {x : Str} {n : Nat} {m : MT} (h : mtOf x n = some m) : Slot "list" x (mtId m) ∧ typeOf (.builtin (mtId m)) = pure (.type "method_descriptor") := by
  unfold mtOf at h
  split at h
  · rename_i e; cases h; rw [e.1]; exact ⟨F.slot_list_append, F.type_list_append⟩
  · split at h
    · rename_i e; cases h; rw [e.1]; exact ⟨F.slot_list_pop, F.type_list_pop⟩
    · split at h
      · rename_i e; cases h; rw [e.1]; exact ⟨F.slot_list_extend, F.type_list_extend⟩
      · cases h

structure Snd (X : Cx) (T : Tb) (EX : Xk) (e : Expr) (i : E) : Prop where
  pe : PE X e (tR X.K T EX i)
  pt : PT X e (tT X.K T EX i)
  pw : ∀ op es pos, e = .BoolOp op es pos → PW X e (tT X.K T EX i)
section
variable {X : Cx} {T : Tb} {EX : Xk} {C : Cc} {f : Expr → Option E}
theorem sl_all (hf : ∀ e i, f e = some i → PE X e (tR X.K T EX i)) : ∀ {es : List Expr} {is : List E}, es.all nStar = true → mapO f es = some is → PA X es (tL X.K T EX is)
  | [], is, _, h => by
    have h' : ([] : List E) = is := Option.some.inj h
    subst h'; exact sl_nil
  | a :: r, is, hs, h => by
    rw [List.all_cons, Bool.and_eq_true] at hs
    obtain ⟨i, is', rfl, h1, h2⟩ := mapO_cons h
    exact sl_cons (hf _ _ h1) (sl_all hf hs.2 h2) (star_cons hs.1)
theorem sk_all (hf : ∀ e i, f e = some i → PE X e (tR X.K T EX i)) : ∀ {kws : List Keyword} {is : List E}, mapO (fun k : Keyword => f k.value) kws = some is → PK X kws (tL X.K T EX is)
  | [], is, h => by
    have h' : ([] : List E) = is := Option.some.inj h
    subst h'; exact sk_nil
  | ⟨nm, e, p⟩ :: r, is, h => by
    obtain ⟨i, is', rfl, h1, h2⟩ := mapO_cons h
    exact sk_cons (hf _ _ h1) (sk_all hf h2)
theorem gl_of (c : CtxOk C T EX X) {x : Str} (h : C.glob x = true) : Gl X x ∧ (x == ("__debug__" : Str)) = false ∧ x ≠ ("__name__" : Str) := by
  unfold Cc.glob at h
  rw [Bool.and_eq_true] at h
  obtain ⟨h1, h2⟩ := h
  obtain ⟨d1, d2, d3⟩ := dbg_no (x := x) (by simpa using h2)
  refine ⟨?_, d1, d3⟩
  show X.env.scope.names.lookup x = _
  rw [c.sc]
  exact of_decide_eq_true h1
theorem st_plain {e : Expr} {i : E} (h : PE X e (tR X.K T EX i)) (he : ∀ whole, PySem.isTrue e X.env whole = (do let v ← whole; standAt e.pos; holding [v] (truthy v))) (hb : ∀ op es pos, e ≠ .BoolOp op es pos) : Snd X T EX e i :=
  ⟨h, st_val h he, fun op es pos q => absurd q (hb op es pos)⟩
theorem se_nw {e : Expr} {i : E} {pos : Pos} (h : PE X e (tR X.K T EX i)) : PE X e (tR X.K T EX (C.nw pos i)) := by
  unfold Cc.nw
  split
  · exact se_new h
  · exact h
theorem st_ifx {c a b : Expr} {ic ia ib : E} {pos : Pos} (hc : PT X c (tT X.K T EX ic)) (ha : PT X a (tT X.K T EX ia)) (hb : PT X b (tT X.K T EX ib)) : PT X (.IfExp c a b pos) (tT X.K T EX (.ite ic ia ib)) :=
  ⟨fun pins s σ H Q I ⟨R, env, w, P, e, sim, ev, fin⟩ => by
    subst e
    have ev2 : evR T EX.ex ic env w.M (asVal fun x M1 => ∃ k, x = .v (.bool k) ∧ if k = true then evR T EX.ex ia env M1 (asVal fun d M1 => ∃ b, d = .v (.bool b) ∧ P b M1) else evR T EX.ex ib env M1 (asVal fun d M1 => ∃ b, d = .v (.bool b) ∧ P b M1)) := ev
    have hd : tT X.K T EX ic σ w.H fun k H1 => if k = true then tT X.K T EX ia σ H1 Q else tT X.K T EX ib σ H1 Q := by
      refine tT_of sim (P := fun k M1 => if k = true then evR T EX.ex ia env M1 (asVal fun d M1 => ∃ b, d = .v (.bool b) ∧ P b M1) else evR T EX.ex ib env M1 (asVal fun d M1 => ∃ b, d = .v (.bool b) ∧ P b M1)) ev2 fun k w1 h1 l1 sim1 => ?_
      cases k with
      | true =>
        rw [if_pos rfl] at h1 ⊢
        exact tT_of sim1 h1 fun b w2 p l2 sim2 => fin b w2.M w2 p (l1.trans l2) rfl sim2.g
      | false =>
        rw [if_neg Bool.false_ne_true] at h1 ⊢
        exact tT_of sim1 h1 fun b w2 p l2 sim2 => fin b w2.M w2 p (l1.trans l2) rfl sim2.g
    unfold PySem.isTrue
    refine wpAny_bind (thn (hc.run pins s σ w.H _ I hd) fun k s1 ⟨H1, I1, q⟩ => ?_)
    cases k with
    | true => exact ha.run pins s1 σ H1 Q I1 (by simpa using q)
    | false => exact hb.run pins s1 σ H1 Q I1 (by simpa using q)⟩
/-- a call by a name -/
theorem call_ok (c : CtxOk C T EX X) (hf : ∀ e i, f e = some i → PE X e (tR X.K T EX i)) {x : Str} {args : List Expr} {kws : List Keyword} {p pos : Pos} {i : E} (h : callOf f C x args kws pos = some i) : PE X (.Call (.Name x p) args kws pos) (tR X.K T EX i) := by
  unfold callOf at h
  split at h
  case isFalse => cases h
  case isTrue hg =>
  obtain ⟨hg, hst⟩ := hg
  obtain ⟨gl, d1, d3⟩ := gl_of c hg
  split at h
  · rename_i fi hfi
    obtain ⟨k, fa, fd, hm, hk, F, hr, hb⟩ := c.fns x fi hfi
    split at h
    · rename_i as ks ns h1 h2 h3
      split at h
      · rename_i hp
        cases h
        have hb2 := hb _ (List.contains_iff_mem.mp hp)
        obtain ⟨q1, q2, q3⟩ := kw_all (env := X.env) (pos := pos) h3
        have l2 : ks.length = ns.length := by rw [mapO_len h2, kw_len h3]
        cases args with
        | nil =>
          have e1 : as = [] := by have := mapO_len h1; exact List.eq_nil_of_length_eq_zero this
          subst e1
          exact se_callK0 F hr c.ok.gd c.tk gl hm hk hb2 (sk_all hf h2) q1 q2 d1 (by rw [q3]; rfl) l2
        | cons a r =>
          have hst' := hst
          rw [List.all_cons, Bool.and_eq_true] at hst'
          exact se_callK F hr c.ok.gd c.tk gl hm hk hb2 (sl_all hf hst h1) (sk_all hf h2) q1 q2 d1 (star_cons hst'.1) (by rw [q3, star_any hst]; rfl) (mapO_len h1) l2
      · cases h
    · cases h
  · split at h
    · cases h
    · rename_i ho
      have hm : X.mg x = none := c.own x (by simpa using ho)
      split at h
      · split at h
        · rename_i ex
          split at h
          · rename_i a y py
            split at h
            · rename_i ia Ts h1 h2
              split at h
              · rename_i hy
                cases h
                obtain ⟨gl2, e1, e3⟩ := gl_of c hy.1
                obtain ⟨b1, b2⟩ := ty_boot h2
                rw [List.all_cons, Bool.and_eq_true] at hst
                exact se_isi b2 gl hm (by rw [ex]; rfl) gl2 (c.own y hy.2) b1 (hf _ _ h1) d3 d1 e3 e1 (star_cons hst.1)
              · cases h
            · cases h
          · cases h
        · split at h
          · rename_i a r b as _ hb h1
            cases h
            have hst' := hst
            rw [List.all_cons, Bool.and_eq_true] at hst'
            exact se_nw (se_bi c.ok gl hm (bi_boot hb) (sl_all hf hst h1) d3 d1 (star_cons hst'.1) (star_any hst'.2))
          · cases h
      · cases h
theorem loc_of (c : CtxOk C T EX X) {x : Str} (h : C.loc x = true) : Loc X.env.scope x ∧ (X.fn x = true ∨ X.env.scope.names.lookup x = some .local) := by
  unfold Cc.loc at h
  rw [c.sc]
  split at h
  · rename_i e; exact ⟨.inl e, .inr e⟩
  · rename_i e
    refine ⟨.inr e, .inl (c.fn x ?_)⟩
    rw [Bool.or_eq_true] at h
    rcases h with h | h
    · exact .inl (by simpa using h)
    · exact .inr (of_decide_eq_true h)
  · cases h
theorem ix_of (c : CtxOk C T EX X) {x : Str} {i : Nat} (h : ixOf C.N x = some i) : X.N[i]? = some x := by
  rw [c.hN]; exact ixOf_get h
theorem tg_ok (c : CtxOk C T EX X) (hf : ∀ e i, f e = some i → PE X e (tR X.K T EX i)) : ∀ (n : Nat) (e : Expr) (t : Tg), tgOf f C n e = some t → PG X e (tTg X.K T EX t) := by
  intro n
  induction n with
  | zero =>
    intro e t h
    cases e <;> first | (unfold tgOf at h; cases h; done) | skip
    · rename_i o i p
      unfold tgOf at h
      split at h
      · rename_i hs
        split at h
        · rename_i a b h1 h2
          cases h
          exact sg_sub (hf _ _ h1) (hf _ _ h2) (sub_asg hs)
        · cases h
      · cases h
    · rename_i x p
      unfold tgOf at h
      split at h
      · rename_i hl
        obtain ⟨k, h1, h2⟩ := Option.map_eq_some_iff.mp h
        subst h2
        obtain ⟨l1, l2⟩ := loc_of c hl
        exact sg_var c.nd (ix_of c h1) l1 l2
      · cases h
  | succ n ih =>
    intro e t h
    have all : ∀ {es : List Expr} {ts : List Tg}, es.all nStar = true → mapO (tgOf f C n) es = some ts → PGs X es (tTgs X.K T EX ts) := by
      intro es
      induction es with
      | nil =>
        intro ts _ h
        have h' : ([] : List Tg) = ts := Option.some.inj h
        subst h'; exact sgs_nil
      | cons a r ih2 =>
        intro ts hs h
        rw [List.all_cons, Bool.and_eq_true] at hs
        obtain ⟨t, ts', rfl, h1, h2⟩ := mapO_cons h
        exact sgs_cons (ih _ _ h1) (ih2 hs.2 h2) (by rw [each_cons hs.1]; rfl)
    cases e <;> first | (unfold tgOf at h; cases h; done) | skip
    · rename_i o i p
      unfold tgOf at h
      split at h
      · rename_i hs
        split at h
        · rename_i a b h1 h2
          cases h
          exact sg_sub (hf _ _ h1) (hf _ _ h2) (sub_asg hs)
        · cases h
      · cases h
    · rename_i x p
      unfold tgOf at h
      split at h
      · rename_i hl
        obtain ⟨k, h1, h2⟩ := Option.map_eq_some_iff.mp h
        subst h2
        obtain ⟨l1, l2⟩ := loc_of c hl
        exact sg_var c.nd (ix_of c h1) l1 l2
      · cases h
    · rename_i es k p
      unfold tgOf at h
      split at h
      · rename_i hs
        obtain ⟨ts, h1, h2⟩ := Option.map_eq_some_iff.mp h
        subst h2
        exact sg_tup (n := es.length) c.ok.calm (all hs h1) (each_len hs) (mapO_len h1) (each_ix hs)
      · cases h
theorem tup_of {tg : Expr} (h : isTup tg = true) : ∃ es k p, tg = .Tuple es k p := by
  cases tg <;> first | exact ⟨_, _, _, rfl⟩ | cases h
theorem src_ok (c : CtxOk C T EX X) (hf : ∀ e i, f e = some i → PE X e (tR X.K T EX i)) {tg e : Expr} {s : Src} (h : srcOf f C tg e = some s) : PI X tg e (tSrc X.K T EX s) := by
  unfold srcOf at h
  split at h
  · rename_i s' hx
    cases h
    unfold srcX at hx
    split at hx
    · rename_i x p a pos
      split at hx
      · rename_i hg
        obtain ⟨hg, ho, hs⟩ := hg
        obtain ⟨gl, d1, d3⟩ := gl_of c hg
        have hm := c.own x ho
        split at hx
        · rename_i i h1
          split at hx
          · rename_i ex
            cases hx
            subst ex
            exact ss_rng1 gl hm (hf _ _ h1) (star_cons hs)
          · split at hx
            · rename_i ex
              cases hx
              obtain ⟨ex, ht⟩ := ex
              subst ex
              obtain ⟨es, k, p2, rfl⟩ := tup_of ht
              exact ss_enum gl hm (hf _ _ h1) (star_cons hs)
            · cases hx
        · cases hx
      · cases hx
    · rename_i x p a b pos
      split at hx
      · rename_i hg
        obtain ⟨hg, ho, hs, hs2⟩ := hg
        obtain ⟨gl, d1, d3⟩ := gl_of c hg
        have hm := c.own x ho
        split at hx
        · rename_i i j h1 h2
          split at hx
          · rename_i ex
            cases hx
            subst ex
            exact ss_rng2 gl hm (hf _ _ h1) (hf _ _ h2) (by rw [star_cons hs, star_cons hs2]; rfl) (star_cons hs2)
          · split at hx
            · rename_i ex
              cases hx
              obtain ⟨ex, ht⟩ := ex
              subst ex
              obtain ⟨es, k, p2, rfl⟩ := tup_of ht
              exact ss_zip2 gl hm (hf _ _ h1) (hf _ _ h2) (star_cons hs) (star_cons hs2) (star_any (by simp [hs2]))
            · cases hx
        · cases hx
      · cases hx
    · cases hx
  · split at h
    · obtain ⟨i, h1, h2⟩ := Option.map_eq_some_iff.mp h
      subst h2
      exact ss_seq (hf _ _ h1)
    · cases h
end
theorem takes_no {X : Cx} : Takes X (fun _ _ _ _ => False) := fun u s' ⟨a, B, sI, pins, σ, H, cls, d, e, I, nb, up, sky, na, os, ag, w⟩ => w.elim
/-- within a comprehension -/
theorem CtxOk.inner {C : Cc} {T : Tb} {EX : Xk} {X : Cx} (c : CtxOk C T EX X) {scope : Scope} (hk : scope.kind = .function) (s : Shared) (H : Hp) (Ca : Addr) (cl : List (Str × Addr)) (fp : List Addr) : CtxOk (C.inner scope) T EX.no (X.blk s H scope (compEnvC scope cl Ca X.env) fp) where
  hN := c.hN
  nd := c.nd
  sc := by
    show relS scope X.env.scope = relS scope C.sc
    rw [c.sc]
  kind := hk
  ok := ⟨c.ok.calm, c.ok.sys, c.ok.un, c.ok.gd⟩
  fn := fun x h => by
    rcases h with h | h
    · cases h
    · have h' : scope.names.lookup x = some .cell := h
      show (scope.names.lookup x == some .cell) = true
      rw [h']; rfl
  own := c.own
  fns := c.fns
  cns := c.cns
  tk := takes_no
  pass := PassesOwn.never
section
variable {X : Cx} {T : Tb} {EX : Xk} {C : Cc}
/-- what the translation's soundness asks of a fuel -/
def FOk (f : Cc → Expr → Option E) : Prop := ∀ (C : Cc) (T : Tb) (EX : Xk) (X : Cx), CtxOk C T EX X → ∀ e i, f C e = some i → Snd X T EX e i
theorem ifs_ok {f : Expr → Option E} (hf : ∀ e i, f e = some i → PT X e (tT X.K T EX i)) {ifs : List Expr} {oi : Option E} (h : ifsOf f ifs = some oi) : PTs X ifs (tB X.K T EX oi) := by
  unfold ifsOf at h
  split at h
  · cases h; exact sts_nil
  · obtain ⟨i, h1, h2⟩ := Option.map_eq_some_iff.mp h
    subst h2
    exact sts_one (hf _ _ h1)
  · cases h
theorem comp_ok {f : Cc → Expr → Option E} (F : FOk f) (c : CtxOk C T EX X) {n : Nat} {elt tg iter : Expr} {ifs : List Expr} {scope : Scope} {i : E} (h : compOf f C n elt tg iter ifs scope = some i) :
    ∃ src t oi ie, i = .comp ((ownOf C.N scope).map (·.2)) t src oi ie ∧ PI X tg iter (tSrc X.K T EX src) ∧ BlkOk X.N X.env.scope scope (ownOf C.N scope) ∧
      (∀ (s : Shared) (H : Hp) (Ca : Addr) (cl : List (Str × Addr)) (fp : List Addr), PG (X.blk s H scope (compEnvC scope cl Ca X.env) fp) tg (tTg X.K T EX.no t)) ∧
      (∀ (s : Shared) (H : Hp) (Ca : Addr) (cl : List (Str × Addr)) (fp : List Addr), PTs (X.blk s H scope (compEnvC scope cl Ca X.env) fp) ifs (tB X.K T EX.no oi)) ∧
      (∀ (s : Shared) (H : Hp) (Ca : Addr) (cl : List (Str × Addr)) (fp : List Addr), PE (X.blk s H scope (compEnvC scope cl Ca X.env) fp) elt (tR X.K T EX.no ie)) ∧ nSet iter = true ∧ tgIn t ((ownOf C.N scope).map (·.2)) = true := by
  unfold compOf at h
  split at h
  case isFalse => cases h
  case isTrue hb =>
  obtain ⟨hb, hs⟩ := hb
  have bk : BlkOk X.N X.env.scope scope (ownOf C.N scope) := by rw [c.hN, c.sc]; exact blkOk_by hb
  split at h
  · rename_i src t oi ie h1 h2 h3 h4
    split at h
    · rename_i hin
      cases h
      exact ⟨src, t, oi, ie, rfl, src_ok c (fun e i q => (F _ _ _ _ c e i q).pe) h1, bk,
        fun s H Ca cl fp => tg_ok (c.inner bk.kind s H Ca cl fp) (fun e i q => (F _ _ _ _ (c.inner bk.kind s H Ca cl fp) e i q).pe) _ _ _ h2,
        fun s H Ca cl fp => ifs_ok (fun e i q => (F _ _ _ _ (c.inner bk.kind s H Ca cl fp) e i q).pt) h3,
        fun s H Ca cl fp => (F _ _ _ _ (c.inner bk.kind s H Ca cl fp) _ _ h4).pe, hs, hin⟩
    · cases h
  · cases h
theorem o_ok {f : Expr → Option E} (hf : ∀ e i, f e = some i → PE X e (tR X.K T EX i)) {o : Option Expr} {oi : Option E} (h : oOf f o = some oi) : PO X o (tO X.K T EX oi) := by
  unfold oOf at h
  split at h
  · cases h; exact so_none
  · obtain ⟨i, h1, h2⟩ := Option.map_eq_some_iff.mp h
    subst h2
    exact so_some (hf _ _ h1)
theorem cE_ok : ∀ n, FOk (cE n) := by
  intro n
  induction n with
  | zero => intro C T EX X c e i h; cases h
  | succ n ih =>
    intro C T EX X c e i h
    have hf : ∀ e i, cE n C e = some i → PE X e (tR X.K T EX i) := fun e i q => (ih _ _ _ _ c e i q).pe
    unfold cE at h
    split at h
    · -- a name
      rename_i x p
      split at h
      · cases h
      · rename_i hd
        obtain ⟨d1, d2, d3⟩ := dbg_no (x := x) (by simpa using hd)
        split at h
        · rename_i hl
          obtain ⟨k, h1, rfl⟩ := Option.map_eq_some_iff.mp h
          exact st_plain (se_var (ix_of c h1) (by rw [c.sc]; exact .inl hl) d1 d2) (fun _ => rfl) (fun _ _ _ q => nomatch q)
        · rename_i hl
          obtain ⟨k, h1, rfl⟩ := Option.map_eq_some_iff.mp h
          exact st_plain (se_var (ix_of c h1) (by rw [c.sc]; exact .inr (.inl hl)) d1 d2) (fun _ => rfl) (fun _ _ _ q => nomatch q)
        · rename_i hl
          obtain ⟨k, h1, rfl⟩ := Option.map_eq_some_iff.mp h
          exact st_plain (se_var (ix_of c h1) (by rw [c.sc]; exact .inr (.inr hl)) d1 d2) (fun _ => rfl) (fun _ _ _ q => nomatch q)
        · rename_i hl
          obtain ⟨k, h1, rfl⟩ := Option.map_eq_some_iff.mp h
          obtain ⟨v, u, hm, r, hp⟩ := c.cns x k h1
          exact st_plain (se_cst (pe_glob (show X.env.scope.names.lookup x = _ by rw [c.sc]; exact hl) hm r d1) hp) (fun _ => rfl) (fun _ _ _ q => nomatch q)
        · cases h
    · -- a constant
      rename_i cc k p
      obtain ⟨q, h1, rfl⟩ := Option.map_eq_some_iff.mp h
      have z : PE X (.Constant cc k p) (tR X.K T EX (.cst q)) := by
        cases cc <;> first | cases h1 | skip
        all_goals first
          | exact se_cst pe_non fun _ _ => .non
          | exact se_cst pe_bl fun _ _ => .bl _
          | exact se_cst pe_str fun _ _ => .str _
          | exact se_cst pe_int fun _ _ => .int _
      exact st_plain z (fun _ => rfl) (fun _ _ _ q => nomatch q)
    · -- a tuple
      split at h
      · rename_i hs
        obtain ⟨is, h1, rfl⟩ := Option.map_eq_some_iff.mp h
        exact st_plain (se_tup (sl_all hf hs h1)) (fun _ => rfl) (fun _ _ _ q => nomatch q)
      · cases h
    · -- a list
      split at h
      · rename_i hs
        obtain ⟨is, h1, rfl⟩ := Option.map_eq_some_iff.mp h
        exact st_plain (se_nw (se_lst (sl_all hf hs h1))) (fun _ => rfl) (fun _ _ _ q => nomatch q)
      · cases h
    · -- {}
      cases h
      exact st_plain (se_nw se_dnew) (fun _ => rfl) (fun _ _ _ q => nomatch q)
    · -- a op b
      split at h
      · rename_i i j h1 h2
        cases h
        exact st_plain (se_nw (se_bin (hf _ _ h1) (hf _ _ h2))) (fun _ => rfl) (fun _ _ _ q => nomatch q)
      · cases h
    · obtain ⟨j, h1, rfl⟩ := Option.map_eq_some_iff.mp h
      exact st_plain (se_neg (hf _ _ h1)) (fun _ => rfl) (fun _ _ _ q => nomatch q)
    · obtain ⟨j, h1, rfl⟩ := Option.map_eq_some_iff.mp h
      exact ⟨se_not (hf _ _ h1), st_not (ih _ _ _ _ c _ _ h1).pt, fun _ _ _ q => nomatch q⟩
    · obtain ⟨j, h1, rfl⟩ := Option.map_eq_some_iff.mp h
      exact ⟨se_isN (hf _ _ h1), st_isN (hf _ _ h1), fun _ _ _ q => nomatch q⟩
    · obtain ⟨j, h1, rfl⟩ := Option.map_eq_some_iff.mp h
      exact ⟨se_notN (hf _ _ h1), st_notN (hf _ _ h1), fun _ _ _ q => nomatch q⟩
    · -- a comparison
      split at h
      · cases h
      · rename_i hb
        split at h
        · rename_i i j h1 h2
          cases h
          have hb' := (Bool.not_eq_true _).mp hb
          exact ⟨se_cmp c.ok (hf _ _ h1) (hf _ _ h2) hb', st_cmp c.ok (hf _ _ h1) (hf _ _ h2) hb', fun _ _ _ q => nomatch q⟩
        · cases h
    · split at h
      · cases h
      · rename_i hb
        split at h
        · rename_i i j k h1 h2 h3
          cases h
          have hb' := (Bool.not_eq_true _).mp hb
          exact ⟨se_chain c.ok (hf _ _ h1) (hf _ _ h2) (hf _ _ h3) hb', st_chain c.ok (hf _ _ h1) (hf _ _ h2) (hf _ _ h3) hb', fun _ _ _ q => nomatch q⟩
        · cases h
    · -- one of an and, an or
      rename_i op a p
      have q := ih _ _ _ _ c _ _ h
      have w : PW X (.BoolOp op [a] p) (tT X.K T EX i) := by
        cases op with
        | And => exact pw_and1 q.pt
        | Or => exact pw_or1 q.pt
      exact ⟨pe_one q.pe, w.pt, fun _ _ _ _ => w⟩
    · rename_i op a b r p
      split at h
      · rename_i j k h1 h2
        cases h
        have q1 := ih _ _ _ _ c _ _ h1
        have q2 := ih _ _ _ _ c _ _ h2
        cases op with
        | And =>
          have w := st_and q1.pt (q2.pw _ _ _ rfl)
          exact ⟨se_and q1.pe q2.pe, w.pt, fun _ _ _ _ => w⟩
        | Or =>
          have w := st_or q1.pt (q2.pw _ _ _ rfl)
          exact ⟨se_or q1.pe q2.pe, w.pt, fun _ _ _ _ => w⟩
      · cases h
    · split at h
      · rename_i k j l h1 h2 h3
        cases h
        have q1 := ih _ _ _ _ c _ _ h1
        have q2 := ih _ _ _ _ c _ _ h2
        have q3 := ih _ _ _ _ c _ _ h3
        exact ⟨se_ite q1.pt q2.pe q3.pe, st_ifx q1.pt q2.pt q3.pt, fun _ _ _ q => nomatch q⟩
      · cases h
    · obtain ⟨j, h1, rfl⟩ := Option.map_eq_some_iff.mp h
      exact st_plain (se_nw (se_rev (hf _ _ h1))) (fun _ => rfl) (fun _ _ _ q => nomatch q)
    · split at h
      · rename_i j l u h1 h2 h3
        cases h
        exact st_plain (se_nw (se_sl (hf _ _ h1) (o_ok hf h2) (o_ok hf h3))) (fun _ => rfl) (fun _ _ _ q => nomatch q)
      · cases h
    · split at h
      · rename_i hs
        split at h
        · rename_i j k h1 h2
          cases h
          exact st_plain (se_ix (hf _ _ h1) (hf _ _ h2) (plain_ix hs)) (fun _ => rfl) (fun _ _ _ q => nomatch q)
        · cases h
      · cases h
    · exact st_plain (call_ok c hf h) (fun _ => rfl) (fun _ _ _ q => nomatch q)
    · rename_i a m apos args pos
      split at h
      · rename_i hs
        obtain ⟨hsup, hline, hst, hlen⟩ := hs
        split at h
        · rename_i j as mt h1 h2 h3
          cases h
          obtain ⟨sl, ty⟩ := mt_of h3
          have z : PE X (.Call (.Attribute a m apos) args [] pos) (tR X.K T EX (.mth mt j as)) := by
            cases args with
            | nil =>
              have e1 : as = [] := List.eq_nil_of_length_eq_zero (mapO_len h2)
              subst e1
              exact se_mth0 sl ty (hf _ _ h1) (base_of hsup) hline
            | cons b r =>
              have hst' := hst
              rw [List.all_cons, Bool.and_eq_true] at hst'
              refine se_mth sl ty (hf _ _ h1) (sl_all hf hst h2) (base_of hsup) ?_ hline (star_cons hst'.1) (star_any hst'.2)
              rw [star_all hst]
              have hl : (b :: r).length + ([] : List Keyword).length + (if ([] : List Keyword).isEmpty then 0 else 1) < 30 := by
                show (b :: r).length + 0 + 0 < 30
                omega
              rw [decide_eq_true hl]
              rfl
          exact st_plain z (fun _ => rfl) (fun _ _ _ q => nomatch q)
        · cases h
      · cases h
    · rename_i elt tg iter ifs scope pos
      obtain ⟨j, h1, rfl⟩ := Option.map_eq_some_iff.mp h
      obtain ⟨src, t, oi, ie, rfl, a1, a2, a3, a4, a5, a6, a7⟩ := comp_ok ih c h1
      exact st_plain (se_nw (se_comp c.ok.calm c.nd a1 a2 a3 a4 a5 (folded_of a6) a7)) (fun _ => rfl) (fun _ _ _ q => nomatch q)
    · cases h
end
end Pd

namespace Pd
open PySem L2 PyProof.Rows
section
variable {X : Cx} {T : Tb} {EX : Xk} {C : Cc}
theorem swap_is {env : PySem.Env} {sc : Scope} {ts es : List Expr} {k1 k2 : Nat} {p1 p2 : Pos} {r : Option (List Str)} (he : env.scope = sc) (hk : sc.kind = .function) (h : swP sc ts es = some r) : swappedStores [.Tuple ts k1 p1] (.Tuple es k2 p2) env = pure r := by
  subst he
  have hb : env.blockKind = .function := by unfold PySem.Env.blockKind; rw [hk]; rfl
  unfold swP at h
  unfold swappedStores
  simp only [hb]
  split at h
  · rename_i q
    cases h
    have q' : (!(ts.length == 2 || ts.length == 3) || es.length != ts.length || (ScopeKind.function != ScopeKind.function)) = true := by rw [q]; rfl
    exact if_pos q'
  · rename_i q
    have q' : ¬ (!(ts.length == 2 || ts.length == 3) || es.length != ts.length || (ScopeKind.function != ScopeKind.function)) = true := by
      rw [(Bool.not_eq_true _).mp q]; simp
    refine (if_neg q').trans ?_
    split at h
    · rename_i q2
      cases h
      exact if_pos q2
    · rename_i q2
      refine (if_neg q2).trans ?_
      split at h
      · rename_i q3
        cases h
        exact if_pos q3
      · rename_i q3
        refine (if_neg q3).trans ?_
        split at h
        · rename_i q4
          cases h
          exact if_pos q4
        · rename_i q4
          refine (if_neg q4).trans ?_
          split at h
          · cases h
          · rename_i q5
            cases h
            exact if_neg q5
theorem one_each {tg : Expr} {env : PySem.Env} (h : nStar tg = true) : (assignEach [tg] env).map (·.2) = [assign tg env] := by
  rw [each_cons h]; rfl
theorem sole_of {tg e : Expr} {l : Nat} {env : PySem.Env} (h : nComp e = true) : swapsWithSole [tg] e l env = pure false := swaps_of h
theorem pgs_all (c : CtxOk C T EX X) {f : Expr → Option E} (hf : ∀ e i, f e = some i → PE X e (tR X.K T EX i)) {n : Nat} : ∀ {es : List Expr} {ts : List Tg}, es.all nStar = true → mapO (tgOf f C n) es = some ts → PGs X es (tTgs X.K T EX ts)
  | [], ts, _, h => by
    have h' : ([] : List Tg) = ts := Option.some.inj h
    subst h'; exact sgs_nil
  | a :: r, ts, hs, h => by
    rw [List.all_cons, Bool.and_eq_true] at hs
    obtain ⟨t, ts', rfl, h1, h2⟩ := mapO_cons h
    exact sgs_cons (tg_ok c hf _ _ _ h1) (pgs_all c hf hs.2 h2) (by rw [each_cons hs.1]; rfl)
theorem asg_ok (c : CtxOk C T EX X) {n : Nat} {tg e : Expr} {pos : Pos} {s : S} (h : asgOf n C tg e = some s) : PS X (.Assign [tg] e pos) (tS X.K T EX s) := by
  have hf : ∀ e i, cE n C e = some i → PE X e (tR X.K T EX i) := fun e i q => (cE_ok n _ _ _ _ c e i q).pe
  unfold asgOf at h
  split at h
  · -- name = [..]
    rename_i x p elt tg2 iter ifs scope pos2
    split at h
    · rename_i i k h1 h2
      split at h
      · rename_i hl
        cases h
        obtain ⟨l1, l2⟩ := loc_of c hl
        obtain ⟨src, t, oi, ie, rfl, a1, a2, a3, a4, a5, a6, a7⟩ := comp_ok (cE_ok n) c h1
        have hE : C.nw pos2 (.comp ((ownOf C.N scope).map (·.2)) t src oi ie) = .comp ((ownOf C.N scope).map (·.2)) t src oi ie ∨ C.nw pos2 (.comp ((ownOf C.N scope).map (·.2)) t src oi ie) = .new (.comp ((ownOf C.N scope).map (·.2)) t src oi ie) := by
          unfold Cc.nw
          split
          · exact .inr rfl
          · exact .inl rfl
        have hsw : swapsWith (.ListComp elt [⟨tg2, iter, ifs, 0⟩] scope pos2) (some (.Name x p)) pos.line X.env = pure (X.env.blockKind == .function && X.env.kindOf x == some .local && p.line == pos2.line && !(scope.names.any fun (n, k) => n == x && (k == .local || k == .cell))) := rfl
        cases hB : (X.env.blockKind == .function && X.env.kindOf x == some .local && p.line == pos2.line && !(scope.names.any fun (n, k) => n == x && (k == .local || k == .cell))) with
        | true =>
          rw [hB] at hsw
          rw [Bool.and_eq_true, Bool.and_eq_true, Bool.and_eq_true] at hB
          have hlo : X.env.scope.names.lookup x = some .local := eq_of_beq hB.1.1.2
          exact sst_setLc c.ok.calm c.nd (ix_of c h2) hlo hsw a1 a2 a3 a4 a5 (folded_of a6) a7 hE
        | false =>
          rw [hB] at hsw
          have z := se_nw (C := C) (pos := pos2) (se_comp (pos := pos2) c.ok.calm c.nd a1 a2 a3 a4 a5 (folded_of a6) a7)
          exact sst_set c.nd (ix_of c h2) l1 z hsw l2
      · cases h
    · cases h
  · -- a, b = x, y
    rename_i ts k1 p1 es k2 p2
    split at h
    · rename_i hs
      obtain ⟨hs1, hs2⟩ := hs
      split at h
      · rename_i is gs h1 h2 h3
        split at h
        · rename_i hl
          cases h
          exact sst_parG (n := ts.length) c.ok.calm (sl_all hf hs2 h2) (pgs_all c hf hs1 h3) (each_len hs1) hl (each_ix hs1) rfl (swap_is c.sc c.kind h1) rfl
        · cases h
      · rename_i x y is gs h1 h2 h3
        split at h
        · rename_i x' px y' py e1 e2 i j h4 h5
          split at h
          · rename_i hq
            obtain ⟨rfl, rfl, hij, l1, l2⟩ := hq
            cases h
            exact sst_par2 c.ok.calm c.nd (ix_of c h4) (ix_of c h5) hij (by rw [c.sc]; exact l1) (by rw [c.sc]; exact l2) (sl_all hf hs2 h2) (swap_is c.sc c.kind h1) rfl
          · cases h
        · cases h
      · rename_i x y z is gs h1 h2 h3
        split at h
        · rename_i x' px y' py z' pz e1 e2 e3 i j l h4 h5 h6
          split at h
          · rename_i hq
            obtain ⟨rfl, rfl, rfl, hij, hil, hjl, l1, l2, l3⟩ := hq
            cases h
            exact sst_par3 c.ok.calm c.nd (ix_of c h4) (ix_of c h5) (ix_of c h6) hij hil hjl (by rw [c.sc]; exact l1) (by rw [c.sc]; exact l2) (by rw [c.sc]; exact l3) (sl_all hf hs2 h2) (swap_is c.sc c.kind h1) rfl
          · cases h
        · cases h
      · cases h
    · cases h
  · -- name = e
    rename_i x p e _ _
    split at h
    · rename_i hc
      split at h
      · rename_i i k h1 h2
        split at h
        · rename_i hl
          cases h
          obtain ⟨l1, l2⟩ := loc_of c hl
          exact sst_set c.nd (ix_of c h2) l1 (hf _ _ h1) (swaps_of hc) l2
        · cases h
      · cases h
    · cases h
  · split at h
    · rename_i hq
      obtain ⟨hc, hst, ht⟩ := hq
      split at h
      · rename_i i t h1 h2
        cases h
        refine sst_asg (hf _ _ h1) (tg_ok c hf _ _ _ h2) (sole_of hc) ?_ (one_each hst)
        unfold swappedStores
        cases tg <;> first
          | rfl
          | (unfold tgOf at h2; cases n <;> cases h2; done)
          | (cases e <;> first | rfl | cases ht)
      · cases h
    · cases h
theorem sss_all {f : Stmt → Option S} (hf : ∀ st s, f st = some s → PS X st (tS X.K T EX s)) : ∀ {sts : List Stmt} {ss : List S}, mapO f sts = some ss → PSs X sts (tSs X.K T EX ss)
  | [], ss, h => by
    have h' : ([] : List S) = ss := Option.some.inj h
    subst h'; exact sss_nil
  | a :: r, ss, h => by
    obtain ⟨t, ts', rfl, h1, h2⟩ := mapO_cons h
    exact sss_cons (hf _ _ h1) (sss_all hf h2)
theorem cS_ok (c : CtxOk C T EX X) : ∀ (n : Nat) (st : Stmt) (s : S), cS n C st = some s → PS X st (tS X.K T EX s) := by
  intro n
  induction n with
  | zero => intro st s h; cases h
  | succ n ih =>
    intro st s h
    have hf : ∀ e i, cE n C e = some i → PE X e (tR X.K T EX i) := fun e i q => (cE_ok n _ _ _ _ c e i q).pe
    have ht : ∀ e i, cE n C e = some i → PT X e (tT X.K T EX i) := fun e i q => (cE_ok n _ _ _ _ c e i q).pt
    unfold cS at h
    split at h
    · exact asg_ok c h
    · split at h
      · rename_i hc
        obtain ⟨i, h1, rfl⟩ := Option.map_eq_some_iff.mp h
        exact sst_expr (hf _ _ h1) (swaps_of hc)
      · cases h
    · cases h; exact sst_retN
    · obtain ⟨i, h1, rfl⟩ := Option.map_eq_some_iff.mp h
      exact sst_ret (hf _ _ h1)
    · split at h
      · rename_i i x y h1 h2 h3
        cases h
        exact sst_if (ht _ _ h1) (sss_all ih h2) (sss_all ih h3)
      · cases h
    · split at h
      · rename_i hs
        split at h
        · rename_i src t b h1 h2 h3
          cases h
          exact sst_for c.pass c.ok.calm (src_ok c hf h1) (tg_ok c hf _ _ _ h2) (sss_all ih h3) (folded_of hs)
        · cases h
      · cases h
    · split at h
      · rename_i i b h1 h2
        cases h
        exact sst_while c.pass (ht _ _ h1) (sss_all ih h2)
      · cases h
    · cases h; exact sst_brk
    · cases h; exact sst_cnt
    · cases h; exact sst_pass
    · cases h
theorem cB_ok (c : CtxOk C T EX X) {n : Nat} {body : List Stmt} {ss : List S} (h : cB n C body = some ss) : PSs X body (tSs X.K T EX ss) := by
  unfold cB at h
  split at h
  · rename_i s r
    split at h
    · rename_i hd
      have z : ∃ x j p q, s = .Expr (.Constant (.str x) j p) q := by
        unfold isDoc at hd
        split at hd
        · exact ⟨_, _, _, _, rfl⟩
        · cases hd
      obtain ⟨x, j, p, q, rfl⟩ := z
      exact sss_skip ps_doc (sss_all (cS_ok c n) h)
    · exact sss_all (cS_ok c n) h
  · cases h; exact sss_nil
end

/-- what a law's defs stand in: the module's names -/
structure Gm (P : Program) (w : World) (K : PySem.W.Frag) (mg : Str → Option Value) (base : Heap) (XR : List Addr → Wd → Value → Option Addr → XN → Prop) (T : Tb) (C : Cc) (k : Nat) : Prop where
  own : ∀ x, C.own.contains x = true → mg x = none
  fns : ∀ x fi, C.fns.lookup x = some fi → ∃ f fd, mg x = some (.ref f) ∧ PySem.W.keepIn K (.ref f) = true ∧ FnG P w K mg base XR k f fd fi.ps (T x) ∧ ∀ pt, pt ∈ fi.pats → BindsP fd fi.ps pt.1 pt.2
  cns : ∀ x p, C.cns.lookup x = some p → ∃ v u, mg x = some u ∧ RelV v u ∧ ∀ (R : List Addr) (w : Wd), PRep K R w v p
theorem guards_deeper {A : Around} {env : PySem.Env} : (A.deeper env).guards = A.guards := rfl
theorem rep_start {K : PySem.W.Frag} {R : List Addr} {wd : Wd} {vs : List V} {ds : List D} (r : RepL K R wd vs ds) {N : List Str} (g : SimG K R wd) (hn : ds.length ≤ N.length) : Sim0 K R (ds.map some ++ List.replicate (N.length - ds.length) none) wd (L2.start N vs) := by
  have hl := repL_len r
  refine ⟨g, fun i d h => ?_, ?_⟩
  · by_cases hi : i < ds.length
    · rw [List.getElem?_append_left (by simpa using hi), List.getElem?_map] at h
      obtain ⟨d', h1, h2⟩ := Option.map_eq_some_iff.mp h
      cases h2
      obtain ⟨v, h3, h4⟩ := repL_get r h1
      refine ⟨v, ?_, h4⟩
      unfold L2.start
      rw [List.getElem?_append_left (by rw [List.length_map, hl]; exact hi), List.getElem?_map, h3]
      rfl
    · rw [List.getElem?_append_right (by simpa using Nat.le_of_not_lt hi), List.getElem?_replicate] at h
      split at h <;> cases h
  · unfold L2.start
    simp only [List.length_append, List.length_map, List.length_replicate, hl]
theorem g_of {P : Program} {w : World} {K : PySem.W.Frag} {mg : Str → Option Value} {base : Heap} {XR : List Addr → Wd → Value → Option Addr → XN → Prop} {T : Tb} {C : Cc} {x qual : Str} {st : Stmt} {f : Addr} {fd : FuncData} {ps : List Str} {k n : Nat} {ir : List S} (raw : Bool)
    (F : L2.Fun K x qual st f fd) (S0 : FnScope C.N ps (defScope st)) (hC : C.sc = defScope st) (hb : C.blk = false) (hir : cB n C (defBody st) = some ir) (hs : ∃ o, base.get? sysModules = some o)
    (hx : ∀ (R : List Addr) (wd wd' : Wd) (c : Value) (dx : Option Addr) (x : XN), Le K wd wd' → SimG K R wd' → XR R wd c dx x → XR R wd' c dx x) (G : Gm P w K mg base XR T C k) : FnG P w K mg base XR (k + 1) f fd ps (fnW raw T C.N.length ps.length ir) := by
  obtain ⟨oc, od, kV, doc, pm, an, cdv, ct, osl, rfl, lk, hcd⟩ := F.ex
  refine ⟨fun ds M Po PX h => h.1, fun A outer s args us vs R wd ds Po PX Q E hr hgd e0 hbi rv g rr hfs hval hexc => ?_⟩
  obtain ⟨hdl, ev⟩ := hfs
  have hvl : vs.length = ps.length := (repL_len rr).trans hdl
  have inK : K.In s.heap := e0.mod.kin.keeps fun b o e => (e0.bs b o e).1
  have noL : s.heap.NoLimit := e0.mod.nolimit.keeps fun b o e => (e0.bs b o e).1
  have hpn : ps.length ≤ C.N.length := by
    have := congrArg List.length S0.pre
    rw [List.length_take] at this
    omega
  have kinds : ∀ y ∈ ps.zip us, (defScope st).names.lookup y.1 = some .local ∨ ((defScope st).names.lookup y.1 = some .cell ∧ ((cellsFrom (s.heap.objs.size + 1) (defScope st).names []).lookup y.1).isSome = true) := fun y hy => by
    obtain ⟨nm, vv⟩ := y
    rcases S0.par nm (List.of_mem_zip hy).1 with q | q
    · exact .inl q
    · exact .inr ⟨q, PySem.W.cellsFrom_some _ _ _ (.inl q)⟩
  refine codeAny_call_function hr.depth (inK _ _ lk) rfl S0.co S0.gen rfl (PySem.W.codeRec_of inK hcd) (hbi _ _ _ _ ?_)
  refine wpAny_newFunctionEnv_cells S0.kind kinds fun env1 he s1 ic => ?_
  subst he
  refine ⟨noL.keeps ic.toInCall.keep, codeAny_func ?_⟩
  have J : Inv (cxOf (L2.CX P w) P w K mg base C.N qual (defScope st) f cdv A outer s wd.H E) [] (L2.start C.N vs) wd.H s1 := inv_start S0 hr.hd e0 hvl rv ic
  have hr2 : Room k (A.deeper (envOfC qual (defScope st) s.heap.objs.size f cdv)) := hr.deeper _
  have l0 : ∀ {wd' : Wd}, Le K wd' (wd'.cut (restr wd.M wd'.M)) := fun {wd'} => le_cut restr_or
  have ctx : CtxOk C T ⟨fun x _ M' => PX x (restr wd.M M'), fun c d _ H => E c d H, XR⟩ (cxOf (L2.CX P w) P w K mg base C.N qual (defScope st) f cdv A outer s wd.H E) := by
    refine ⟨rfl, S0.nd, hC.symm, by rw [hC]; exact S0.kind, ⟨rfl, hs, ?_, hgd⟩, fun _ _ => rfl, G.own, fun y fi hy => ?_, G.cns, takes_of rfl rfl rfl rfl, passes_of rfl⟩
    · have := hr2.un
      show (A.deeper (envOfC qual (defScope st) s.heap.objs.size f cdv)).units + 200 < cLine
      omega
    · obtain ⟨ff, ffd, g1, g2, g3, g4⟩ := G.fns y fi hy
      exact ⟨k, ff, ffd, g1, g2, g3, hr2, g4⟩
  have exit : ∀ (d : D) (wd' : Wd) (v : V), exitW raw wd.M Po d wd'.M → Le K wd wd' → SimG K R wd' → Rep K R wd' v d → Q v wd'.H := fun d wd' v h l g' r => by
    unfold exitW at h
    split at h
    · exact hval d wd' v h l g' r
    · obtain ⟨p, h1, h2⟩ := h
      exact hval (.v p) (wd'.cut (restr wd.M wd'.M)) v h2 (l.trans l0) (g'.cut restr_or) (frz_ok g' 4 r h1)
  have run := (cB_ok ctx hir).run [] s1 (L2.start C.N vs) wd.H { nx := fun _ H' => Q .non H', rt := Q } J
    ⟨R, _, wd, _, rfl, ⟨rep_start rr g (by omega), fun x env' wd' σ' c dx h l s0 q => hexc x (wd'.cut (restr wd.M wd'.M)) c dx h (l.trans l0) (s0.g.cut restr_or) (hx _ _ _ _ _ _ l0 (s0.g.cut restr_or) q)⟩, ev,
      fun env' wd' σ' h l s0 => exit _ wd' .non h l s0.g .non, exit, fun _ _ _ h _ _ => h.elim, fun _ _ _ h _ _ => h.elim⟩
  refine wpAny_mono run (fun fl s' hq => ?_) fun e s' hq => hq
  cases fl with
  | ret u =>
    obtain ⟨v, σ', H', J', rv', q⟩ := hq
    exact ⟨v, H', J'.os, J'.bare, J'.base, J'.hok, rv', q⟩
  | next =>
    obtain ⟨σ', H', J', q⟩ := hq
    exact ⟨V.non, H', J'.os, J'.bare, J'.base, J'.hok, rfl, q⟩
  | brk => obtain ⟨_, _, _, q⟩ := hq; exact q.elim
  | cont => obtain ⟨_, _, _, q⟩ := hq; exact q.elim
end Pd

namespace Pd
open PySem L2 PyProof.Rows

/-- no list among the written objects -/
def noLists (K : PySem.W.Frag) : Bool := K.all fun p => match p.2.cls with
  | .type n => !(n == "list")
  | _ => true
theorem mem_lookupK {K : PySem.W.Frag} {a : Addr} {o : Obj} (h : K.lookup a = some o) : (a, o) ∈ K := lookup_memP h
theorem noList_at {K : PySem.W.Frag} (h : noLists K = true) {a : Addr} {o : Obj} (e : K.lookup a = some o) : o.cls ≠ .type "list" := fun z => by
  have q := List.all_eq_true.mp h _ (mem_lookupK e)
  simp only [z] at q
  exact absurd q (by decide)
/-- the store as the law meets it: the script at 0 -/
def scriptM (ns : List Int) : Mem := fun k => if k = 0 then some (.fz (ns.map fun i => D.v (.int i))) else none

theorem end_call {P : Program} {w : World} {K : PySem.W.Frag} {mg mb : Str → Option Value} {XR : List Addr → Wd → Value → Option Addr → XN → Prop} {k : Nat} {fa a : Addr} {fd : FuncData} {x : Str} {fs : FS} {s₁ : Shared} {vs : List Value} {ns : List Int}
    (inK : K.In s₁.heap) (nsg : s₁.heap.Ns mainGlobals mg) (nsb : s₁.heap.Ns builtinsNs mb) (boot : ∀ x : Str, x ≠ "__name__" → mb x = bootBuiltins x) (nolim : s₁.heap.NoLimit) (seer : s₁.heap.NoSeer) (nogen : s₁.gens = #[]) (noL : noLists K = true)
    (ha : s₁.heap.get? a = some { cls := .type "list", data := .seq vs.toArray }) (hi : IntsAre vs ns) (hl : ns.length ≤ sizeLine) (hr : Room k callerA)
    (F : ∀ base : Heap, K.In base → base.Ns mainGlobals mg → (∃ o, base.get? sysModules = some o) → FnG P w K mg base XR k fa fd [x] fs) (hbind : ∀ (s : Shared) (u : Value), BindsTo s fd ⟨[u], []⟩ [(x, u)])
    (hfs : fs [.loc 0] (scriptM ns) (fun d _ => d = .v (.bool true)) (fun _ _ => False)) :
    codeAny (model P w) callerA (.call (.ref fa) ⟨[.ref a], []⟩) (fun r s' => r = .ok (.ret (.bool true)) ∧ PySem.OldK s₁.heap s'.heap ∧ s'.os = s₁.os ∧ AllBare s'.gens) s₁ := by
  have rv := vals_ints hi
  have lenV := hi.length
  have notK : K.lookup a = none := by
    cases q : K.lookup a with
    | none => rfl
    | some o =>
      have e := inK a o q
      rw [ha] at e
      cases e
      exact absurd rfl (noList_at noL q)
  -- the script alone is tracked
  obtain ⟨H, hHa, hHn⟩ : ∃ H : Hp, H a = some (.frz { cls := .type "list", data := .seq vs.toArray } (.lst (ns.map V.int))) ∧ ∀ b, b ≠ a → H b = none :=
    ⟨fun b => if b = a then some (.frz { cls := .type "list", data := .seq vs.toArray } (.lst (ns.map V.int))) else none, if_pos rfl, fun b h => if_neg h⟩
  have onlyA : ∀ b, H b ≠ none → b = a := fun b h => Classical.byContradiction fun z => h (hHn b z)
  have hok : HOk P w H s₁.heap := fun b u z => by
    by_cases q : b = a
    · subst q
      rw [hHa] at z; cases z
      exact ⟨ha, by rw [List.length_map]; exact hl, vs, _, rv, ha⟩
    · rw [hHn b q] at z; cases z
  have keepB : ∀ {b : Addr} {o : Obj}, s₁.heap.get? b = some o → H b = none → (hidT s₁.heap H).get? b = some o := fun e n => hidT_get e n
  have dictN : ∀ {b : Addr} {o : Obj} {es : Array DictEntry} {ep : Nat}, s₁.heap.get? b = some o → o.data = .dict es ep → H b = none := fun {b o es ep} e d => by
    by_cases q : b = a
    · subst q
      rw [ha] at e; cases e
      have d' : Data.seq vs.toArray _ = Data.dict es ep := d
      cases d'
    · exact hHn b q
  have nsK : ∀ {b : Addr} {m : Str → Option Value}, s₁.heap.Ns b m → (hidT s₁.heap H).Ns b m := fun {b m} ⟨o, es, ep, e, d, r⟩ => ⟨o, es, ep, keepB e (dictN e d), d, r⟩
  have hKb : K.In (hidT s₁.heap H) := fun b o e => keepB (inK b o e) (by
    by_cases q : b = a
    · rw [q, notK] at e; cases e
    · exact hHn b q)
  have hM : Mod K mg (hidT s₁.heap H) := ⟨hKb, nsK nsg, ⟨mb, nsK nsb, boot⟩, let ⟨mc, h1, h2⟩ := nolim; ⟨mc, nsK h1, h2⟩⟩
  have hS : ∃ o, (hidT s₁.heap H).get? sysModules = some o := by
    obtain ⟨mm, ⟨o, es, ep, e, d, _⟩, _⟩ := seer.mods
    exact ⟨o, keepB e (dictN e d)⟩
  have e0 : Env0 P w K mg (hidT s₁.heap H) callerA [] s₁ H := ⟨rfl, hM, fun b o e => of_hidT e, Nat.le_of_eq (hidT_size _ _), trivial, fun b hb => absurd (show b ∈ ([] : List Addr) from hb) (by simp), hok, .of_eq nogen⟩
  obtain ⟨wd, hio, hM', hH⟩ : ∃ wd : Wd, wd.io = (fun k => if k = 0 then some a else none) ∧ wd.M = scriptM ns ∧ wd.H = H := ⟨⟨_, _, _⟩, rfl, rfl, rfl⟩
  have io0 : wd.io 0 = some a := by rw [hio]; exact if_pos rfl
  have ioN : ∀ n b, wd.io n = some b → n = 0 ∧ b = a := fun n b h => by
    rw [hio] at h
    have h' : (if n = 0 then some a else none) = some b := h
    by_cases q1 : n = 0
    · rw [if_pos q1] at h'; cases h'; exact ⟨q1, rfl⟩
    · rw [if_neg q1] at h'; cases h'
  have g : SimG K [] wd := by
    refine ⟨fun n m b h1 h2 => by rw [(ioN n b h1).1, (ioN m b h2).1], ⟨1, fun n hn => ?_⟩, fun n b h => ?_, fun b h => ?_, fun n ob h => ?_⟩
    · rw [hio]
      show (if n = 0 then some a else none) = none
      exact if_neg (by omega)
    · rw [(ioN n b h).2, hH, hHa]
      exact ⟨by simp, by simp⟩
    · cases h
    · rw [hM'] at h
      have h' : (if n = 0 then some (Ob.fz (ns.map fun i => D.v (.int i))) else none) = some ob := h
      by_cases q1 : n = 0
      · subst q1
        rw [if_pos rfl] at h'; cases h'
        refine ⟨a, io0, ns.map V.int, .inr ⟨_, by rw [hH]; exact hHa⟩, ?_⟩
        have z : ∀ (l : List Int), RepL K [] wd (l.map V.int) (l.map fun i => D.v (.int i)) := by
          intro l
          induction l with
          | nil => exact .nil
          | cons i l ih => exact .cons (.int i) ih
        exact z ns
      · rw [if_neg q1] at h'; cases h'
  have rl : RepL K [] wd [V.ref a] [D.loc 0] := .cons ⟨a, rfl, io0⟩ .nil
  rw [← hM'] at hfs
  subst hH
  refine codeAny_mono ((F _ hKb (nsK nsg) hS).run callerA [] s₁ ⟨[.ref a], []⟩ [.ref a] [.ref a] [] wd [.loc 0] _ _ (fun v _ => v = .bl true) (fun _ _ _ => False) hr rfl e0 (hbind s₁ (.ref a)) (.cons rfl .nil) g rl hfs
    (fun d wd' v hd _ _ r => by subst hd; cases r; rfl) fun _ _ _ _ h _ _ _ => h) fun r s' h => ?_
  cases r with
  | error e =>
    obtain ⟨_, _, _, _, _, _, _, _, _, _, _, _, z⟩ := h
    exact z.elim
  | ok fl =>
    cases fl with
    | next => exact False.elim h
    | brk => exact False.elim h
    | cont => exact False.elim h
    | ret u =>
      obtain ⟨v, H', os, bare, un, hok', r', q⟩ := h
      have q' : v = .bl true := q
      subst q'
      have eu : u = Value.bool true := r'
      subst eu
      refine ⟨rfl, PySem.OldK.of_keep fun b o e => ?_, os, bare⟩
      by_cases hb : b = a
      · subst hb
        have z2 := un.frzs b _ _ hHa
        obtain ⟨e2, _⟩ := hok' b _ z2
        rw [ha] at e; cases e
        exact e2
      · exact un.keep b o e (hHn b hb) (by intro z; exact absurd (show b ∈ ([] : List Addr) from z) (by simp)) (by simp)

/-- the goal that the head leaves -/
theorem walk_G {l : PySem.W.OpenLaw} {n k : Nat} {q : Program} {loose : List Str} {XP : (Str → Option Value) → Heap → Prop} {YP : World → Heap → Prop} {d : DefRec} {K : Params → PySem.W.Frag} {x : Str} {fs : FS}
    (hn : l.most = some n) (hn2 : n ≤ sizeLine) (hdf : d.params.defaults = []) (hr : Room k callerA) (hq : importsNone q = true)
    (hY : ∀ (w : World) (h : Heap), YP w h → (K w.params).In h)
    (F : ∀ (w : World) (mg : Str → Option Value) (fa : Addr) (h : Heap), (K w.params).In h → h.Ns mainGlobals mg → mg d.name = some (.ref fa) →
      noLists (K w.params) = true ∧ ∃ (XR : List Addr → Wd → Value → Option Addr → XN → Prop) (fd : FuncData), (∀ (s : Shared) (u : Value), BindsTo s fd ⟨[u], []⟩ [(x, u)]) ∧
        ∀ base : Heap, (K w.params).In base → base.Ns mainGlobals mg → (∃ o, base.get? sysModules = some o) → FnG l.prog w (K w.params) mg base XR k fa fd [x] fs)
    (hfs : ∀ ns : List Int, ns.length ≤ n → fs [.loc 0] (scriptM ns) (fun d _ => d = .v (.bool true)) (fun _ _ => False)) :
    PySem.W.WalkO q loose XP YP l.row.toRowW d [] (fun f vs => PySem.call f vs) := by
  refine Att.attach_call hn hdf fun w s₀ s₁ mg mb fa o pm cd doc a vs ns G Y ho hd hcd hmg hobj hints hlen hg => ?_
  obtain ⟨noL, XR, fd, hb, hF⟩ := F w mg fa _ (hY w _ Y) G.T.g hmg
  exact end_call (hY w _ Y) G.T.g G.T.b G.T.builtins G.T.nolimit (G.T.seer hq) hg noL hobj hints (Nat.le_trans hlen hn2) hr hF hb (hfs ns hlen)
end Pd

namespace Pd
open PySem L2

@[simp] theorem asVal_val {P : D → Mem → Prop} {d : D} {M : Mem} : asVal P (.val d) M = P d M := rfl
@[simp] theorem asVal_fl {P : D → Mem → Prop} {ps : List PyData} {M : Mem} : asVal P (.fl (ps.map D.v)) M = P (.v (.list ps)) M := by
  show (∃ qs : List PyData, ps.map D.v = qs.map D.v ∧ P (.v (.list qs)) M) = _
  refine propext ⟨fun ⟨qs, e, h⟩ => ?_, fun h => ⟨ps, rfl, h⟩⟩
  have q : ∀ (as bs : List PyData), as.map D.v = bs.map D.v → as = bs := by
    intro as
    induction as with
    | nil => intro bs e; cases bs with
      | nil => rfl
      | cons _ _ => cases e
    | cons a as ih => intro bs e; cases bs with
      | nil => cases e
      | cons b bs => injection e with e1 e2; injection e1 with e1; rw [e1, ih bs e2]
  rw [q _ _ e]; exact h
theorem dataOf_iff {ds : List D} {ps : List PyData} : dataOf ds = some ps ↔ ds = ps.map D.v := by
  induction ds generalizing ps with
  | nil => cases ps with
    | nil => simp [dataOf]
    | cons _ _ => simp [dataOf]
  | cons d ds ih => cases d with
    | loc n => cases ps <;> simp [dataOf]
    | v p => cases ps with
      | nil => simp [dataOf]
      | cons q qs =>
        show (dataOf ds).map (p :: ·) = some (q :: qs) ↔ _
        rw [Option.map_eq_some_iff]
        constructor
        · rintro ⟨a, h1, h2⟩
          injection h2 with h2 h3
          subst h2 h3
          rw [List.map_cons, ih.mp h1]
        · intro h
          rw [List.map_cons] at h
          injection h with h2 h3
          injection h2 with h2
          exact ⟨qs, ih.mpr h3, by rw [h2]⟩
theorem asVal_flD {P : D → Mem → Prop} {ds : List D} {M : Mem} : asVal P (.fl ds) M = ∃ ps, dataOf ds = some ps ∧ P (.v (.list ps)) M := by
  refine propext ⟨fun ⟨ps, e, h⟩ => ⟨ps, dataOf_iff.mpr e, h⟩, fun ⟨ps, e, h⟩ => ⟨ps, dataOf_iff.mp e, h⟩⟩
theorem asVal_fl' {P : D → Mem → Prop} {ds : List D} {ps : List PyData} {M : Mem} (e : ds = ps.map D.v) (h : P (.v (.list ps)) M) : asVal P (.fl ds) M := ⟨ps, e, h⟩
@[simp] theorem asVal_fd0 {P : D → Mem → Prop} {M : Mem} : asVal P (.fd []) M = P (.v (.dict [])) M := by
  refine propext ⟨fun ⟨ks, ps, e, hl, h⟩ => ?_, fun h => ⟨[], [], rfl, rfl, h⟩⟩
  cases ks with
  | nil => exact h
  | cons k ks =>
    cases ps with
    | nil => cases hl
    | cons p ps => cases e
@[simp] theorem asNew_fl {P : D → Mem → Prop} {ds : List D} {M : Mem} : asNew P (.fl ds) M = ∀ n, M n = none → P (.loc n) (up M n (.lst ds)) := rfl
@[simp] theorem dataOf_map {ps : List PyData} : dataOf (ps.map D.v) = some ps := by
  induction ps with
  | nil => rfl
  | cons p ps ih => show (dataOf (ps.map D.v)).map (p :: ·) = _; rw [ih]; rfl
@[simp] theorem dataOf_nil : dataOf [] = some [] := rfl
@[simp] theorem dataOf_cons {p : PyData} {r : List D} : dataOf (.v p :: r) = (dataOf r).map (p :: ·) := rfl
@[simp] theorem intsOf_map {ns : List Int} : intsOf ((ns.map PyData.int).map D.v) = some ns := by
  induction ns with
  | nil => rfl
  | cons p ps ih =>
    show (intsOf ((ps.map PyData.int).map D.v)).map (p :: ·) = _
    rw [ih]; rfl
@[simp] theorem seqOf_tup {M : Mem} {ps : List PyData} : seqOf M (.v (.tuple ps)) = some (ps.map D.v) := rfl
@[simp] theorem seqOf_lst {M : Mem} {ps : List PyData} : seqOf M (.v (.list ps)) = some (ps.map D.v) := rfl
@[simp] theorem lstOf_lst {M : Mem} {ps : List PyData} : lstOf M (.v (.list ps)) = some (ps.map D.v) := rfl
@[simp] theorem vw_v {k : Nat} {M : Mem} {p : PyData} : vw k M (.v p) = some p := by cases k <;> rfl
section
variable {M : Mem} {i j k : Int} {s t : Str} {xs ys : List PyData} {P : Rs → Prop} {Pb : Bool → Prop} {Pd : D → Prop} {Pi : Int → Prop} {Pm : D → Mem → Prop} {x y : D} {b c : Bool} {n : Nat} {lo hi : Option Int}
theorem bw_add  : binW .Add (.v (.int i)) (.v (.int j)) M P = (P (.val (.v (.int (i + j))))) := rfl
theorem bw_sub  : binW .Sub (.v (.int i)) (.v (.int j)) M P = (P (.val (.v (.int (i - j))))) := rfl
theorem bw_mul  : binW .Mult (.v (.int i)) (.v (.int j)) M P = (((-(2 ^ 64) < i ∧ i < 2 ^ 64) ∨ (-(2 ^ 64) < j ∧ j < 2 ^ 64)) ∧ P (.val (.v (.int (i * j))))) := rfl
theorem bw_fdiv  : binW .FloorDiv (.v (.int i)) (.v (.int j)) M P = ((0 < j ∧ j < 2 ^ 64) ∧ P (.val (.v (.int (i / j))))) := rfl
theorem bw_mod  : binW .Mod (.v (.int i)) (.v (.int j)) M P = (0 < j ∧ P (.val (.v (.int (i % j))))) := rfl
theorem bw_pow  : binW .Pow (.v (.int i)) (.v (.int j)) M P = ((0 ≤ j ∧ j ≤ 1000000 ∧ i.natAbs < 2 ^ 64) ∧ P (.val (.v (.int (i ^ j.toNat))))) := rfl
theorem bw_adds  : binW .Add (.v (.str s)) (.v (.str t)) M P = (s.length + t.length ≤ sizeLine ∧ P (.val (.v (.str (s ++ t))))) := rfl
theorem bw_addt  : binW .Add (.v (.tuple xs)) (.v (.tuple ys)) M P = (xs.length + ys.length ≤ sizeLine ∧ P (.val (.v (.tuple (xs ++ ys))))) := rfl
theorem bw_addl  : binW .Add (.v (.list xs)) y M P = (∃ as bs, lstOf M (.v (.list xs)) = some as ∧ lstOf M y = some bs ∧ as.length + bs.length ≤ sizeLine ∧ P (.fl (as ++ bs))) := rfl
theorem bw_addn  : binW .Add (.loc n) y M P = (∃ as bs, lstOf M (.loc n) = some as ∧ lstOf M y = some bs ∧ as.length + bs.length ≤ sizeLine ∧ P (.fl (as ++ bs))) := rfl
theorem bw_mull  : binW .Mult (.v (.list xs)) (.v (.int k)) M P = (∃ as, lstOf M (.v (.list xs)) = some as ∧ -(2 ^ 63) ≤ k ∧ k < 2 ^ 63 ∧ as.length * k.toNat ≤ sizeLine ∧ P (.fl (List.replicate k.toNat as).flatten)) := rfl
theorem bw_mult  : binW .Mult (.v (.tuple xs)) (.v (.int k)) M P = (xs ≠ [] ∧ 2 ≤ k ∧ k ≤ 1000 ∧ xs.length ≤ 1000 ∧ P (.val (.v (.tuple (List.replicate k.toNat xs).flatten)))) := rfl
theorem uw_neg  : unW .USub x Pd = (∃ i, x = .v (.int i) ∧ Pd (.v (.int (-i)))) := rfl
theorem uw_not  : unW .Not x Pd = (∃ b, x = .v (.bool b) ∧ Pd (.v (.bool (!b)))) := rfl
theorem cw_lt  : cmpW .Lt x y M Pb = (∃ i j, x = .v (.int i) ∧ y = .v (.int j) ∧ Pb (decide (i < j))) := rfl
theorem cw_lte  : cmpW .LtE x y M Pb = (∃ i j, x = .v (.int i) ∧ y = .v (.int j) ∧ Pb (decide (i ≤ j))) := rfl
theorem cw_gt  : cmpW .Gt x y M Pb = (∃ i j, x = .v (.int i) ∧ y = .v (.int j) ∧ Pb (decide (j < i))) := rfl
theorem cw_gte  : cmpW .GtE x y M Pb = (∃ i j, x = .v (.int i) ∧ y = .v (.int j) ∧ Pb (decide (j ≤ i))) := rfl
theorem cw_eq  : cmpW .Eq x y M Pb = (eqW x y M Pb) := rfl
theorem cw_ne  : cmpW .NotEq x y M Pb = (eqW x y M fun b => Pb (!b)) := rfl
theorem eq_ss : eqW (.v (.str s)) (.v (.str t)) M Pb = (Pb (s == t)) := rfl
theorem eq_ii : eqW (.v (.int i)) (.v (.int j)) M Pb = (Pb (i == j)) := by
  show (∃ p q, vw 4 M (.v (.int i)) = some p ∧ vw 4 M (.v (.int j)) = some q ∧ SeqAt.shaped p = true ∧ SeqAt.shaped q = true ∧ Pb (PyData.eqv p q)) = _
  have h1 : ∀ i : Int, SeqAt.shaped (.int i) = true := fun i => by
    show (true && decide (PyData.depth (.int i) ≤ 64)) = true
    simp [PyData.depth]
  have h2 : PyData.eqv (.int i) (.int j) = (i == j) := by simp [PyData.eqv]
  simp only [vw_v, Option.some.injEq, exists_eq_left', exists_and_left, h1, true_and, h2]
theorem eq_tt : eqW (.v (.tuple xs)) y M Pb = (∃ p q, vw 4 M (.v (.tuple xs)) = some p ∧ vw 4 M y = some q ∧ SeqAt.shaped p = true ∧ SeqAt.shaped q = true ∧ Pb (PyData.eqv p q)) := by cases y <;> rfl
theorem eq_ll : eqW (.v (.list xs)) y M Pb = (∃ p q, vw 4 M (.v (.list xs)) = some p ∧ vw 4 M y = some q ∧ SeqAt.shaped p = true ∧ SeqAt.shaped q = true ∧ Pb (PyData.eqv p q)) := by cases y <;> rfl
theorem eq_lo : eqW (.loc n) y M Pb = (∃ p q, vw 4 M (.loc n) = some p ∧ vw 4 M y = some q ∧ SeqAt.shaped p = true ∧ SeqAt.shaped q = true ∧ Pb (PyData.eqv p q)) := by cases y <;> rfl
theorem eq_nn : eqW (.v .none) y M Pb = (∃ p q, vw 4 M (.v .none) = some p ∧ vw 4 M y = some q ∧ SeqAt.shaped p = true ∧ SeqAt.shaped q = true ∧ Pb (PyData.eqv p q)) := by cases y <;> rfl
theorem eq_bb : eqW (.v (.bool b)) y M Pb = (∃ p q, vw 4 M (.v (.bool b)) = some p ∧ vw 4 M y = some q ∧ SeqAt.shaped p = true ∧ SeqAt.shaped q = true ∧ Pb (PyData.eqv p q)) := by cases y <;> rfl
theorem cw_in  : cmpW .In x y M Pb = (∃ p ds qs, vw 4 M x = some p ∧ seqOf M y = some ds ∧ dataOf ds = some qs ∧ SeqAt.shaped p = true ∧ SeqAt.shaped (.list qs) = true ∧ Pb (qs.any fun z => PyData.eqv z p)) := rfl
theorem cw_nin  : cmpW .NotIn x y M Pb = (∃ p ds qs, vw 4 M x = some p ∧ seqOf M y = some ds ∧ dataOf ds = some qs ∧ SeqAt.shaped p = true ∧ SeqAt.shaped (.list qs) = true ∧ Pb (!qs.any fun z => PyData.eqv z p)) := rfl
theorem bi_len  : biW .len [x] M P = (lenW x M fun n => P (.val (.v (.int n)))) := rfl
theorem lw_tup  : lenW (.v (.tuple xs)) M Pi = (∃ ds, seqOf M (.v (.tuple xs)) = some ds ∧ Pi ds.length) := rfl
theorem lw_lst  : lenW (.v (.list xs)) M Pi = (∃ ds, seqOf M (.v (.list xs)) = some ds ∧ Pi ds.length) := rfl
theorem lw_str  : lenW (.v (.str s)) M Pi = (s.length ≤ sizeLine ∧ Pi s.length) := rfl
theorem lw_loc  : lenW (.loc n) M Pi = (∃ ds, seqOf M (.loc n) = some ds ∧ Pi ds.length) := rfl
theorem bi_abs  : biW .abs [.v (.int i)] M P = (P (.val (.v (.int (if i < 0 then -i else i))))) := rfl
theorem bi_sum  : biW .sum [x] M P = (∃ ds ns, seqOf M x = some ds ∧ intsOf ds = some ns ∧ P (.val (.v (.int ns.sum)))) := rfl
theorem bi_alls  : biW .all [x] M P = (∃ ds bs, lstOf M x = some ds ∧ boolsOf ds = some bs ∧ P (.val (.v (.bool (bs.all id))))) := rfl
theorem bi_any  : biW .any [x] M P = (∃ ds bs, lstOf M x = some ds ∧ boolsOf ds = some bs ∧ P (.val (.v (.bool (bs.any id))))) := rfl
theorem bi_int  : biW .int [.v (.int i)] M P = (P (.val (.v (.int i)))) := rfl
theorem bi_intb  : biW .int [.v (.bool b)] M P = (P (.val (.v (.int (if b then 1 else 0))))) := rfl
theorem bi_tup  : biW .tuple [x] M P = (∃ ds ps, seqOf M x = some ds ∧ dataOf ds = some ps ∧ P (.val (.v (.tuple ps)))) := rfl
theorem bi_lst  : biW .list [x] M P = (∃ ds, seqOf M x = some ds ∧ P (.fl ds)) := rfl
theorem bi_srt  : biW .sorted [x] M P = (∃ ds ps, lstOf M x = some ds ∧ dataOf ds = some ps ∧ sortOk ps ∧ P (.fl ((ps.mergeSort (PySem.W.dataLe false id)).map D.v))) := rfl
theorem bi_rpr  : biW .repr [x] M P = (∃ p, vw 4 M x = some p ∧ p.showable = true ∧ p.depth ≤ 64 ∧ p.shown.length ≤ sizeLine ∧ P (.val (.v (.str p.shown)))) := rfl
theorem bi_max2  : biW .max2 [.v (.int i), .v (.int j)] M P = (P (.val (.v (.int (if j > i then j else i))))) := rfl
theorem bi_min2  : biW .min2 [.v (.int i), .v (.int j)] M P = (P (.val (.v (.int (if j < i then j else i))))) := rfl
theorem bi_max  : biW .max [x] M P = (∃ ds ns, lstOf M x = some ds ∧ intsOf ds = some ns ∧ 0 < ns.length ∧ ∀ m, m ∈ ns → (∀ y, y ∈ ns → y ≤ m) → P (.val (.v (.int m)))) := rfl
theorem bi_min  : biW .min [x] M P = (∃ ds ns, lstOf M x = some ds ∧ intsOf ds = some ns ∧ 0 < ns.length ∧ ∀ m, m ∈ ns → (∀ y, y ∈ ns → m ≤ y) → P (.val (.v (.int m)))) := rfl
theorem sw_tup  : slW (.v (.tuple xs)) lo hi M P = (P (.val (.v (.tuple (cutP xs lo hi))))) := rfl
theorem sw_lst  : slW (.v (.list xs)) lo hi M P = (∃ ds, seqOf M (.v (.list xs)) = some ds ∧ P (.fl (cutD ds lo hi))) := rfl
theorem sw_loc  : slW (.loc n) lo hi M P = (∃ ds, seqOf M (.loc n) = some ds ∧ P (.fl (cutD ds lo hi))) := rfl
theorem rw_tup  : revW (.v (.tuple xs)) M P = (P (.val (.v (.tuple xs.reverse)))) := rfl
theorem rw_lst  : revW (.v (.list xs)) M P = (∃ ds, lstOf M (.v (.list xs)) = some ds ∧ P (.fl ds.reverse)) := rfl
theorem rw_loc  : revW (.loc n) M P = (∃ ds, lstOf M (.loc n) = some ds ∧ P (.fl ds.reverse)) := rfl
theorem mw_app  : mtW .append (.loc n) [y] M Pm = (∃ ds, M n = some (.lst ds) ∧ ds.length < sizeLine ∧ Pm (.v .none) (up M n (.lst (ds ++ [y])))) := rfl
theorem mw_pop  : mtW .pop (.loc n) [] M Pm = (∃ ds y, M n = some (.lst ds) ∧ ds[ds.length - 1]? = some y ∧ Pm y (up M n (.lst ds.dropLast))) := rfl
theorem mw_ext  : mtW .extend (.loc n) [y] M Pm = (∃ ds es, M n = some (.lst ds) ∧ lstOf M y = some es ∧ ds.length + es.length ≤ sizeLine ∧ Pm (.v .none) (up M n (.lst (ds ++ es)))) := rfl
theorem iw {x i : D} {M : Mem} {P : D → Prop} : ixW x i M P = (∃ ds k d, seqOf M x = some ds ∧ i = .v (.int k) ∧ atI ds k = some d ∧ P d) := rfl
theorem stw {x i y : D} {M : Mem} {P : Mem → Prop} : setW x i y M P = (∃ n ds k j, x = .loc n ∧ i = .v (.int k) ∧ M n = some (.lst ds) ∧ ixN ds.length k = some j ∧ P (up M n (.lst (ds.set j y)))) := rfl
end
theorem gd_v {M : Mem} {p : PyData} : guardOf M (.v p) = [] := rfl
end Pd

namespace Pd
open PySem L2

theorem compW_fil {gd : Mem → Prop} {asg : D → Env → Mem → (Env → Mem → Prop) → Prop} {tst : Env → Mem → (Bool → Mem → Prop) → Prop} {elt : Env → Mem → (D → Mem → Prop) → Prop} {env : Env} {Q : List D → Mem → Prop} {M : Mem} (g : D → Option D) (hgd : gd M) :
    ∀ {xs acc : List D}, acc.length + xs.length ≤ sizeLine → (∀ x, x ∈ xs → ∀ (k : D → Mem → Prop) (k0 : Mem → Prop), (∀ y, g x = some y → k y M) → (g x = none → k0 M) → asg x env M fun env1 M1 => tst env1 M1 fun b M2 => if b = true then elt env1 M2 k else k0 M2) →
    Q (acc ++ xs.filterMap g) M → compW gd asg tst elt env Q xs acc M
  | [], acc, hl, _, hQ => ⟨hgd, by simpa using hl, by simpa using hQ⟩
  | x :: xs, acc, hl, h, hQ => by
    rw [List.length_cons] at hl
    refine ⟨hgd, by omega, h x (List.mem_cons_self ..) _ _ (fun y e => ?_) fun e => ?_⟩
    · refine compW_fil g hgd (by rw [List.length_append]; simp; omega) (fun z hz => h z (List.mem_cons_of_mem _ hz)) ?_
      rw [List.filterMap_cons, e] at hQ
      simpa using hQ
    · refine compW_fil g hgd (by omega) (fun z hz => h z (List.mem_cons_of_mem _ hz)) ?_
      rw [List.filterMap_cons, e] at hQ
      exact hQ
theorem compW_map {gd : Mem → Prop} {asg : D → Env → Mem → (Env → Mem → Prop) → Prop} {tst : Env → Mem → (Bool → Mem → Prop) → Prop} {elt : Env → Mem → (D → Mem → Prop) → Prop} {env : Env} {Q : List D → Mem → Prop} {M : Mem} {xs : List D} (g : D → D) (hgd : gd M)
    (hl : xs.length ≤ sizeLine) (h : ∀ x, x ∈ xs → ∀ (k : D → Mem → Prop) (k0 : Mem → Prop), k (g x) M → asg x env M fun env1 M1 => tst env1 M1 fun b M2 => if b = true then elt env1 M2 k else k0 M2) (hQ : Q (xs.map g) M) : compW gd asg tst elt env Q xs [] M := by
  refine compW_fil (fun x => some (g x)) hgd (by simpa using hl) (fun x hx k k0 h1 _ => h x hx k k0 (h1 _ rfl)) ?_
  simpa using hQ
theorem compW_inv {gd : Mem → Prop} {asg : D → Env → Mem → (Env → Mem → Prop) → Prop} {tst : Env → Mem → (Bool → Mem → Prop) → Prop} {elt : Env → Mem → (D → Mem → Prop) → Prop} {env : Env} {Q : List D → Mem → Prop} (I : List D → List D → Mem → Prop)
    (hs : ∀ x rest acc M (K : List D → Mem → Prop), I (x :: rest) acc M → (∀ acc' M', I rest acc' M' → K acc' M') → gd M ∧ acc.length < sizeLine ∧ asg x env M fun env1 M1 => tst env1 M1 fun b M2 => if b = true then elt env1 M2 fun d M3 => K (acc ++ [d]) M3 else K acc M2)
    (he : ∀ acc M, I [] acc M → gd M ∧ acc.length ≤ sizeLine ∧ Q acc M) : ∀ {xs acc : List D} {M : Mem}, I xs acc M → compW gd asg tst elt env Q xs acc M
  | [], acc, M, h => he acc M h
  | x :: xs, acc, M, h => hs x xs acc M (fun acc' M' => compW gd asg tst elt env Q xs acc' M') h fun acc' M' h' => compW_inv I hs he h'
theorem forW_inv {gd : Mem → Prop} {asg : D → Env → Mem → (Env → Mem → Prop) → Prop} {body : Env → Mem → Po → Prop} {P : Po} (I : List D → Env → Mem → Prop)
    (hs : ∀ x rest env M (K : Env → Mem → Prop), I (x :: rest) env M → (∀ e m, I rest e m → K e m) → gd M ∧ asg x env M fun env1 M1 => body env1 M1 ⟨K, P.rt, P.nx, K⟩)
    (he : ∀ env M, I [] env M → gd M ∧ P.nx env M) : ∀ {xs : List D} {env : Env} {M : Mem}, I xs env M → forW gd asg body P xs env M
  | [], env, M, h => he env M h
  | x :: xs, env, M, h => hs x xs env M (fun e m => forW gd asg body P xs e m) h fun e m h' => forW_inv I hs he h'

theorem mapM_vw {M : Mem} {k : Nat} {ps : List PyData} : (ps.map D.v).mapM (vw k M) = some ps := by
  induction ps with
  | nil => rfl
  | cons p ps ih => rw [List.map_cons, List.mapM_cons, vw_v, ih]; rfl
theorem vw_loc {M : Mem} {k n : Nat} {ps : List PyData} (h : M n = some (.lst (ps.map D.v))) : vw (k + 1) M (.loc n) = some (.list ps) := by
  show (match M n with | some (.lst ds) => (ds.mapM (vw k M)).map PyData.list | _ => none) = _
  rw [h]
  show ((ps.map D.v).mapM (vw k M)).map PyData.list = _
  rw [mapM_vw]; rfl
theorem seqOf_loc {M : Mem} {n : Nat} {ds : List D} (h : M n = some (.lst ds)) : seqOf M (.loc n) = some ds := by
  show (match M n with | some (.lst ds) => some ds | some (.fz ds) => some ds | _ => none) = _
  rw [h]
theorem seqOf_fz {M : Mem} {n : Nat} {ds : List D} (h : M n = some (.fz ds)) : seqOf M (.loc n) = some ds := by
  show (match M n with | some (.lst ds) => some ds | some (.fz ds) => some ds | _ => none) = _
  rw [h]
theorem lstOf_loc {M : Mem} {n : Nat} {ds : List D} (h : M n = some (.lst ds)) : lstOf M (.loc n) = some ds := by
  show (match M n with | some (.lst ds) => some ds | _ => none) = _
  rw [h]
def pints (ns : List Int) : List PyData := ns.map PyData.int
def dints (ns : List Int) : List D := ns.map fun i => D.v (.int i)
theorem dints_eq (ns : List Int) : dints ns = (pints ns).map D.v := by unfold dints pints; rw [List.map_map]; rfl
theorem ints_lay : ∀ (ns : List Int), PyData.canLayAll0 (pints ns) = true
  | [] => rfl
  | n :: ns => by
    show (PyData.canLay0 (.int n) && PyData.canLayAll0 (pints ns)) = true
    rw [ints_lay ns]; rfl
theorem ints_depth : ∀ (ns : List Int), PyData.depthAll (pints ns) ≤ 1
  | [] => Nat.zero_le _
  | n :: ns => by
    have := ints_depth ns
    show max (PyData.depth (.int n)) (PyData.depthAll (pints ns)) ≤ 1
    have e : PyData.depth (.int n) ≤ 1 := by simp [PyData.depth]
    omega
theorem lay_list (ns : List Int) : SeqAt.shaped (.list (pints ns)) = true := by
  have := ints_depth ns
  show (PyData.canLayAll0 (pints ns) && decide (PyData.depth (.list (pints ns)) ≤ 64)) = true
  rw [ints_lay, Bool.true_and, decide_eq_true_eq]
  simp only [PyData.depth]
  omega
theorem lay_tup (ns : List Int) : SeqAt.shaped (.tuple (pints ns)) = true := by
  have := ints_depth ns
  show (PyData.canLayAll0 (pints ns) && decide (PyData.depth (.tuple (pints ns)) ≤ 64)) = true
  rw [ints_lay, Bool.true_and, decide_eq_true_eq]
  simp only [PyData.depth]
  omega
theorem lay_int (i : Int) : SeqAt.shaped (.int i) = true := by
  show (true && decide (PyData.depth (.int i) ≤ 64)) = true
  simp [PyData.depth]
theorem lay_nil : SeqAt.shaped (.list []) = true := lay_list []
theorem eqv_int (i j : Int) : PyData.eqv (.int i) (.int j) = (i == j) := by simp [PyData.eqv]
theorem eqv_ints : ∀ (as bs : List Int), PyData.eqvAll (pints as) (pints bs) = (as == bs)
  | [], [] => rfl
  | [], _ :: _ => rfl
  | _ :: _, [] => rfl
  | a :: as, b :: bs => by
    show (PyData.eqv (.int a) (.int b) && PyData.eqvAll (pints as) (pints bs)) = _
    rw [eqv_ints as bs, eqv_int]; rfl

structure BagAt (M : Mem) (b m : Nat) (cells : List Int) (x y : Int) : Prop where
  ne : b ≠ m
  hb : M b = some (.lst [.loc m, .v (.int x), .v (.int y)])
  hm : M m = some (.lst (dints cells))
  pos : ∀ c, c ∈ cells → 0 ≤ c
  x0 : 0 ≤ x
  y0 : 0 ≤ y
  y1 : y < 2147483648
def SameBut (M M' : Mem) (b m : Nat) : Prop := ∀ k, k ≠ b → k ≠ m → M' k = M k
theorem SameBut.refl (M : Mem) (b m : Nat) : SameBut M M b m := fun _ _ _ => rfl
theorem SameBut.trans {M M1 M2 : Mem} {b m : Nat} (h : SameBut M M1 b m) (h2 : SameBut M1 M2 b m) : SameBut M M2 b m := fun k a c => (h2 k a c).trans (h k a c)
theorem SameBut.upb {M M1 : Mem} {b m : Nat} {o : Ob} (h : SameBut M M1 b m) : SameBut M (up M1 b o) b m := fun k a c => (up_ne a).trans (h k a c)
theorem SameBut.upm {M M1 : Mem} {b m : Nat} {o : Ob} (h : SameBut M M1 b m) : SameBut M (up M1 m o) b m := fun k a c => (up_ne c).trans (h k a c)
def Bag (M : Mem) (b m : Nat) : Prop := ∃ cells x y, BagAt M b m cells x y
theorem BagAt.setx {M : Mem} {b m : Nat} {cells : List Int} {x y x' : Int} (B : BagAt M b m cells x y) (h : 0 ≤ x') : BagAt (up M b (.lst [.loc m, .v (.int x'), .v (.int y)])) b m cells x' y :=
  ⟨B.ne, up_same _ _ _, (up_ne (Ne.symm B.ne)).trans B.hm, B.pos, h, B.y0, B.y1⟩
theorem BagAt.sety {M : Mem} {b m : Nat} {cells : List Int} {x y y' : Int} (B : BagAt M b m cells x y) (h : 0 ≤ y') (h2 : y' < 2147483648) : BagAt (up M b (.lst [.loc m, .v (.int x), .v (.int y')])) b m cells x y' :=
  ⟨B.ne, up_same _ _ _, (up_ne (Ne.symm B.ne)).trans B.hm, B.pos, B.x0, h, h2⟩
theorem BagAt.setc {M : Mem} {b m : Nat} {cells cells' : List Int} {x y : Int} (B : BagAt M b m cells x y) (h : ∀ c, c ∈ cells' → 0 ≤ c) : BagAt (up M m (.lst (dints cells'))) b m cells' x y :=
  ⟨B.ne, (up_ne B.ne).trans B.hb, up_same _ _ _, h, B.x0, B.y0, B.y1⟩
/-- a number below the given one -/
def spDraw : FS := fun ds M P _ => ∃ b m below, ds = [.loc b, .v (.int below)] ∧ 0 < below ∧ below < 2 ^ 64 ∧ Bag M b m ∧ ∀ r M', 0 ≤ r → r < below → Bag M' b m → SameBut M M' b m → P (.v (.int r)) M'
def iDraw : List S := [(.whl (.and (.cmp .Eq (.ix (.var 0) (.cst (.int 1))) (.cst (.int 0))) (.cmp .NotEq (.ix (.var 0) (.cst (.int 0))) (.lst []))) [(.asg (.var 2) (.mth .pop (.ix (.var 0) (.cst (.int 0))) [])), (.asg (.sub (.var 0) (.cst (.int 1))) (.ite (.cmp .Gt (.var 2) (.bin .Pow (.cst (.int 10)) (.cst (.int 9)))) (.var 2) (.cst (.int 0))))]), (.ite (.cmp .Gt (.ix (.var 0) (.cst (.int 1))) (.cst (.int 0))) [(.asg (.var 3) (.bin .Mod (.bi .int [(.ix (.var 0) (.cst (.int 1)))]) (.var 1))), (.asg (.sub (.var 0) (.cst (.int 1))) (.bin .FloorDiv (.ix (.var 0) (.cst (.int 1))) (.var 1))), (.ret (.var 3))] []), (.asg (.sub (.var 0) (.cst (.int 2))) (.bin .Mod (.bi .int [(.bin .Add (.bin .Mult (.ix (.var 0) (.cst (.int 2))) (.cst (.int 48271))) (.cst (.int 13)))]) (.cst (.int 2147483647)))), (.ret (.bin .Mod (.bi .int [(.bin .FloorDiv (.bin .Mod (.bi .int [(.bin .Mult (.ix (.var 0) (.cst (.int 2))) (.ix (.var 0) (.cst (.int 2))))]) (.cst (.int 2147483629))) (.cst (.int 7)))]) (.var 1)))]
theorem atI0 {a b c : D} : atI [a, b, c] 0 = some a := rfl
theorem atI1 {a b c : D} : atI [a, b, c] 1 = some b := rfl
theorem atI2 {a b c : D} : atI [a, b, c] 2 = some c := rfl
theorem draw_ok (T : Tb) : ∀ ds M P PX, spDraw ds M P PX → fnW true T 4 2 iDraw ds M P PX := by
  rintro _ M P PX ⟨b, m, below, rfl, h0, h1, ⟨cells, x, y, B⟩, hP⟩
  unfold fnW iDraw
  refine ⟨rfl, ?_⟩
  simp only [evSs, evS]
  refine ⟨fun k env M' => ∃ cells x y c2, env = [some (.loc b), some (.v (.int below)), c2, none] ∧ BagAt M' b m cells x y ∧ SameBut M M' b m ∧ k = cells.length, ⟨cells.length, cells, x, y, none, rfl, B, SameBut.refl M b m, rfl⟩, ?_⟩
  rintro k env M1 ⟨cells, x, y, c2, rfl, B, S, rfl⟩
  have e1 := seqOf_loc B.hb
  have e2 : vw 4 M1 (.loc m) = some (.list (pints cells)) := vw_loc (by rw [B.hm, dints_eq])
  have e3 := lstOf_loc B.hm
  simp only [evSs, evS, evR, evL, evO, evB, evT, evTs, evSrc, asVal_val, asVal_fl, asVal_flD, asVal_fd0, asNew_fl, List.getElem?_cons_zero, List.getElem?_cons_succ, List.getElem?_nil, Option.some.injEq, D.v.injEq, D.loc.injEq, Ob.lst.injEq, PyData.bool.injEq, PyData.int.injEq, PyData.str.injEq, PyData.tuple.injEq, PyData.list.injEq, exists_eq_left, exists_eq_left', exists_and_left, and_true, true_and, vw_v, dataOf_nil, dataOf_cons, dataOf_map, Option.map_some, if_true, Bool.false_eq_true, if_false, setE, List.set_cons_zero, List.set_cons_succ, exists_eq', exists_eq, isiW, bw_add, bw_sub, bw_mul, bw_fdiv, bw_mod, bw_pow, bw_adds, bw_addt, bw_addl, bw_addn, bw_mull, bw_mult, uw_neg, uw_not, cw_lt, cw_lte, cw_gt, cw_gte, cw_eq, cw_ne, eq_ss, eq_ii, eq_tt, eq_ll, eq_lo, eq_nn, eq_bb, cw_in, cw_nin, bi_len, lw_tup, lw_lst, lw_str, lw_loc, bi_abs, bi_sum, bi_alls, bi_any, bi_int, bi_intb, bi_tup, bi_lst, bi_srt, bi_rpr, bi_max2, bi_min2, bi_max, bi_min, sw_tup, sw_lst, sw_loc, rw_tup, rw_lst, rw_loc, mw_app, mw_pop, mw_ext, iw, stw, seqOf_tup, seqOf_lst, lstOf_lst, intsOf_map, eqv_int, lay_int, List.length_cons, List.length_nil, permute, List.filterMap_cons, List.filterMap_nil, gd_v, Its.ok, List.not_mem_nil, List.map_cons, List.map_nil, List.cons_append, List.nil_append, List.replicate, Nat.reduceAdd, Nat.reduceSub, Nat.zero_add, Nat.reduceLT, Nat.reduceLeDiff, false_implies, implies_true, isNone, wipeE, fnW, List.cons.injEq, and_assoc, eq_self, e1, atI0, atI1, atI2, e2, e3, Option.isSome_some, B.hm]
  by_cases hx : x = 0
  · subst hx
    rw [if_pos (by rfl)]
    refine ⟨Nat.zero_le _, lay_list _, lay_nil, ?_⟩
    cases cells with
    | nil =>
      rw [if_neg (by simp [PyData.eqv, pints, PyData.eqvAll])]
      rw [if_neg (by simp)]
      refine ⟨.inr ⟨by decide, by decide⟩, by decide, _, B.hb, 2, rfl, _, seqOf_loc (up_same _ _ _), _, rfl, ?_⟩
      have hy0 : 0 ≤ (y * 48271 + 13) % 2147483647 := Int.emod_nonneg _ (by decide)
      have hy1 : (y * 48271 + 13) % 2147483647 < 2147483647 := Int.emod_lt_of_pos _ (by decide)
      simp only [List.set_cons_succ, List.set_cons_zero, evSs, evS, evR, evL, evO, evB, evT, evTs, evSrc, asVal_val, asVal_fl, asVal_flD, asVal_fd0, asNew_fl, List.getElem?_cons_zero, List.getElem?_cons_succ, List.getElem?_nil, Option.some.injEq, D.v.injEq, D.loc.injEq, Ob.lst.injEq, PyData.bool.injEq, PyData.int.injEq, PyData.str.injEq, PyData.tuple.injEq, PyData.list.injEq, exists_eq_left, exists_eq_left', exists_and_left, and_true, true_and, vw_v, dataOf_nil, dataOf_cons, dataOf_map, Option.map_some, if_true, Bool.false_eq_true, if_false, setE, List.set_cons_zero, List.set_cons_succ, exists_eq', exists_eq, isiW, bw_add, bw_sub, bw_mul, bw_fdiv, bw_mod, bw_pow, bw_adds, bw_addt, bw_addl, bw_addn, bw_mull, bw_mult, uw_neg, uw_not, cw_lt, cw_lte, cw_gt, cw_gte, cw_eq, cw_ne, eq_ss, eq_ii, eq_tt, eq_ll, eq_lo, eq_nn, eq_bb, cw_in, cw_nin, bi_len, lw_tup, lw_lst, lw_str, lw_loc, bi_abs, bi_sum, bi_alls, bi_any, bi_int, bi_intb, bi_tup, bi_lst, bi_srt, bi_rpr, bi_max2, bi_min2, bi_max, bi_min, sw_tup, sw_lst, sw_loc, rw_tup, rw_lst, rw_loc, mw_app, mw_pop, mw_ext, iw, stw, seqOf_tup, seqOf_lst, lstOf_lst, intsOf_map, eqv_int, lay_int, List.length_cons, List.length_nil, permute, List.filterMap_cons, List.filterMap_nil, gd_v, Its.ok, List.not_mem_nil, List.map_cons, List.map_nil, List.cons_append, List.nil_append, List.replicate, Nat.reduceAdd, Nat.reduceSub, Nat.zero_add, Nat.reduceLT, Nat.reduceLeDiff, false_implies, implies_true, isNone, wipeE, fnW, List.cons.injEq, and_assoc, eq_self, atI2, seqOf_loc (up_same _ _ _)]
      refine ⟨.inl ⟨by omega, by omega⟩, by decide, by decide, by decide, h0, ?_⟩
      exact hP _ _ (Int.emod_nonneg _ (by omega)) (Int.emod_lt_of_pos _ h0) ⟨_, _, _, B.sety hy0 (by omega)⟩ S.upb
    | cons c0 cs0 =>
      obtain ⟨cs, c, ec⟩ : ∃ cs c, c0 :: cs0 = cs ++ [c] := ⟨_, _, (List.dropLast_concat_getLast (List.cons_ne_nil c0 cs0)).symm⟩
      rw [if_pos (by simp [PyData.eqv, pints, PyData.eqvAll])]
      rw [ec] at B ⊢
      have hc : 0 ≤ c := B.pos c (by simp)
      have ed : dints (cs ++ [c]) = dints cs ++ [D.v (.int c)] := by simp [dints]
      rw [ed]
      have B2 := B.setc (cells' := cs) fun z hz => B.pos z (by simp [hz])
      refine ⟨D.v (.int c), by simp, by decide, by decide, by decide, c, rfl, ?_⟩
      rw [List.dropLast_concat]
      split
      · exact ⟨_, B2.hb, 1, rfl, cs.length, by simp, cs, c, y, B2.setx hc, S.upm.upb, rfl⟩
      · exact ⟨_, B2.hb, 1, rfl, cs.length, by simp, cs, 0, y, B2.setx (Int.le_refl 0), S.upm.upb, rfl⟩
  · have hx0 := B.x0
    rw [if_neg (by simpa using hx), if_pos (by simp; omega)]
    refine ⟨h0, h0, h1, _, B.hb, 1, rfl, ?_⟩
    exact hP _ _ (Int.emod_nonneg _ (by omega)) (Int.emod_lt_of_pos _ h0) ⟨_, _, _, B.setx (Int.ediv_nonneg hx0 (by omega))⟩ S.upb
theorem cutD_map {ps : List PyData} {lo hi : Option Int} : cutD (ps.map D.v) lo hi = (cutP ps lo hi).map D.v := by
  unfold cutD cutP
  rw [List.length_map, List.map_take, List.map_drop]
theorem cut_whole {n : Nat} {ps : List PyData} (h : ps.length ≤ n) : cutP ps none (some (n : Int)) = ps := by
  unfold cutP HT.sIx
  have e : ¬ ((n : Int) < 0) := by omega
  simp only [e, if_false, Int.toNat_natCast]
  rw [List.drop_zero, Nat.sub_zero, Nat.min_eq_right h, List.take_length]
theorem sim_asV {P : D → Mem → Prop} {ns : List Int} {M : Mem} (h : P (.v (.list (pints ns))) M) : asVal P (.fl (dints ns)) M := ⟨pints ns, dints_eq ns, h⟩
theorem dataOf_dints (ns : List Int) : dataOf (dints ns) = some (pints ns) := by rw [dints_eq, dataOf_map]
theorem intsOf_pints (ns : List Int) : intsOf ((pints ns).map D.v) = some ns := intsOf_map
theorem dints_len (ns : List Int) : (dints ns).length = ns.length := by unfold dints; rw [List.length_map]
theorem pints_len (ns : List Int) : (pints ns).length = ns.length := by unfold pints; rw [List.length_map]
def iBag (s : Int) : List S := [(.asg (.var 1) (.comp [3] (.var 3) (.seq (.sl (.var 0) none (some (.cst (.int 63))))) none (.bi .abs [(.var 3)]))), (.asg (.var 2) (.bin .Add (.cst (.int s)) (.bi .len [(.var 1)]))), (.for_ (.var 3) (.seq (.var 1)) [(.asg (.var 2) (.bin .Mod (.bi .int [(.bin .Add (.bin .Add (.bin .Mult (.var 2) (.cst (.int 48271))) (.bin .Mod (.bi .int [(.var 3)]) (.cst (.int 2147483629)))) (.cst (.int 5)))]) (.cst (.int 2147483647))))]), (.ret (.new (.lst [(.new (.rev (.var 1))), (.cst (.int 0)), (.var 2)])))]
def spBag : FS := fun ds M P _ => ∃ ns : List Int, ds = [.loc 0] ∧ M 0 = some (.fz (dints ns)) ∧ ns.length ≤ 63 ∧ ∀ b m M', M b = none → M m = none → Bag M' b m → SameBut M M' b m → P (.loc b) M'
theorem bag_ok (T : Tb) (s : Int) (hs0 : 0 ≤ s) (hs1 : s < 1000000) : ∀ ds M P PX, spBag ds M P PX → fnW true T 4 1 (iBag s) ds M P PX := by
  rintro _ M P PX ⟨ns, rfl, h0, hl, hP⟩
  unfold fnW iBag
  refine ⟨rfl, ?_⟩
  have e0 := seqOf_fz h0
  have ec : cutD (dints ns) none (some 63) = (pints ns).map D.v := by
    rw [dints_eq, cutD_map]
    congr 1
    exact cut_whole (n := 63) (by rw [pints_len]; exact hl)
  simp only [evSs, evS, evR, evL, evO, evB, evT, evTs, evSrc, asVal_val, asVal_fl, asVal_flD, asVal_fd0, asNew_fl, List.getElem?_cons_zero, List.getElem?_cons_succ, List.getElem?_nil, Option.some.injEq, D.v.injEq, D.loc.injEq, Ob.lst.injEq, PyData.bool.injEq, PyData.int.injEq, PyData.str.injEq, PyData.tuple.injEq, PyData.list.injEq, exists_eq_left, exists_eq_left', exists_and_left, and_true, true_and, vw_v, dataOf_nil, dataOf_cons, dataOf_map, Option.map_some, if_true, Bool.false_eq_true, if_false, setE, List.set_cons_zero, List.set_cons_succ, exists_eq', exists_eq, isiW, bw_add, bw_sub, bw_mul, bw_fdiv, bw_mod, bw_pow, bw_adds, bw_addt, bw_addl, bw_addn, bw_mull, bw_mult, uw_neg, uw_not, cw_lt, cw_lte, cw_gt, cw_gte, cw_eq, cw_ne, eq_ss, eq_ii, eq_tt, eq_ll, eq_lo, eq_nn, eq_bb, cw_in, cw_nin, bi_len, lw_tup, lw_lst, lw_str, lw_loc, bi_abs, bi_sum, bi_alls, bi_any, bi_int, bi_intb, bi_tup, bi_lst, bi_srt, bi_rpr, bi_max2, bi_min2, bi_max, bi_min, sw_tup, sw_lst, sw_loc, rw_tup, rw_lst, rw_loc, mw_app, mw_pop, mw_ext, iw, stw, seqOf_tup, seqOf_lst, lstOf_lst, intsOf_map, eqv_int, lay_int, List.length_cons, List.length_nil, permute, List.filterMap_cons, List.filterMap_nil, gd_v, Its.ok, List.not_mem_nil, List.map_cons, List.map_nil, List.cons_append, List.nil_append, List.replicate, Nat.reduceAdd, Nat.reduceSub, Nat.zero_add, Nat.reduceLT, Nat.reduceLeDiff, false_implies, implies_true, isNone, wipeE, fnW, List.cons.injEq, and_assoc, eq_self, e0, ec, List.map_cons, List.map_nil, List.replicate, List.cons_append, List.nil_append, wipeE, Nat.sub_self, Nat.add_sub_cancel]
  have hz := sizeLine_eq
  refine compW_map (fun d => match d with
    | .v (.int i) => .v (.int (if i < 0 then -i else i))
    | d => d) trivial (by rw [List.length_map, pints_len]; omega) (fun x hx k k0 hk => ?_) ?_
  · obtain ⟨p, hp, rfl⟩ := List.mem_map.mp hx
    obtain ⟨i, _, rfl⟩ := List.mem_map.mp hp
    simp only [evSs, evS, evR, evL, evO, evB, evT, evTs, evSrc, asVal_val, asVal_fl, asVal_flD, asVal_fd0, asNew_fl, List.getElem?_cons_zero, List.getElem?_cons_succ, List.getElem?_nil, Option.some.injEq, D.v.injEq, D.loc.injEq, Ob.lst.injEq, PyData.bool.injEq, PyData.int.injEq, PyData.str.injEq, PyData.tuple.injEq, PyData.list.injEq, exists_eq_left, exists_eq_left', exists_and_left, and_true, true_and, vw_v, dataOf_nil, dataOf_cons, dataOf_map, Option.map_some, if_true, Bool.false_eq_true, if_false, setE, List.set_cons_zero, List.set_cons_succ, exists_eq', exists_eq, isiW, bw_add, bw_sub, bw_mul, bw_fdiv, bw_mod, bw_pow, bw_adds, bw_addt, bw_addl, bw_addn, bw_mull, bw_mult, uw_neg, uw_not, cw_lt, cw_lte, cw_gt, cw_gte, cw_eq, cw_ne, eq_ss, eq_ii, eq_tt, eq_ll, eq_lo, eq_nn, eq_bb, cw_in, cw_nin, bi_len, lw_tup, lw_lst, lw_str, lw_loc, bi_abs, bi_sum, bi_alls, bi_any, bi_int, bi_intb, bi_tup, bi_lst, bi_srt, bi_rpr, bi_max2, bi_min2, bi_max, bi_min, sw_tup, sw_lst, sw_loc, rw_tup, rw_lst, rw_loc, mw_app, mw_pop, mw_ext, iw, stw, seqOf_tup, seqOf_lst, lstOf_lst, intsOf_map, eqv_int, lay_int, List.length_cons, List.length_nil, permute, List.filterMap_cons, List.filterMap_nil, gd_v, Its.ok, List.not_mem_nil, List.map_cons, List.map_nil, List.cons_append, List.nil_append, List.replicate, Nat.reduceAdd, Nat.reduceSub, Nat.zero_add, Nat.reduceLT, Nat.reduceLeDiff, false_implies, implies_true, isNone, wipeE, fnW, List.cons.injEq, and_assoc, eq_self]
    exact hk
  · have em : ((pints ns).map D.v).map (fun d => match d with
        | .v (.int i) => .v (.int (if i < 0 then -i else i))
        | d => d) = (pints (ns.map fun i => if i < 0 then -i else i)).map D.v := by
      unfold pints
      simp only [List.map_map]
      rfl
    rw [em]
    generalize hcs : (ns.map fun i : Int => if i < 0 then -i else i) = cs
    have hpos : ∀ c, c ∈ cs → 0 ≤ c := fun c hc => by
      rw [← hcs] at hc
      obtain ⟨i, _, rfl⟩ := List.mem_map.mp hc
      split <;> omega
    have hlen : cs.length = ns.length := by rw [← hcs, List.length_map]
    simp only [evSs, evS, evR, evL, evO, evB, evT, evTs, evSrc, asVal_val, asVal_fl, asVal_flD, asVal_fd0, asNew_fl, List.getElem?_cons_zero, List.getElem?_cons_succ, List.getElem?_nil, Option.some.injEq, D.v.injEq, D.loc.injEq, Ob.lst.injEq, PyData.bool.injEq, PyData.int.injEq, PyData.str.injEq, PyData.tuple.injEq, PyData.list.injEq, exists_eq_left, exists_eq_left', exists_and_left, and_true, true_and, vw_v, dataOf_nil, dataOf_cons, dataOf_map, Option.map_some, if_true, Bool.false_eq_true, if_false, setE, List.set_cons_zero, List.set_cons_succ, exists_eq', exists_eq, isiW, bw_add, bw_sub, bw_mul, bw_fdiv, bw_mod, bw_pow, bw_adds, bw_addt, bw_addl, bw_addn, bw_mull, bw_mult, uw_neg, uw_not, cw_lt, cw_lte, cw_gt, cw_gte, cw_eq, cw_ne, eq_ss, eq_ii, eq_tt, eq_ll, eq_lo, eq_nn, eq_bb, cw_in, cw_nin, bi_len, lw_tup, lw_lst, lw_str, lw_loc, bi_abs, bi_sum, bi_alls, bi_any, bi_int, bi_intb, bi_tup, bi_lst, bi_srt, bi_rpr, bi_max2, bi_min2, bi_max, bi_min, sw_tup, sw_lst, sw_loc, rw_tup, rw_lst, rw_loc, mw_app, mw_pop, mw_ext, iw, stw, seqOf_tup, seqOf_lst, lstOf_lst, intsOf_map, eqv_int, lay_int, List.length_cons, List.length_nil, permute, List.filterMap_cons, List.filterMap_nil, gd_v, Its.ok, List.not_mem_nil, List.map_cons, List.map_nil, List.cons_append, List.nil_append, List.replicate, Nat.reduceAdd, Nat.reduceSub, Nat.zero_add, Nat.reduceLT, Nat.reduceLeDiff, false_implies, implies_true, isNone, wipeE, fnW, List.cons.injEq, and_assoc, eq_self, List.length_map, pints_len]
    refine forW_inv (fun rest env M' => M' = M ∧ ∃ mixed c rs, env = [some (.loc 0), some (.v (.list (pints cs))), some (.v (.int mixed)), c] ∧ 0 ≤ mixed ∧ mixed < 2147483648 ∧ rest = (pints rs).map D.v ∧ ∀ z, z ∈ rs → 0 ≤ z) ?_ ?_
      ⟨rfl, s + (cs.length : Nat), none, cs, rfl, by omega, by omega, rfl, hpos⟩
    · rintro x rest env M' K ⟨rfl, mixed, c, rs, rfl, m0, m1, er, hr⟩ hK
      cases rs with
      | nil => cases er
      | cons z zs =>
        injection er with e1 e2
        subst e1 e2
        simp only [evSs, evS, evR, evL, evO, evB, evT, evTs, evSrc, asVal_val, asVal_fl, asVal_flD, asVal_fd0, asNew_fl, List.getElem?_cons_zero, List.getElem?_cons_succ, List.getElem?_nil, Option.some.injEq, D.v.injEq, D.loc.injEq, Ob.lst.injEq, PyData.bool.injEq, PyData.int.injEq, PyData.str.injEq, PyData.tuple.injEq, PyData.list.injEq, exists_eq_left, exists_eq_left', exists_and_left, and_true, true_and, vw_v, dataOf_nil, dataOf_cons, dataOf_map, Option.map_some, if_true, Bool.false_eq_true, if_false, setE, List.set_cons_zero, List.set_cons_succ, exists_eq', exists_eq, isiW, bw_add, bw_sub, bw_mul, bw_fdiv, bw_mod, bw_pow, bw_adds, bw_addt, bw_addl, bw_addn, bw_mull, bw_mult, uw_neg, uw_not, cw_lt, cw_lte, cw_gt, cw_gte, cw_eq, cw_ne, eq_ss, eq_ii, eq_tt, eq_ll, eq_lo, eq_nn, eq_bb, cw_in, cw_nin, bi_len, lw_tup, lw_lst, lw_str, lw_loc, bi_abs, bi_sum, bi_alls, bi_any, bi_int, bi_intb, bi_tup, bi_lst, bi_srt, bi_rpr, bi_max2, bi_min2, bi_max, bi_min, sw_tup, sw_lst, sw_loc, rw_tup, rw_lst, rw_loc, mw_app, mw_pop, mw_ext, iw, stw, seqOf_tup, seqOf_lst, lstOf_lst, intsOf_map, eqv_int, lay_int, List.length_cons, List.length_nil, permute, List.filterMap_cons, List.filterMap_nil, gd_v, Its.ok, List.not_mem_nil, List.map_cons, List.map_nil, List.cons_append, List.nil_append, List.replicate, Nat.reduceAdd, Nat.reduceSub, Nat.zero_add, Nat.reduceLT, Nat.reduceLeDiff, false_implies, implies_true, isNone, wipeE, fnW, List.cons.injEq, and_assoc, eq_self]
        have q0 : 0 ≤ (mixed * 48271 + z % 2147483629 + 5) % 2147483647 := Int.emod_nonneg _ (by decide)
        have q1 : (mixed * 48271 + z % 2147483629 + 5) % 2147483647 < 2147483647 := Int.emod_lt_of_pos _ (by decide)
        refine ⟨.inl ⟨by omega, by omega⟩, by decide, by decide, ?_⟩
        exact hK _ _ ⟨rfl, _, _, zs, rfl, q0, by omega, rfl, fun y hy => hr y (List.mem_cons_of_mem _ hy)⟩
    · rintro env M' ⟨rfl, mixed, c, rs, rfl, m0, m1, _, _⟩
      simp only [evSs, evS, evR, evL, evO, evB, evT, evTs, evSrc, asVal_val, asVal_fl, asVal_flD, asVal_fd0, asNew_fl, List.getElem?_cons_zero, List.getElem?_cons_succ, List.getElem?_nil, Option.some.injEq, D.v.injEq, D.loc.injEq, Ob.lst.injEq, PyData.bool.injEq, PyData.int.injEq, PyData.str.injEq, PyData.tuple.injEq, PyData.list.injEq, exists_eq_left, exists_eq_left', exists_and_left, and_true, true_and, vw_v, dataOf_nil, dataOf_cons, dataOf_map, Option.map_some, if_true, Bool.false_eq_true, if_false, setE, List.set_cons_zero, List.set_cons_succ, exists_eq', exists_eq, isiW, bw_add, bw_sub, bw_mul, bw_fdiv, bw_mod, bw_pow, bw_adds, bw_addt, bw_addl, bw_addn, bw_mull, bw_mult, uw_neg, uw_not, cw_lt, cw_lte, cw_gt, cw_gte, cw_eq, cw_ne, eq_ss, eq_ii, eq_tt, eq_ll, eq_lo, eq_nn, eq_bb, cw_in, cw_nin, bi_len, lw_tup, lw_lst, lw_str, lw_loc, bi_abs, bi_sum, bi_alls, bi_any, bi_int, bi_intb, bi_tup, bi_lst, bi_srt, bi_rpr, bi_max2, bi_min2, bi_max, bi_min, sw_tup, sw_lst, sw_loc, rw_tup, rw_lst, rw_loc, mw_app, mw_pop, mw_ext, iw, stw, seqOf_tup, seqOf_lst, lstOf_lst, intsOf_map, eqv_int, lay_int, List.length_cons, List.length_nil, permute, List.filterMap_cons, List.filterMap_nil, gd_v, Its.ok, List.not_mem_nil, List.map_cons, List.map_nil, List.cons_append, List.nil_append, List.replicate, Nat.reduceAdd, Nat.reduceSub, Nat.zero_add, Nat.reduceLT, Nat.reduceLeDiff, false_implies, implies_true, isNone, wipeE, fnW, List.cons.injEq, and_assoc, eq_self]
      intro m hm
      refine ⟨by omega, fun b hb => ?_⟩
      have hbm : b ≠ m := fun e => by rw [e, up_same] at hb; cases hb
      rw [up_ne hbm] at hb
      refine hP b m _ hb hm ⟨cs.reverse, 0, mixed, hbm, up_same _ _ _, ?_, fun c hc => hpos c (by simpa using hc), Int.le_refl 0, m0, m1⟩ ?_
      · rw [up_ne (Ne.symm hbm), up_same]
        congr 2
        rw [dints_eq]
        unfold pints
        rw [← List.map_reverse, ← List.map_reverse]
      · exact (SameBut.refl _ b m).upm.upb
theorem ixN_nat {n : Nat} {r : Int} (h0 : 0 ≤ r) (h1 : r < n) : ixN n r = some r.toNat := by
  unfold ixN
  simp [h0]
  omega
theorem atI_nat {xs : List D} {r : Int} (h0 : 0 ≤ r) (h1 : r < xs.length) : atI xs r = xs[r.toNat]? := by
  unfold atI
  rw [ixN_nat h0 h1]; rfl
theorem atI_mem {ps : List PyData} {r : Int} (h0 : 0 ≤ r) (h1 : r < ps.length) : ∃ p, p ∈ ps ∧ atI (ps.map D.v) r = some (.v p) := by
  have h2 : r.toNat < ps.length := by omega
  refine ⟨ps[r.toNat], List.getElem_mem h2, ?_⟩
  rw [atI_nat h0 (by rw [List.length_map]; exact h1), List.getElem?_map, List.getElem?_eq_getElem h2]
  rfl
/-- one of some -/
def spPick : FS := fun ds M P _ => ∃ b m ps s, ds = [.loc b, .v s] ∧ (s = .list ps ∨ s = .tuple ps) ∧ ps ≠ [] ∧ ps.length ≤ sizeLine ∧ Bag M b m ∧ ∀ p M', p ∈ ps → Bag M' b m → SameBut M M' b m → P (.v p) M'
def iPick : List S := [(.ret (.ix (.var 1) (.call "_law_draw" [(.var 0), (.bi .len [(.var 1)])] [0, 1])))]
theorem pick_ok (T : Tb) (hT : T "_law_draw" = spDraw) : ∀ ds M P PX, spPick ds M P PX → fnW true T 2 2 iPick ds M P PX := by
  rintro _ M P PX ⟨b, m, ps, s, rfl, hs, hne, hl, B, hP⟩
  unfold fnW iPick
  refine ⟨rfl, ?_⟩
  have hz := sizeLine_eq
  have hp : 0 < ps.length := List.length_pos_iff.mpr hne
  rcases hs with rfl | rfl
  all_goals
    simp only [evSs, evS, evR, evL, evO, evB, evT, evTs, evSrc, asVal_val, asVal_fl, asVal_flD, asVal_fd0, asNew_fl, List.getElem?_cons_zero, List.getElem?_cons_succ, List.getElem?_nil, Option.some.injEq, D.v.injEq, D.loc.injEq, Ob.lst.injEq, PyData.bool.injEq, PyData.int.injEq, PyData.str.injEq, PyData.tuple.injEq, PyData.list.injEq, exists_eq_left, exists_eq_left', exists_and_left, and_true, true_and, vw_v, dataOf_nil, dataOf_cons, dataOf_map, Option.map_some, if_true, Bool.false_eq_true, if_false, setE, List.set_cons_zero, List.set_cons_succ, exists_eq', exists_eq, isiW, bw_add, bw_sub, bw_mul, bw_fdiv, bw_mod, bw_pow, bw_adds, bw_addt, bw_addl, bw_addn, bw_mull, bw_mult, uw_neg, uw_not, cw_lt, cw_lte, cw_gt, cw_gte, cw_eq, cw_ne, eq_ss, eq_ii, eq_tt, eq_ll, eq_lo, eq_nn, eq_bb, cw_in, cw_nin, bi_len, lw_tup, lw_lst, lw_str, lw_loc, bi_abs, bi_sum, bi_alls, bi_any, bi_int, bi_intb, bi_tup, bi_lst, bi_srt, bi_rpr, bi_max2, bi_min2, bi_max, bi_min, sw_tup, sw_lst, sw_loc, rw_tup, rw_lst, rw_loc, mw_app, mw_pop, mw_ext, iw, stw, seqOf_tup, seqOf_lst, lstOf_lst, intsOf_map, eqv_int, lay_int, List.length_cons, List.length_nil, permute, List.filterMap_cons, List.filterMap_nil, gd_v, Its.ok, List.not_mem_nil, List.map_cons, List.map_nil, List.cons_append, List.nil_append, List.replicate, Nat.reduceAdd, Nat.reduceSub, Nat.zero_add, Nat.reduceLT, Nat.reduceLeDiff, false_implies, implies_true, isNone, wipeE, fnW, List.cons.injEq, and_assoc, eq_self, hT, List.map_cons, List.map_nil, List.length_map]
    refine ⟨b, m, _, rfl, by omega, by omega, B, fun r M' r0 r1 B' S' => ?_⟩
    obtain ⟨p, hp, e⟩ := atI_mem r0 r1
    exact ⟨_, rfl, _, e, hP p M' hp B' S'⟩
end Pd

namespace Pd
open PySem L2

theorem restr_self (M : Mem) : restr M M = M := by
  funext k
  unfold restr
  cases h : M k <;> rfl
theorem restr_new {M M1 : Mem} {n : Nat} {o : Ob} (h : M n = none) : restr M (up M1 n o) = restr M M1 := by
  funext k
  unfold restr
  cases q : M k with
  | none => rfl
  | some x =>
    have : k ≠ n := fun e => by rw [e, h] at q; cases q
    exact up_ne this
theorem exit_v {M0 M : Mem} {P : D → Mem → Prop} {p : PyData} (h : P (.v p) (restr M0 M)) : exitW false M0 P (.v p) M := ⟨p, rfl, h⟩
theorem exit_raw {M0 M : Mem} {P : D → Mem → Prop} {d : D} (h : P d M) : exitW true M0 P d M := h
theorem intsOf_dints (ns : List Int) : intsOf (dints ns) = some ns := by rw [dints_eq]; exact intsOf_map
theorem boolsOf_map (bs : List Bool) : boolsOf ((bs.map PyData.bool).map D.v) = some bs := by
  induction bs with
  | nil => rfl
  | cons b bs ih =>
    show (boolsOf ((bs.map PyData.bool).map D.v)).map (b :: ·) = _
    rw [ih]; rfl
def pr (p : Int × Int) : PyData := .tuple [.int p.1, .int p.2]
def cutL {α : Type} (xs : List α) (lo hi : Option Int) : List α := (xs.drop (HT.sIx xs.length 0 lo)).take (HT.sIx xs.length xs.length hi - HT.sIx xs.length 0 lo)
theorem cutP_map {α : Type} (f : α → PyData) (xs : List α) (lo hi : Option Int) : cutP (xs.map f) lo hi = (cutL xs lo hi).map f := by
  unfold cutP cutL
  rw [List.length_map, List.map_take, List.map_drop]
theorem cutL_map {α β : Type} (f : α → β) (xs : List α) (lo hi : Option Int) : cutL (xs.map f) lo hi = (cutL xs lo hi).map f := by
  unfold cutL
  rw [List.length_map, List.map_take, List.map_drop]
theorem cutL_mem {α : Type} {xs : List α} {lo hi : Option Int} {x : α} (h : x ∈ cutL xs lo hi) : x ∈ xs := List.mem_of_mem_drop (List.mem_of_mem_take h)
theorem cutL_len {α : Type} (xs : List α) (lo hi : Option Int) : (cutL xs lo hi).length ≤ xs.length := by
  unfold cutL
  rw [List.length_take, List.length_drop]
  omega
/-- sorted pairs of ints -/
def sortP (l : List (Int × Int)) : List (Int × Int) := l.mergeSort (PySem.W.dataLe false pr)
theorem sort_pr (l : List (Int × Int)) : (l.map pr).mergeSort (PySem.W.dataLe false id) = (sortP l).map pr := by
  unfold sortP
  exact (PySem.W.sort_maps (r := PySem.W.dataLe false pr) (s := PySem.W.dataLe false id) pr (l := l) (fun _ _ _ _ => rfl)).symm
theorem sortP_perm (l : List (Int × Int)) : (sortP l).Perm l := List.mergeSort_perm _ _
theorem sortOk_pr (l : List (Int × Int)) : sortOk (l.map pr) := by
  refine ⟨PySem.W.AllAlike.of fun a b => ?_, PySem.W.Sortable.tuples fun a => ⟨_, _, rfl⟩, fun p hp => ?_⟩
  · exact PySem.W.alike_ints [a.1, a.2] [b.1, b.2]
  · obtain ⟨a, _, rfl⟩ := List.mem_map.mp hp
    simp [pr, PyData.depth, PyData.depthAll]
theorem enum_dints : ∀ (ws : List Int) (k : Nat), enumFrom k (dints ws) = some ((ws.zipIdx k).map fun q => pr ((q.2 : Int), q.1))
  | [], _ => rfl
  | w :: ws, k => by
    show (enumFrom (k + 1) (dints ws)).map _ = _
    rw [enum_dints ws (k + 1), List.zipIdx_cons]
    rfl
theorem enum_data : ∀ (ps : List PyData) (k : Nat), enumFrom k (ps.map D.v) = some ((ps.zipIdx k).map fun q => .tuple [.int (q.2 : Int), q.1])
  | [], _ => rfl
  | w :: ws, k => by
    show (enumFrom (k + 1) (ws.map D.v)).map _ = _
    rw [enum_data ws (k + 1), List.zipIdx_cons]
    rfl
theorem dints_get {ns : List Int} {i : Nat} (h : i < ns.length) : (dints ns)[i]? = some (.v (.int (ns.getD i 0))) := by
  unfold dints
  rw [List.getElem?_map, List.getElem?_eq_getElem h, List.getD_eq_getElem?_getD, List.getElem?_eq_getElem h]
  rfl
theorem dints_set (ns : List Int) (i : Nat) (x : Int) : (dints ns).set i (.v (.int x)) = dints (ns.set i x) := by
  unfold dints
  rw [List.map_set]
theorem dints_atI {ns : List Int} {r : Int} (h0 : 0 ≤ r) (h1 : r < ns.length) : atI (dints ns) r = some (.v (.int (ns.getD r.toNat 0))) := by
  rw [atI_nat h0 (by rw [dints_len]; exact h1)]
  exact dints_get (by omega)
theorem data_atI {ps : List PyData} {r : Int} (h0 : 0 ≤ r) (h1 : r < ps.length) : atI (ps.map D.v) r = some (.v (ps.getD r.toNat .none)) := by
  rw [atI_nat h0 (by rw [List.length_map]; exact h1), List.getElem?_map]
  have h2 : r.toNat < ps.length := by omega
  rw [List.getElem?_eq_getElem h2, List.getD_eq_getElem?_getD, List.getElem?_eq_getElem h2]
  rfl
structure Sm (d n : Nat) (p : PyData) : Prop where
  sh : p.showable = true
  dp : p.depth ≤ d
  lv : p.leavesShort 100 = true
  wt : p.weight ≤ n
theorem Sm.mono {d n d' n' : Nat} {p : PyData} (h : Sm d n p) (h1 : d ≤ d') (h2 : n ≤ n') : Sm d' n' p := ⟨h.sh, Nat.le_trans h.dp h1, h.lv, Nat.le_trans h.wt h2⟩
theorem Sm.fits {d n : Nat} {p : PyData} (h : Sm d n p) (hn : n ≤ 100000) : p.shown.length ≤ sizeLine := by
  have := PyData.shown_le 100 (by decide) p h.lv
  have := h.wt
  have := sizeLine_eq
  omega
theorem sm_int {i : Int} (h : i.natAbs < 10 ^ 90) : Sm 0 400 (.int i) := by
  have h2 : i.natAbs < 2 ^ 300 := Nat.lt_trans h (by decide)
  have hl : i ≠ 0 → i.natAbs.log2 < 300 := fun h0 => (Nat.log2_lt (by omega)).mpr h2
  refine ⟨?_, Nat.le_refl 0, ?_, ?_⟩
  · show decide (i.natAbs.log2 < 1920) = true
    rw [decide_eq_true_eq]
    by_cases h0 : i = 0
    · subst h0; decide
    · have := hl h0; omega
  · show decide ((PyData.shown (.int i)).length ≤ 100) = true
    rw [decide_eq_true_eq]
    have e := int_text_length_le10 (k := 90) (by decide) h
    show (Str.ofString (toString i)).length ≤ 100
    rw [ofString_length]; omega
  · show (if i == 0 then 0 else i.natAbs.log2 + 1) ≤ 400
    split
    · omega
    · rename_i h0
      have := hl (by simpa using h0)
      omega
theorem sm_none : Sm 0 0 .none := ⟨rfl, Nat.le_refl 0, rfl, Nat.le_refl 0⟩
theorem sm_bool (b : Bool) : Sm 0 0 (.bool b) := ⟨rfl, Nat.le_refl 0, rfl, Nat.le_refl 0⟩
theorem sm_all {d n : Nat} : ∀ {ps : List PyData}, (∀ q, q ∈ ps → Sm d n q) → PyData.showableAll ps = true ∧ PyData.depthAll ps ≤ d ∧ PyData.leavesShortAll 100 ps = true ∧ PyData.weightAll ps ≤ (n + 1) * ps.length
  | [], _ => ⟨rfl, Nat.zero_le _, rfl, Nat.zero_le _⟩
  | p :: ps, h => by
    obtain ⟨h1, h2, h3, h4⟩ := sm_all fun q hq => h q (List.mem_cons_of_mem _ hq)
    have hp := h p (List.mem_cons_self ..)
    refine ⟨?_, ?_, ?_, ?_⟩
    · show (PyData.showable p && PyData.showableAll ps) = true
      rw [hp.sh, h1]; rfl
    · show max (PyData.depth p) (PyData.depthAll ps) ≤ d
      have := hp.dp; omega
    · show (PyData.leavesShort 100 p && PyData.leavesShortAll 100 ps) = true
      rw [hp.lv, h3]; rfl
    · show PyData.weight p + 1 + PyData.weightAll ps ≤ _
      have := hp.wt
      rw [List.length_cons, Nat.mul_succ]; omega
theorem sm_tup {d n : Nat} {ps : List PyData} (h : ∀ q, q ∈ ps → Sm d n q) : Sm (d + 1) ((n + 1) * ps.length) (.tuple ps) := by
  obtain ⟨h1, h2, h3, h4⟩ := sm_all h
  exact ⟨h1, Nat.succ_le_succ h2, h3, h4⟩
theorem sm_list {d n : Nat} {ps : List PyData} (h : ∀ q, q ∈ ps → Sm d n q) : Sm (d + 1) ((n + 1) * ps.length) (.list ps) := by
  obtain ⟨h1, h2, h3, h4⟩ := sm_all h
  exact ⟨h1, Nat.succ_le_succ h2, h3, h4⟩
theorem sm_str {x : Str} {n : Nat} (h : (x.cps.toList.all fun c => decide (c < 16 ^ 8)) = true) (h2 : x.cps.size ≤ n) : Sm 0 n (.str x) := ⟨rfl, Nat.le_refl 0, h, h2⟩
theorem sm_ints {ns : List Int} (h : ∀ n, n ∈ ns → n.natAbs < 10 ^ 90) (hl : ns.length ≤ 200) : Sm 1 80200 (.tuple (pints ns)) ∧ Sm 1 80200 (.list (pints ns)) := by
  have z : ∀ q, q ∈ pints ns → Sm 0 400 q := fun q hq => by
    obtain ⟨i, hi, rfl⟩ := List.mem_map.mp hq
    exact sm_int (h i hi)
  have e : (400 + 1) * (pints ns).length ≤ 80200 := by rw [pints_len]; omega
  exact ⟨(sm_tup z).mono (by omega) e, (sm_list z).mono (by omega) e⟩
theorem restr_bag {M M1 : Mem} {b m : Nat} (B : Bag M b m) (S : SameBut M M1 b m) : restr M M1 = M1 := by
  obtain ⟨cells, x, y, B⟩ := B
  funext k
  unfold restr
  cases q : M k with
  | some _ => rfl
  | none =>
    by_cases h1 : k = b
    · rw [h1, B.hb] at q; cases q
    · by_cases h2 : k = m
      · rw [h2, B.hm] at q; cases q
      · rw [S k h1 h2, q]
theorem Bag.some {M : Mem} {b m n : Nat} (B : Bag M b m) (h : M n = none) : n ≠ b ∧ n ≠ m := by
  obtain ⟨cells, x, y, B⟩ := B
  exact ⟨fun e => by (rw [e, B.hb] at h; cases h), fun e => by (rw [e, B.hm] at h; cases h)⟩
theorem Bag.up {M : Mem} {b m n : Nat} {o : Ob} (B : Bag M b m) (h1 : n ≠ b) (h2 : n ≠ m) : Bag (up M n o) b m := by
  obtain ⟨cells, x, y, B⟩ := B
  exact ⟨cells, x, y, B.ne, (up_ne (Ne.symm h1)).trans B.hb, (up_ne (Ne.symm h2)).trans B.hm, B.pos, B.x0, B.y0, B.y1⟩
end Pd

namespace Pd
open PySem L2

section
variable {α S : Type} {gd : Mem → Prop} {asg : D → Env → Mem → (Env → Mem → Prop) → Prop} {body : Env → Mem → Po → Prop} {P : Po}
/-- a loop that looks for the first one that hands something back -/
theorem forW_find {M : Mem} (E : S → Env) (enc : α → D) (g : α → Option D) (hgd : gd M) : ∀ {xs : List α} {s : S},
    (∀ x, x ∈ xs → ∀ s (K : Env → Mem → Prop), (∀ s', g x = none → K (E s') M) → (∀ r, g x = some r → P.rt r M) → asg (enc x) (E s) M fun env1 M1 => body env1 M1 ⟨K, P.rt, P.nx, K⟩) →
    (∀ r, xs.findSome? g = some r → P.rt r M) → (∀ s, xs.findSome? g = none → P.nx (E s) M) → forW gd asg body P (xs.map enc) (E s) M
  | [], s, _, _, hn => ⟨hgd, hn s rfl⟩
  | x :: xs, s, hb, hr, hn => ⟨hgd, hb x (List.mem_cons_self ..) s _ (fun s' e => forW_find E enc g hgd (fun z hz => hb z (List.mem_cons_of_mem _ hz)) (fun r q => hr r (by rw [List.findSome?_cons, e]; exact q)) fun s q => hn s (by rw [List.findSome?_cons, e]; exact q)) fun r e => hr r (by rw [List.findSome?_cons, e])⟩
/-- a loop that changes a state, by what stays true of it -/
theorem forW_fold (I : S → Prop) (E : S → Env) (Mm : S → Mem) (enc : α → D) (f : S → α → S) (hgd : ∀ s, I s → gd (Mm s)) : ∀ {xs : List α} {s : S},
    (∀ x, x ∈ xs → ∀ s (K : Env → Mem → Prop), I s → (I (f s x) → K (E (f s x)) (Mm (f s x))) → asg (enc x) (E s) (Mm s) fun env1 M1 => body env1 M1 ⟨K, P.rt, P.nx, K⟩) →
    I s → (I (xs.foldl f s) → P.nx (E (xs.foldl f s)) (Mm (xs.foldl f s))) → forW gd asg body P (xs.map enc) (E s) (Mm s)
  | [], s, _, hi, hn => ⟨hgd s hi, hn hi⟩
  | x :: xs, s, hb, hi, hn => ⟨hgd s hi, hb x (List.mem_cons_self ..) s _ hi fun hi' => forW_fold I E Mm enc f hgd (fun z hz => hb z (List.mem_cons_of_mem _ hz)) hi' hn⟩
end
section
variable {α : Type} {gd : Mem → Prop} {asg : D → Env → Mem → (Env → Mem → Prop) → Prop} {tst : Env → Mem → (Bool → Mem → Prop) → Prop} {elt : Env → Mem → (D → Mem → Prop) → Prop} {env : Env} {Q : List D → Mem → Prop} {M : Mem}
/-- [f x for x in xs] -/
theorem compW_to {xs : List α} (enc : α → D) (f : α → D) (hgd : gd M) (hl : xs.length ≤ sizeLine)
    (h : ∀ x, x ∈ xs → ∀ (k : D → Mem → Prop) (k0 : Mem → Prop), k (f x) M → asg (enc x) env M fun env1 M1 => tst env1 M1 fun b M2 => if b = true then elt env1 M2 k else k0 M2) (hQ : Q (xs.map f) M) : compW gd asg tst elt env Q (xs.map enc) [] M := by
  have gen : ∀ {ys : List α} {acc : List D}, (∀ y, y ∈ ys → y ∈ xs) → acc.length + ys.length ≤ sizeLine → Q (acc ++ ys.map f) M → compW gd asg tst elt env Q (ys.map enc) acc M := by
    intro ys
    induction ys with
    | nil => intro acc _ hl hq; exact ⟨hgd, by simpa using hl, by simpa using hq⟩
    | cons y ys ih =>
      intro acc hm hl hq
      rw [List.length_cons] at hl
      refine ⟨hgd, by omega, h y (hm y (List.mem_cons_self ..)) _ _ ?_⟩
      exact ih (fun z hz => hm z (List.mem_cons_of_mem _ hz)) (by rw [List.length_append]; simp; omega) (by simpa using hq)
  exact gen (fun _ h => h) (by simpa using hl) hQ
/-- [f x for x in xs if p x] -/
theorem compW_if {xs : List α} (enc : α → D) (p : α → Bool) (f : α → D) (hgd : gd M) (hl : xs.length ≤ sizeLine)
    (h : ∀ x, x ∈ xs → ∀ (k : D → Mem → Prop) (k0 : Mem → Prop), (p x = true → k (f x) M) → (p x = false → k0 M) → asg (enc x) env M fun env1 M1 => tst env1 M1 fun b M2 => if b = true then elt env1 M2 k else k0 M2) (hQ : Q ((xs.filter p).map f) M) : compW gd asg tst elt env Q (xs.map enc) [] M := by
  have gen : ∀ {ys : List α} {acc : List D}, (∀ y, y ∈ ys → y ∈ xs) → acc.length + ys.length ≤ sizeLine → Q (acc ++ (ys.filter p).map f) M → compW gd asg tst elt env Q (ys.map enc) acc M := by
    intro ys
    induction ys with
    | nil => intro acc _ hl hq; exact ⟨hgd, by simpa using hl, by simpa using hq⟩
    | cons y ys ih =>
      intro acc hm hl hq
      rw [List.length_cons] at hl
      refine ⟨hgd, by omega, h y (hm y (List.mem_cons_self ..)) _ _ (fun e => ?_) fun e => ?_⟩
      · exact ih (fun z hz => hm z (List.mem_cons_of_mem _ hz)) (by rw [List.length_append]; simp; omega) (by rw [List.filter_cons, if_pos e] at hq; simpa using hq)
      · exact ih (fun z hz => hm z (List.mem_cons_of_mem _ hz)) (by omega) (by rw [List.filter_cons, if_neg (by rw [e]; decide)] at hq; exact hq)
  exact gen (fun _ h => h) (by simpa using hl) hQ
end
end Pd

namespace Pd
open PySem L2

inductive Ty where
  | bot
  | none
  | bl (b : Option Bool)
  | int (lo hi : Int)
  | str (n : Nat)
  | ex (t : Bool) (ts : List Ty)
  | seq (t : Bool) (e : Ty) (lo hi : Nat)
  | any (d n : Nat)
def mkS (t : Bool) (ps : List PyData) : PyData := if t = true then .tuple ps else .list ps
mutual
inductive In : Ty → PyData → Prop
  | none : In .none .none
  | bl {o : Option Bool} {b : Bool} (h : ∀ c, o = some c → b = c) : In (.bl o) (.bool b)
  | int {lo hi i : Int} (h1 : lo ≤ i) (h2 : i ≤ hi) : In (.int lo hi) (.int i)
  | str {x : Str} {n : Nat} (h1 : (x.cps.toList.all fun c => decide (c < 16 ^ 8)) = true) (h2 : x.cps.size ≤ n) : In (.str n) (.str x)
  | ex {t : Bool} {ts : List Ty} {ps : List PyData} {p : PyData} (e : p = mkS t ps) (h : InL ts ps) : In (.ex t ts) p
  | seq {t : Bool} {e : Ty} {lo hi : Nat} {ps : List PyData} {p : PyData} (q : p = mkS t ps) (h : ∀ z, z ∈ ps → In e z) (h1 : lo ≤ ps.length) (h2 : ps.length ≤ hi) : In (.seq t e lo hi) p
  | any {d n : Nat} {p : PyData} (h : Sm d n p) : In (.any d n) p
inductive InL : List Ty → List PyData → Prop
  | nil : InL [] []
  | cons {t : Ty} {ts : List Ty} {p : PyData} {ps : List PyData} (h : In t p) (r : InL ts ps) : InL (t :: ts) (p :: ps)
end
theorem InL.len : ∀ {ts : List Ty} {ps : List PyData}, InL ts ps → ts.length = ps.length
  | _, _, .nil => rfl
  | _, _, .cons _ r => congrArg (· + 1) (InL.len r)
theorem InL.app : ∀ {ts us : List Ty} {ps qs : List PyData}, InL ts ps → InL us qs → InL (ts ++ us) (ps ++ qs)
  | _, _, _, _, .nil, h => h
  | _, _, _, _, .cons a r, h => .cons a (InL.app r h)
theorem InL.rev : ∀ {ts : List Ty} {ps : List PyData}, InL ts ps → InL ts.reverse ps.reverse
  | _, _, .nil => .nil
  | _, _, .cons a r => by
    rw [List.reverse_cons, List.reverse_cons]
    exact (InL.rev r).app (.cons a .nil)
theorem InL.get : ∀ {ts : List Ty} {ps : List PyData} {i : Nat} {p : PyData}, InL ts ps → ps[i]? = some p → ∃ t, ts[i]? = some t ∧ In t p
  | _, _, _, _, .nil, h => by simp at h
  | _, _, 0, _, .cons a r, h => by simp at h; subst h; exact ⟨_, rfl, a⟩
  | _, _, i + 1, _, .cons a r, h => by
    simp at h
    obtain ⟨t, h1, h2⟩ := InL.get r h
    exact ⟨t, by simpa using h1, h2⟩
theorem InL.put : ∀ {ts : List Ty} {ps : List PyData} {i : Nat} {t : Ty} {p : PyData}, InL ts ps → In t p → InL (ts.set i t) (ps.set i p)
  | _, _, _, _, _, .nil, _ => .nil
  | _, _, 0, _, _, .cons a r, h => .cons h r
  | _, _, i + 1, _, _, .cons a r, h => .cons a (InL.put r h)
mutual
def Ty.sz : Ty → Option (Nat × Nat)
  | .bot => some (0, 0)
  | .none => some (0, 0)
  | .bl _ => some (0, 0)
  | .int lo hi => if -(10 ^ 90) < lo ∧ hi < 10 ^ 90 then some (0, (max lo.natAbs hi.natAbs).log2 + 1) else none
  | .str n => some (0, n)
  | .ex _ ts => match szL ts with
    | some (d, n) => some (d + 1, n)
    | _ => none
  | .seq _ e _ hi => match e.sz with
    | some (d, n) => some (d + 1, (n + 1) * hi)
    | _ => none
  | .any d n => some (d, n)
def szL : List Ty → Option (Nat × Nat)
  | [] => some (0, 0)
  | t :: ts => match t.sz, szL ts with
    | some (d, n), some (e, m) => some (max d e, n + 1 + m)
    | _, _ => none
end
structure SmL (d n : Nat) (ps : List PyData) : Prop where
  sh : PyData.showableAll ps = true
  dp : PyData.depthAll ps ≤ d
  lv : PyData.leavesShortAll 100 ps = true
  wt : PyData.weightAll ps ≤ n
theorem SmL.mk' {d n : Nat} {t : Bool} {ps : List PyData} (h : SmL d n ps) : Sm (d + 1) n (mkS t ps) := by
  cases t
  · exact ⟨h.sh, Nat.succ_le_succ h.dp, h.lv, h.wt⟩
  · exact ⟨h.sh, Nat.succ_le_succ h.dp, h.lv, h.wt⟩
theorem smL_of {d n hi : Nat} {ps : List PyData} (h : ∀ q, q ∈ ps → Sm d n q) (h2 : ps.length ≤ hi) : SmL d ((n + 1) * hi) ps := by
  obtain ⟨h1, h3, h4, h5⟩ := sm_all h
  exact ⟨h1, h3, h4, Nat.le_trans h5 (Nat.mul_le_mul_left _ h2)⟩
mutual
theorem In.sz : ∀ {t : Ty} {p : PyData} {d n : Nat}, In t p → t.sz = some (d, n) → Sm d n p
  | _, _, _, _, .none, e => by
    unfold Ty.sz at e; cases e; exact sm_none
  | _, _, _, _, .bl _, e => by
    unfold Ty.sz at e; cases e; exact sm_bool _
  | _, _, _, _, .int (i := i) h1 h2, e => by
    unfold Ty.sz at e
    split at e
    · rename_i h
      cases e
      have h3 := sm_int (i := i) (by have := h.1; have := h.2; omega)
      refine ⟨h3.sh, h3.dp, h3.lv, ?_⟩
      show (if i == 0 then 0 else i.natAbs.log2 + 1) ≤ _
      split
      · omega
      · rename_i h0
        have h0' : i ≠ 0 := by simpa using h0
        have a : i.natAbs ≠ 0 := by omega
        refine Nat.succ_le_succ ((Nat.le_log2 (by omega)).mpr (Nat.le_trans (Nat.log2_self_le a) (by omega)))
    · cases e
  | _, _, _, _, .str h1 h2, e => by
    unfold Ty.sz at e; cases e; exact sm_str h1 h2
  | _, _, _, _, .ex (t := t) q h, e => by
    unfold Ty.sz at e
    split at e
    · rename_i d n hs
      cases e
      rw [q]
      exact (InL.sz h hs).mk'
    · cases e
  | _, _, _, _, .seq (t := t) q h h1 h2, e => by
    unfold Ty.sz at e
    split at e
    · rename_i d n hs
      cases e
      rw [q]
      exact (smL_of (fun z hz => In.sz (h z hz) hs) h2).mk'
    · cases e
  | _, _, _, _, .any h, e => by
    unfold Ty.sz at e; cases e; exact h
theorem InL.sz : ∀ {ts : List Ty} {ps : List PyData} {d n : Nat}, InL ts ps → szL ts = some (d, n) → SmL d n ps
  | _, _, _, _, .nil, e => by
    unfold szL at e; cases e; exact ⟨rfl, Nat.le_refl _, rfl, Nat.le_refl _⟩
  | _, _, _, _, .cons h r, e => by
    unfold szL at e
    split at e
    · rename_i d n d' n' h1 h2
      cases e
      have a := In.sz h h1
      have b := InL.sz r h2
      refine ⟨?_, ?_, ?_, ?_⟩
      · show (PyData.showable _ && PyData.showableAll _) = true
        rw [a.sh, b.sh]; rfl
      · show max (PyData.depth _) (PyData.depthAll _) ≤ _
        have := a.dp; have := b.dp; omega
      · show (PyData.leavesShort 100 _ && PyData.leavesShortAll 100 _) = true
        rw [a.lv, b.lv]; rfl
      · show PyData.weight _ + 1 + PyData.weightAll _ ≤ _
        have := a.wt; have := b.wt; omega
    · cases e
end
def anyOf (a b : Ty) : Option Ty := match a.sz, b.sz with
  | some (d, n), some (e, m) => some (.any (max d e) (max n m))
  | _, _ => none
theorem anyOf_l {a b c : Ty} {p : PyData} (h : anyOf a b = some c) (ha : In a p) : In c p := by
  unfold anyOf at h
  split at h
  · rename_i h1 h2
    cases h
    exact .any ((ha.sz h1).mono (Nat.le_max_left ..) (Nat.le_max_left ..))
  · cases h
theorem anyOf_r {a b c : Ty} {p : PyData} (h : anyOf a b = some c) (hb : In b p) : In c p := by
  unfold anyOf at h
  split at h
  · rename_i h1 h2
    cases h
    exact .any ((hb.sz h2).mono (Nat.le_max_right ..) (Nat.le_max_right ..))
  · cases h
def jnL (f : Ty → Ty → Option Ty) : List Ty → List Ty → Option (List Ty)
  | [], [] => some []
  | a :: as, b :: bs => match f a b, jnL f as bs with
    | some c, some cs => some (c :: cs)
    | _, _ => none
  | _, _ => none
def jnA (f : Ty → Ty → Option Ty) : List Ty → Option Ty
  | [] => some .bot
  | t :: ts => match jnA f ts with
    | some e => f t e
    | _ => none
def jn : Nat → Ty → Ty → Option Ty
  | 0, a, b => anyOf a b
  | n + 1, a, b => match a, b with
    | .bot, t => some t
    | t, .bot => some t
    | .none, .none => some .none
    | .bl x, .bl y => some (.bl (if x = y then x else none))
    | .int a b, .int c d => some (.int (min a c) (max b d))
    | .str a, .str b => some (.str (max a b))
    | .ex t ts, .ex u us => if t = u then match jnL (jn n) ts us with
        | some vs => some (.ex t vs)
        | none => match jnA (jn n) (ts ++ us) with
          | some e => some (.seq t e (min ts.length us.length) (max ts.length us.length))
          | none => none
      else anyOf (.ex t ts) (.ex u us)
    | .ex t ts, .seq u e lo hi => if t = u then match jnA (jn n) (ts ++ [e]) with
        | some e => some (.seq t e (min ts.length lo) (max ts.length hi))
        | none => none
      else anyOf (.ex t ts) (.seq u e lo hi)
    | .seq u e lo hi, .ex t ts => if u = t then match jnA (jn n) (ts ++ [e]) with
        | some e => some (.seq u e (min ts.length lo) (max ts.length hi))
        | none => none
      else anyOf (.seq u e lo hi) (.ex t ts)
    | .seq t e lo hi, .seq u f lo2 hi2 => if t = u then match jn n e f with
        | some g => some (.seq t g (min lo lo2) (max hi hi2))
        | none => none
      else anyOf (.seq t e lo hi) (.seq u f lo2 hi2)
    | a, b => anyOf a b
/-- a join is right -/
def Jn (f : Ty → Ty → Option Ty) : Prop := ∀ a b c, f a b = some c → ∀ p, (In a p → In c p) ∧ (In b p → In c p)
theorem jnL_len {f : Ty → Ty → Option Ty} : ∀ {as bs cs : List Ty}, jnL f as bs = some cs → as.length = bs.length ∧ cs.length = as.length
  | [], [], _, h => by unfold jnL at h; cases h; exact ⟨rfl, rfl⟩
  | a :: as, b :: bs, cs, h => by
    unfold jnL at h
    split at h
    · rename_i h1 h2
      cases h
      have := jnL_len h2
      simp [this.1, this.2]
    · cases h
  | [], _ :: _, _, h => by unfold jnL at h; cases h
  | _ :: _, [], _, h => by unfold jnL at h; cases h
theorem jnL_ok {f : Ty → Ty → Option Ty} (hf : Jn f) : ∀ {as bs cs : List Ty} {ps : List PyData}, jnL f as bs = some cs → (InL as ps → InL cs ps) ∧ (InL bs ps → InL cs ps)
  | [], [], _, ps, h => by unfold jnL at h; cases h; exact ⟨id, id⟩
  | a :: as, b :: bs, cs, ps, h => by
    unfold jnL at h
    split at h
    · rename_i h1 h2
      cases h
      constructor
      · intro q; cases q with
        | cons x r => exact .cons ((hf _ _ _ h1 _).1 x) ((jnL_ok hf h2).1 r)
      · intro q; cases q with
        | cons x r => exact .cons ((hf _ _ _ h1 _).2 x) ((jnL_ok hf h2).2 r)
    · cases h
  | [], _ :: _, _, _, h => by unfold jnL at h; cases h
  | _ :: _, [], _, _, h => by unfold jnL at h; cases h
theorem jnA_ok {f : Ty → Ty → Option Ty} (hf : Jn f) : ∀ {ts : List Ty} {e t : Ty} {p : PyData}, jnA f ts = some e → t ∈ ts → In t p → In e p
  | t :: ts, e, u, p, h, hm, hp => by
    unfold jnA at h
    split at h
    · rename_i e' h1
      rcases List.mem_cons.mp hm with rfl | hm
      · exact (hf _ _ _ h _).1 hp
      · exact (hf _ _ _ h _).2 (jnA_ok hf h1 hm hp)
    · cases h
theorem InL.all : ∀ {ts : List Ty} {ps : List PyData} {p : PyData}, InL ts ps → p ∈ ps → ∃ t, t ∈ ts ∧ In t p
  | _, _, _, .nil, h => by cases h
  | _, _, _, .cons a r, h => by
    rcases List.mem_cons.mp h with rfl | h
    · exact ⟨_, List.mem_cons_self .., a⟩
    · obtain ⟨t, h1, h2⟩ := InL.all r h
      exact ⟨t, List.mem_cons_of_mem _ h1, h2⟩
theorem jn_ok : ∀ n, Jn (jn n)
  | 0 => fun a b c h p => ⟨anyOf_l h, anyOf_r h⟩
  | n + 1 => fun a b c h p => by
    have ih := jn_ok n
    unfold jn at h
    split at h
    · cases h; exact ⟨fun q => (nomatch q), id⟩
    · cases h; exact ⟨id, fun q => (nomatch q)⟩
    · cases h; exact ⟨id, id⟩
    · rename_i x y
      cases h
      constructor
      · intro q; cases q with
        | bl q =>
          refine .bl fun c hc => ?_
          split at hc
          · exact q c hc
          · cases hc
      · intro q; cases q with
        | bl q =>
          refine .bl fun c hc => ?_
          split at hc
          · rename_i e; exact q c (by rw [← e]; exact hc)
          · cases hc
    · cases h
      constructor
      · intro q; cases q with
        | int h1 h2 => exact .int (by omega) (by omega)
      · intro q; cases q with
        | int h1 h2 => exact .int (by omega) (by omega)
    · cases h
      constructor
      · intro q; cases q with
        | str h1 h2 => exact .str h1 (by omega)
      · intro q; cases q with
        | str h1 h2 => exact .str h1 (by omega)
    · rename_i t ts u us
      split at h
      · rename_i e
        subst e
        split at h
        · rename_i vs hv
          cases h
          constructor
          · intro q; cases q with
            | ex e q => exact .ex e ((jnL_ok ih hv).1 q)
          · intro q; cases q with
            | ex e q => exact .ex e ((jnL_ok ih hv).2 q)
        · split at h
          · rename_i e he
            cases h
            constructor
            · intro q; cases q with
              | ex e q =>
                refine .seq e (fun z hz => ?_) (by have := q.len; omega) (by have := q.len; omega)
                obtain ⟨t, h1, h2⟩ := q.all hz
                exact jnA_ok ih he (List.mem_append_left _ h1) h2
            · intro q; cases q with
              | ex e q =>
                refine .seq e (fun z hz => ?_) (by have := q.len; omega) (by have := q.len; omega)
                obtain ⟨t, h1, h2⟩ := q.all hz
                exact jnA_ok ih he (List.mem_append_right _ h1) h2
          · cases h
      · exact ⟨anyOf_l h, anyOf_r h⟩
    · rename_i t ts u e lo hi
      split at h
      · rename_i q
        subst q
        split at h
        · rename_i g he
          cases h
          constructor
          · intro q; cases q with
            | ex e q =>
              refine .seq e (fun z hz => ?_) (by have := q.len; omega) (by have := q.len; omega)
              obtain ⟨t, h1, h2⟩ := q.all hz
              exact jnA_ok ih he (List.mem_append_left _ h1) h2
          · intro q; cases q with
            | seq q h0 h1 h2 => exact .seq q (fun z hz => jnA_ok ih he (List.mem_append_right _ (List.mem_singleton.mpr rfl)) (h0 z hz)) (by omega) (by omega)
        · cases h
      · exact ⟨anyOf_l h, anyOf_r h⟩
    · rename_i t e lo hi u ts
      split at h
      · rename_i q
        subst q
        split at h
        · rename_i g he
          cases h
          constructor
          · intro q; cases q with
            | seq q h0 h1 h2 => exact .seq q (fun z hz => jnA_ok ih he (List.mem_append_right _ (List.mem_singleton.mpr rfl)) (h0 z hz)) (by omega) (by omega)
          · intro q; cases q with
            | ex e q =>
              refine .seq e (fun z hz => ?_) (by have := q.len; omega) (by have := q.len; omega)
              obtain ⟨t, h1, h2⟩ := q.all hz
              exact jnA_ok ih he (List.mem_append_left _ h1) h2
        · cases h
      · exact ⟨anyOf_l h, anyOf_r h⟩
    · rename_i t e lo hi u f lo2 hi2
      split at h
      · rename_i q
        subst q
        split at h
        · rename_i g he
          cases h
          constructor
          · intro q; cases q with
            | seq q h0 h1 h2 => exact .seq q (fun z hz => (ih _ _ _ he _).1 (h0 z hz)) (by omega) (by omega)
          · intro q; cases q with
            | seq q h0 h1 h2 => exact .seq q (fun z hz => (ih _ _ _ he _).2 (h0 z hz)) (by omega) (by omega)
        · cases h
      · exact ⟨anyOf_l h, anyOf_r h⟩
    · exact ⟨anyOf_l h, anyOf_r h⟩
end Pd

namespace Pd
open PySem L2

inductive CT where
  | ex (ts : List Ty)
  | sq (e : Ty) (lo hi : Nat)
def InC : CT → List PyData → Prop
  | .ex ts, ps => InL ts ps
  | .sq e lo hi, ps => (∀ z, z ∈ ps → In e z) ∧ lo ≤ ps.length ∧ ps.length ≤ hi
def CT.ty (t : Bool) : CT → Ty
  | .ex ts => .ex t ts
  | .sq e lo hi => .seq t e lo hi
theorem InC.ty {c : CT} {ps : List PyData} (t : Bool) (h : InC c ps) : In (c.ty t) (mkS t ps) := by
  cases c with
  | ex ts => exact .ex rfl h
  | sq e lo hi => exact .seq rfl h.1 h.2.1 h.2.2
def Ty.ct : Ty → Option (Bool × CT)
  | .ex t ts => some (t, .ex ts)
  | .seq t e lo hi => some (t, .sq e lo hi)
  | _ => Option.none
theorem In.ct {t : Ty} {b : Bool} {c : CT} {p : PyData} (h : In t p) (e : t.ct = some (b, c)) : ∃ ps, p = mkS b ps ∧ InC c ps := by
  cases t <;> simp only [Ty.ct] at e <;> try (cases e; done)
  · cases e; cases h with
    | ex q h => exact ⟨_, q, h⟩
  · cases e; cases h with
    | seq q h h1 h2 => exact ⟨_, q, h, h1, h2⟩
def JN : Ty → Ty → Option Ty := jn 12
theorem JN_ok : Jn JN := jn_ok 12
def CT.lo : CT → Nat
  | .ex ts => ts.length
  | .sq _ lo _ => lo
def CT.hi : CT → Nat
  | .ex ts => ts.length
  | .sq _ _ hi => hi
theorem InC.len {c : CT} {ps : List PyData} (h : InC c ps) : c.lo ≤ ps.length ∧ ps.length ≤ c.hi := by
  cases c with
  | ex ts => have := InL.len h; show ts.length ≤ _ ∧ _ ≤ ts.length; omega
  | sq e lo hi => exact h.2
def CT.el : CT → Option Ty
  | .ex ts => jnA JN ts
  | .sq e _ _ => some e
theorem InC.el {c : CT} {ps : List PyData} {e : Ty} (h : InC c ps) (q : c.el = some e) : ∀ z, z ∈ ps → In e z := fun z hz => by
  cases c with
  | ex ts =>
    obtain ⟨t, h1, h2⟩ := InL.all h hz
    exact jnA_ok JN_ok q h1 h2
  | sq f lo hi => cases q; exact h.1 z hz
/-- as types of all items -/
def CT.loose (c : CT) : Option CT := c.el.map fun e => .sq e c.lo c.hi
def CT.cat (a b : CT) : Option CT := match a, b with
  | .ex ts, .ex us => some (.ex (ts ++ us))
  | a, b => match a.el, b.el with
    | some e, some f => (JN e f).map fun g => .sq g (a.lo + b.lo) (a.hi + b.hi)
    | _, _ => none
theorem InC.cat {a b c : CT} {ps qs : List PyData} (ha : InC a ps) (hb : InC b qs) (h : a.cat b = some c) : InC c (ps ++ qs) := by
  have gen : ∀ c, (match a.el, b.el with
    | some e, some f => (JN e f).map fun g => CT.sq g (a.lo + b.lo) (a.hi + b.hi)
    | _, _ => none) = some c → InC c (ps ++ qs) := fun c h => by
    split at h
    · rename_i e f h1 h2
      obtain ⟨g, hg, rfl⟩ := Option.map_eq_some_iff.mp h
      have l1 := ha.len
      have l2 := hb.len
      refine ⟨fun z hz => ?_, by rw [List.length_append]; omega, by rw [List.length_append]; omega⟩
      rcases List.mem_append.mp hz with hz | hz
      · exact (JN_ok _ _ _ hg _).1 (ha.el h1 z hz)
      · exact (JN_ok _ _ _ hg _).2 (hb.el h2 z hz)
    · cases h
  cases a with
  | ex ts => cases b with
    | ex us => cases h; exact InL.app ha hb
    | sq e lo hi => exact gen _ h
  | sq e lo hi => cases b <;> exact gen _ h
def CT.at (c : CT) (a b : Int) : Option Ty := match c with
  | .ex ts => if a = b then (ixN ts.length a).bind fun j => ts[j]? else if -(ts.length : Int) ≤ a ∧ b < ts.length then jnA JN ts else none
  | .sq e lo hi => if -(lo : Int) ≤ a ∧ b < lo then some e else none
theorem ixN_ok {n : Nat} {k : Int} (h1 : -(n : Int) ≤ k) (h2 : k < n) : ∃ j, ixN n k = some j ∧ j < n := by
  unfold ixN
  by_cases q : 0 ≤ k
  · rw [if_pos q, if_pos h2]; exact ⟨_, rfl, by omega⟩
  · rw [if_neg q, if_pos h1]; exact ⟨_, rfl, by omega⟩
theorem atI_ok {ps : List PyData} {k : Int} (h1 : -(ps.length : Int) ≤ k) (h2 : k < ps.length) : ∃ p, p ∈ ps ∧ atI (ps.map D.v) k = some (.v p) := by
  obtain ⟨j, e, hj⟩ := ixN_ok h1 h2
  refine ⟨ps[j], List.getElem_mem hj, ?_⟩
  unfold atI
  rw [List.length_map, e]
  show (ps.map D.v)[j]? = _
  rw [List.getElem?_map, List.getElem?_eq_getElem hj]; rfl
theorem InC.at {c : CT} {ps : List PyData} {a b k : Int} {t : Ty} (h : InC c ps) (q : c.at a b = some t) (h1 : a ≤ k) (h2 : k ≤ b) : ∃ p, atI (ps.map D.v) k = some (.v p) ∧ In t p := by
  have l := h.len
  cases c with
  | ex ts =>
    have l : ts.length = ps.length := InL.len h
    unfold CT.at at q
    dsimp only at q
    split at q
    · rename_i e
      obtain ⟨j, e1, e2⟩ := Option.bind_eq_some_iff.mp q
      have ek : k = a := by omega
      rw [l] at e1
      have hj : j < ts.length := (List.getElem?_eq_some_iff.mp e2).1
      have hp : ps[j]? = some (ps[j]'(by omega)) := List.getElem?_eq_getElem (by omega)
      obtain ⟨u, hu, hi⟩ := InL.get h hp
      rw [e2] at hu
      cases hu
      refine ⟨_, ?_, hi⟩
      unfold atI
      rw [List.length_map, ek, e1]
      show (ps.map D.v)[j]? = _
      rw [List.getElem?_map, hp]; rfl
    · split at q
      · rename_i hb
        obtain ⟨p, hp, e⟩ := atI_ok (ps := ps) (k := k) (by omega) (by omega)
        obtain ⟨u, hu, hi⟩ := InL.all h hp
        exact ⟨p, e, jnA_ok JN_ok q hu hi⟩
      · cases q
  | sq e lo hi =>
    unfold CT.at at q
    dsimp only at q
    split at q
    · cases q
      have l1 : lo ≤ ps.length := h.2.1
      obtain ⟨p, hp, e⟩ := atI_ok (ps := ps) (k := k) (by omega) (by omega)
      exact ⟨p, e, h.1 p hp⟩
    · cases q
def CT.put (c : CT) (a b : Int) (t : Ty) : Option CT :=
  if -(c.lo : Int) ≤ a ∧ b < c.lo then match c with
    | .ex ts => if a = b then (ixN ts.length a).map fun j => .ex (ts.set j t) else (jnA JN (ts ++ [t])).map fun e => .sq e ts.length ts.length
    | .sq e lo hi => (JN e t).map fun g => .sq g lo hi
  else none
theorem mem_set {α : Type} {xs : List α} {i : Nat} {x z : α} (h : z ∈ xs.set i x) : z ∈ xs ∨ z = x := List.mem_or_eq_of_mem_set h
theorem InC.put {c d : CT} {ps : List PyData} {a b k : Int} {t : Ty} {p : PyData} (h : InC c ps) (ht : In t p) (q : c.put a b t = some d) (h1 : a ≤ k) (h2 : k ≤ b) : ∃ j, ixN ps.length k = some j ∧ InC d (ps.set j p) := by
  have l := h.len
  unfold CT.put at q
  split at q
  · rename_i hb
    obtain ⟨j, e, hj⟩ := ixN_ok (n := ps.length) (k := k) (by omega) (by omega)
    refine ⟨j, e, ?_⟩
    cases c with
    | ex ts =>
      have l : ts.length = ps.length := InL.len h
      dsimp only at q
      split at q
      · obtain ⟨j', e1, rfl⟩ := Option.map_eq_some_iff.mp q
        have ek : k = a := by omega
        rw [l, ← ek, e] at e1
        cases e1
        exact InL.put h ht
      · obtain ⟨e', e1, rfl⟩ := Option.map_eq_some_iff.mp q
        refine ⟨fun z hz => ?_, by rw [List.length_set]; omega, by rw [List.length_set]; omega⟩
        rcases mem_set hz with hz | rfl
        · obtain ⟨u, hu, hi⟩ := InL.all h hz
          exact jnA_ok JN_ok e1 (List.mem_append_left _ hu) hi
        · exact jnA_ok JN_ok e1 (List.mem_append_right _ (List.mem_singleton.mpr rfl)) ht
    | sq f lo hi =>
      obtain ⟨g, e1, rfl⟩ := Option.map_eq_some_iff.mp q
      refine ⟨fun z hz => ?_, by rw [List.length_set]; exact h.2.1, by rw [List.length_set]; exact h.2.2⟩
      rcases mem_set hz with hz | rfl
      · exact (JN_ok _ _ _ e1 _).1 (h.1 z hz)
      · exact (JN_ok _ _ _ e1 _).2 ht
  · cases q
/-- a slice: bounds by their least and greatest -/
def CT.cut (c : CT) (lo hi : Option (Int × Int)) : Option CT := match c.el with
  | none => none
  | some e => match c, lo, hi with
    | .ex ts, none, some (k, l) => if k = l then some (.ex (ts.take (HT.sIx ts.length ts.length (some k)))) else if 0 ≤ k then some (.sq e (min c.lo k.toNat) (min c.hi l.toNat)) else some (.sq e 0 c.hi)
    | .ex ts, some (k, l), none => if k = l then some (.ex (ts.drop (HT.sIx ts.length 0 (some k)))) else if 0 ≤ k then some (.sq e (c.lo - l.toNat) (c.hi - k.toNat)) else some (.sq e 0 c.hi)
    | c, none, some (k, l) => if 0 ≤ k then some (.sq e (min c.lo k.toNat) (min c.hi l.toNat)) else some (.sq e 0 c.hi)
    | c, some (k, l), none => if 0 ≤ k then some (.sq e (c.lo - l.toNat) (c.hi - k.toNat)) else some (.sq e 0 c.hi)
    | c, _, _ => some (.sq e 0 c.hi)
def InO : Option (Int × Int) → Option Int → Prop
  | none, none => True
  | some (a, b), some k => a ≤ k ∧ k ≤ b
  | _, _ => False
theorem InL.take : ∀ {ts : List Ty} {ps : List PyData} (n : Nat), InL ts ps → InL (ts.take n) (ps.take n)
  | _, _, 0, _ => .nil
  | _, _, _ + 1, .nil => .nil
  | _, _, n + 1, .cons a r => .cons a (InL.take n r)
theorem InL.drop : ∀ {ts : List Ty} {ps : List PyData} (n : Nat), InL ts ps → InL (ts.drop n) (ps.drop n)
  | _, _, 0, h => h
  | _, _, _ + 1, .nil => .nil
  | _, _, n + 1, .cons a r => InL.drop n r
theorem cutP_mem {ps : List PyData} {lo hi : Option Int} {z : PyData} (h : z ∈ cutP ps lo hi) : z ∈ ps := List.mem_of_mem_drop (List.mem_of_mem_take h)
theorem cutP_le (ps : List PyData) (lo hi : Option Int) : (cutP ps lo hi).length ≤ ps.length := by
  unfold cutP; rw [List.length_take, List.length_drop]; omega
theorem cutP_hi {ps : List PyData} {k : Int} : cutP ps none (some k) = ps.take (HT.sIx ps.length ps.length (some k)) := by
  unfold cutP
  show (ps.drop 0).take _ = _
  rw [List.drop_zero]; rfl
theorem cutP_lo {ps : List PyData} {k : Int} : cutP ps (some k) none = ps.drop (HT.sIx ps.length 0 (some k)) := by
  unfold cutP
  rw [List.take_of_length_le]
  rw [List.length_drop]
  exact Nat.le_refl _
theorem sIx_pos {n d : Nat} {k : Int} (h : 0 ≤ k) : HT.sIx n d (some k) = min k.toNat n := by
  show (if k < 0 then (k + (n : Int)).toNat else min k.toNat n) = _
  rw [if_neg (by omega)]
theorem InC.cut {c d : CT} {ps : List PyData} {lo hi : Option (Int × Int)} {l h : Option Int} (hc : InC c ps) (q : c.cut lo hi = some d) (h1 : InO lo l) (h2 : InO hi h) : InC d (cutP ps l h) := by
  have ln := hc.len
  unfold CT.cut at q
  split at q
  · cases q
  · rename_i e he
    have gen : InC (.sq e 0 c.hi) (cutP ps l h) := ⟨fun z hz => hc.el he z (cutP_mem hz), Nat.zero_le _, Nat.le_trans (cutP_le ..) ln.2⟩
    have ghi : ∀ {k1 k2 : Int}, lo = none → hi = some (k1, k2) → 0 ≤ k1 → InC (.sq e (min c.lo k1.toNat) (min c.hi k2.toNat)) (cutP ps l h) := by
      intro k1 k2 e1 e2 h0
      subst e1 e2
      cases l with
      | some _ => cases h1
      | none => cases h with
        | none => cases h2
        | some k =>
          have a := h2.1
          have b := h2.2
          refine ⟨fun z hz => hc.el he z (cutP_mem hz), ?_, ?_⟩
          · rw [cutP_hi, sIx_pos (by omega), List.length_take]; omega
          · rw [cutP_hi, sIx_pos (by omega), List.length_take]; omega
    have glo : ∀ {k1 k2 : Int}, lo = some (k1, k2) → hi = none → 0 ≤ k1 → InC (.sq e (c.lo - k2.toNat) (c.hi - k1.toNat)) (cutP ps l h) := by
      intro k1 k2 e1 e2 h0
      subst e1 e2
      cases h with
      | some _ => cases h2
      | none => cases l with
        | none => cases h1
        | some k =>
          have a := h1.1
          have b := h1.2
          refine ⟨fun z hz => hc.el he z (cutP_mem hz), ?_, ?_⟩
          · rw [cutP_lo, sIx_pos (by omega), List.length_drop]; omega
          · rw [cutP_lo, sIx_pos (by omega), List.length_drop]; omega
    split at q
    · rename_i ts k1 k2
      split at q
      · rename_i ek
        cases q
        cases l with
        | some _ => cases h1
        | none => cases h with
          | none => cases h2
          | some k =>
            have a := h2.1
            have b := h2.2
            have : k = k1 := by omega
            rw [cutP_hi, this, ← InL.len hc]
            exact InL.take _ hc
      · split at q <;> cases q
        · exact ghi rfl rfl (by assumption)
        · exact gen
    · rename_i ts k1 k2
      split at q
      · rename_i ek
        cases q
        cases h with
        | some _ => cases h2
        | none => cases l with
          | none => cases h1
          | some k =>
            have a := h1.1
            have b := h1.2
            have : k = k1 := by omega
            rw [cutP_lo, this, ← InL.len hc]
            exact InL.drop _ hc
      · split at q <;> cases q
        · exact glo rfl rfl (by assumption)
        · exact gen
    · split at q <;> cases q
      · exact ghi rfl rfl (by assumption)
      · exact gen
    · split at q <;> cases q
      · exact glo rfl rfl (by assumption)
      · exact gen
    · cases q; exact gen
def CT.rev : CT → CT
  | .ex ts => .ex ts.reverse
  | .sq e lo hi => .sq e lo hi
theorem InC.rev {c : CT} {ps : List PyData} (h : InC c ps) : InC c.rev ps.reverse := by
  cases c with
  | ex ts => exact InL.rev h
  | sq e lo hi => exact ⟨fun z hz => h.1 z (List.mem_reverse.mp hz), by rw [List.length_reverse]; exact h.2.1, by rw [List.length_reverse]; exact h.2.2⟩
def CT.rep (c : CT) (a b : Nat) : Option CT := c.el.map fun e => .sq e (c.lo * a) (c.hi * b)
theorem rep_len {ps : List PyData} : ∀ k, ((List.replicate k ps).flatten).length = ps.length * k
  | 0 => rfl
  | k + 1 => by rw [List.replicate_succ, List.flatten_cons, List.length_append, rep_len k, Nat.mul_succ]; omega
theorem InC.rep {c d : CT} {ps : List PyData} {a b k : Nat} (h : InC c ps) (q : c.rep a b = some d) (h1 : a ≤ k) (h2 : k ≤ b) : InC d (List.replicate k ps).flatten := by
  have l := h.len
  obtain ⟨e, he, rfl⟩ := Option.map_eq_some_iff.mp q
  refine ⟨fun z hz => ?_, ?_, ?_⟩
  · obtain ⟨l, hl, hz⟩ := List.mem_flatten.mp hz
    rw [List.eq_of_mem_replicate hl] at hz
    exact h.el he z hz
  · rw [rep_len]; exact Nat.mul_le_mul l.1 h1
  · rw [rep_len]; exact Nat.mul_le_mul l.2 h2
mutual
def Ty.lay : Ty → Option Nat
  | .none => some 1
  | .bl _ => some 1
  | .int _ _ => some 1
  | .ex _ ts => (layL ts).map (· + 1)
  | .seq _ e _ _ => e.lay.map (· + 1)
  | _ => Option.none
def layL : List Ty → Option Nat
  | [] => some 1
  | t :: ts => match t.lay, layL ts with
    | some a, some b => some (max a b)
    | _, _ => Option.none
end
def LayL (d : Nat) (ps : List PyData) : Prop := PyData.canLayAll0 ps = true ∧ PyData.depthAll ps ≤ d
theorem layL_of {d : Nat} : ∀ {ps : List PyData}, (∀ q, q ∈ ps → q.canLay0 = true ∧ q.depth ≤ d) → LayL d ps
  | [], _ => ⟨rfl, Nat.zero_le _⟩
  | p :: ps, h => by
    have a := h p (List.mem_cons_self ..)
    have b := layL_of (d := d) fun q hq => h q (List.mem_cons_of_mem _ hq)
    refine ⟨?_, ?_⟩
    · show (PyData.canLay0 p && PyData.canLayAll0 ps) = true
      rw [a.1, b.1]; rfl
    · show max p.depth (PyData.depthAll ps) ≤ d
      have := a.2; have := b.2; omega
theorem lay_mk {d : Nat} {t : Bool} {ps : List PyData} (h : LayL d ps) : (mkS t ps).canLay0 = true ∧ (mkS t ps).depth ≤ d + 1 := by
  cases t
  · exact ⟨h.1, Nat.succ_le_succ h.2⟩
  · exact ⟨h.1, Nat.succ_le_succ h.2⟩
mutual
theorem In.lay : ∀ {t : Ty} {p : PyData} {d : Nat}, In t p → t.lay = some d → p.canLay0 = true ∧ p.depth ≤ d
  | _, _, _, .none, e => ⟨rfl, Nat.zero_le _⟩
  | _, _, _, .bl _, e => ⟨rfl, Nat.zero_le _⟩
  | _, _, _, .int h1 h2, e => ⟨rfl, Nat.zero_le _⟩
  | _, _, _, .str h1 h2, e => by unfold Ty.lay at e; cases e
  | _, _, _, .ex q h, e => by
    unfold Ty.lay at e
    obtain ⟨d, hd, rfl⟩ := Option.map_eq_some_iff.mp e
    rw [q]; exact lay_mk (InL.lay h hd)
  | _, _, _, .seq q h h1 h2, e => by
    unfold Ty.lay at e
    obtain ⟨d, hd, rfl⟩ := Option.map_eq_some_iff.mp e
    rw [q]; exact lay_mk (layL_of fun z hz => In.lay (h z hz) hd)
  | _, _, _, .any h, e => by unfold Ty.lay at e; cases e
theorem InL.lay : ∀ {ts : List Ty} {ps : List PyData} {d : Nat}, InL ts ps → layL ts = some d → LayL d ps
  | _, _, _, .nil, e => ⟨rfl, Nat.zero_le _⟩
  | _, _, _, .cons h r, e => by
    unfold layL at e
    split at e
    · rename_i a b h1 h2
      cases e
      have x := In.lay h h1
      have y := InL.lay r h2
      refine ⟨?_, ?_⟩
      · show (PyData.canLay0 _ && PyData.canLayAll0 _) = true
        rw [x.1, y.1]; rfl
      · show max (PyData.depth _) (PyData.depthAll _) ≤ _
        have := x.2; have := y.2; omega
    · cases e
end
def Ty.layOk (t : Ty) : Bool := match t.lay with
  | some d => decide (d ≤ 60)
  | Option.none => false
theorem In.shaped {t : Ty} {p : PyData} (h : In t p) (q : t.layOk = true) : SeqAt.shaped p = true := by
  unfold Ty.layOk at q
  split at q
  · rename_i d hd
    have := In.lay h hd
    have q' := of_decide_eq_true q
    show (p.canLay0 && decide (p.depth ≤ 64)) = true
    rw [this.1, Bool.true_and, decide_eq_true_eq]; omega
  · cases q
end Pd

namespace Pd
open PySem L2

inductive AV where
  | v (t : Ty)
  | box (i : Nat)
  | bag
  | no
inductive AR where
  | v (a : AV)
  | fl (c : CT)
  | fd
def AR.as : AR → AV
  | .v a => a
  | .fl c => .v (c.ty false)
  | .fd => .v (.any 1 0)
def AV.plain : AV → Bool
  | .v _ => true
  | .bag => true
  | _ => false
/-- what a def is worth by types -/
abbrev Sig := List AV → Option Ty
abbrev Sigs := Str → Sig

def mag (a b : Int) : Int := max (a.natAbs : Int) (b.natAbs : Int)
def mulT (a b c d : Int) : Option Ty :=
  if (-(2 ^ 64) < a ∧ b < 2 ^ 64) ∨ (-(2 ^ 64) < c ∧ d < 2 ^ 64) then
    (if 0 ≤ a ∧ 0 ≤ c then some (.int (a * c) (b * d)) else some (.int (-(mag a b * mag c d)) (mag a b * mag c d)))
  else none
def divT (a b c d : Int) : Option Ty :=
  if 0 < c ∧ d < 2 ^ 64 then (if 0 ≤ a then some (.int (a / d) (b / c)) else some (.int (min a 0) (max b 0))) else none
def binI (o : Operator) (a b c d : Int) : Option Ty := match o with
  | .Add => some (.int (a + c) (b + d))
  | .Sub => some (.int (a - d) (b - c))
  | .Mult => mulT a b c d
  | .FloorDiv => divT a b c d
  | .Mod => if 0 < c then some (.int 0 (d - 1)) else none
  | .Pow => if a = b ∧ c = d ∧ 0 ≤ c ∧ c ≤ 400 ∧ a.natAbs < 2 ^ 64 then some (.int (a ^ c.toNat) (a ^ c.toNat)) else none
  | _ => none
theorem mag_le {a b i : Int} (h1 : a ≤ i) (h2 : i ≤ b) : (i.natAbs : Int) ≤ mag a b := by unfold mag; omega
theorem binI_ok {o : Operator} {a b c d i j : Int} {t : Ty} {M : Mem} {P : Rs → Prop} (q : binI o a b c d = some t) (h1 : a ≤ i) (h2 : i ≤ b) (h3 : c ≤ j) (h4 : j ≤ d) (hP : ∀ k : Int, In t (.int k) → P (.val (.v (.int k)))) :
    binW o (.v (.int i)) (.v (.int j)) M P := by
  unfold binI at q
  split at q
  · cases q; rw [bw_add]; exact hP _ (.int (by omega) (by omega))
  · cases q; rw [bw_sub]; exact hP _ (.int (by omega) (by omega))
  · unfold mulT at q
    split at q
    · rename_i hb
      rw [bw_mul]
      refine ⟨by omega, hP _ ?_⟩
      split at q <;> cases q
      · rename_i hp
        exact .int (Int.mul_le_mul h1 h3 (by omega) (by omega)) (Int.mul_le_mul h2 h4 (by omega) (by omega))
      · have e1 := mag_le h1 h2
        have e2 := mag_le h3 h4
        have e3 : ((i * j).natAbs : Int) ≤ mag a b * mag c d := by
          rw [Int.natAbs_mul, Int.natCast_mul]
          exact Int.mul_le_mul e1 e2 (by omega) (by omega)
        exact .int (by omega) (by omega)
    · cases q
  · unfold divT at q
    split at q
    · rename_i hb
      rw [bw_fdiv]
      refine ⟨⟨by omega, by omega⟩, hP _ ?_⟩
      split at q <;> cases q
      · rename_i ha
        have j0 : 0 < j := by omega
        refine .int ?_ ?_
        · refine Int.le_trans ?_ (Int.ediv_le_ediv j0 h1)
          refine (Int.le_ediv_iff_mul_le j0).mpr ?_
          have e0 : 0 ≤ a / d := Int.ediv_nonneg ha (by omega)
          exact Int.le_trans (Int.mul_le_mul_of_nonneg_left h4 e0) (Int.ediv_mul_le a (by omega))
        · refine Int.le_trans (Int.ediv_le_ediv j0 h2) ?_
          refine (Int.le_ediv_iff_mul_le hb.1).mpr ?_
          have e0 : 0 ≤ b / j := Int.ediv_nonneg (by omega) (by omega)
          exact Int.le_trans (Int.mul_le_mul_of_nonneg_left h3 e0) (Int.ediv_mul_le b (by omega))
      · have j0 : 0 < j := by omega
        refine .int ?_ ?_
        · by_cases hi : 0 ≤ i
          · have := Int.ediv_nonneg hi (by omega : 0 ≤ j); omega
          · have : i ≤ i / j := (Int.le_ediv_iff_mul_le j0).mpr (by
              have := Int.mul_nonneg (by omega : 0 ≤ -i) (by omega : 0 ≤ j - 1)
              rw [Int.neg_mul, Int.mul_sub, Int.mul_one] at this
              omega)
            omega
        · by_cases hi : 0 ≤ i
          · have := Int.ediv_le_self j hi; omega
          · have : i / j < 0 := Int.ediv_neg_of_neg_of_pos (by omega) j0
            omega
    · cases q
  · split at q
    · cases q
      rw [bw_mod]
      refine ⟨by omega, hP _ (.int (Int.emod_nonneg _ (by omega)) ?_)⟩
      have := Int.emod_lt_of_pos i (by omega : 0 < j)
      omega
    · cases q
  · split at q
    · rename_i hb
      cases q
      rw [bw_pow]
      have e1 : i = a := by omega
      have e2 : j = c := by omega
      subst e1 e2
      exact ⟨by omega, hP _ (.int (Int.le_refl _) (Int.le_refl _))⟩
    · cases q
  · cases q
def cmpI (o : CmpOp) (a b c d : Int) : Option (Option Bool) := match o with
  | .Lt => some (if b < c then some true else if d ≤ a then some false else none)
  | .LtE => some (if b ≤ c then some true else if d < a then some false else none)
  | .Gt => some (if d < a then some true else if b ≤ c then some false else none)
  | .GtE => some (if d ≤ a then some true else if b < c then some false else none)
  | .Eq => some (if a = b ∧ c = d ∧ a = c then some true else if b < c ∨ d < a then some false else none)
  | .NotEq => some (if a = b ∧ c = d ∧ a = c then some false else if b < c ∨ d < a then some true else none)
  | _ => none
theorem cmpI_ok {o : CmpOp} {a b c d i j : Int} {k : Option Bool} {M : Mem} {P : Bool → Prop} (q : cmpI o a b c d = some k) (h1 : a ≤ i) (h2 : i ≤ b) (h3 : c ≤ j) (h4 : j ≤ d) (hP : ∀ x, (∀ y, k = some y → x = y) → P x) :
    cmpW o (.v (.int i)) (.v (.int j)) M P := by
  have tt : ∀ {x : Bool} {y z : Bool} {p q : Prop} [Decidable p] [Decidable q], (if p then some y else if q then some z else none) = k → (p → x = y) → (¬ p → q → x = z) → ∀ w, k = some w → x = w := by
    intro x y z p q _ _ e hp hq w hw
    subst hw
    split at e
    · cases e; exact hp (by assumption)
    · split at e
      · cases e; exact hq (by assumption) (by assumption)
      · cases e
  unfold cmpI at q
  split at q
  · exact ⟨i, j, rfl, rfl, hP _ (tt (Option.some.inj q) (fun h => decide_eq_true (by omega)) fun _ h => decide_eq_false (by omega))⟩
  · exact ⟨i, j, rfl, rfl, hP _ (tt (Option.some.inj q) (fun h => decide_eq_true (by omega)) fun _ h => decide_eq_false (by omega))⟩
  · exact ⟨i, j, rfl, rfl, hP _ (tt (Option.some.inj q) (fun h => decide_eq_true (by omega)) fun _ h => decide_eq_false (by omega))⟩
  · exact ⟨i, j, rfl, rfl, hP _ (tt (Option.some.inj q) (fun h => decide_eq_true (by omega)) fun _ h => decide_eq_false (by omega))⟩
  · rw [cw_eq, eq_ii]
    refine hP _ (tt (Option.some.inj q) (fun h => beq_iff_eq.mpr (by omega)) fun _ h => beq_eq_false_iff_ne.mpr (by omega))
  · rw [cw_ne, eq_ii]
    refine hP _ (tt (Option.some.inj q) (fun h => ?_) fun _ h => ?_)
    · rw [beq_iff_eq.mpr (show i = j by omega)]; rfl
    · rw [beq_eq_false_iff_ne.mpr (show i ≠ j by omega)]; rfl
  · cases q
def isiT : Ty → String → Option (Option Bool)
  | .none, _ => some (some false)
  | .bl _, T => some (some (T == "bool" || T == "int"))
  | .int _ _, T => some (some (T == "int"))
  | .str _, T => some (some (T == "str"))
  | .ex t _, T => some (some (if t = true then T == "tuple" else T == "list"))
  | .seq t _ _ _, T => some (some (if t = true then T == "tuple" else T == "list"))
  | .any _ _, _ => some Option.none
  | .bot, _ => some Option.none
theorem isiT_ok {t : Ty} {T : String} {k : Option Bool} {p : PyData} {M : Mem} {P : Bool → Prop} (q : isiT t T = some k) (h : In t p) (hP : ∀ x, (∀ y, k = some y → x = y) → P x) : isiW (.v p) T M P := by
  cases h with
  | none => cases q; exact hP _ fun y e => by cases e; rfl
  | bl h => cases q; exact hP _ fun y e => by cases e; rfl
  | int h1 h2 => cases q; exact hP _ fun y e => by cases e; rfl
  | str h1 h2 => cases q; exact hP _ fun y e => by cases e; rfl
  | ex e h =>
    subst e
    unfold mkS
    split <;> (cases q; refine hP _ fun y e => ?_; injection e with e; rw [← e]; simp_all)
  | seq e h h1 h2 =>
    subst e
    unfold mkS
    split <;> (cases q; refine hP _ fun y e => ?_; injection e with e; rw [← e]; simp_all)
  | any h =>
    cases q
    cases p <;> exact hP _ fun y e => by cases e
def isNT : Ty → Option Bool
  | .none => some true
  | .any _ _ => Option.none
  | .bot => Option.none
  | _ => some false
theorem isNT_ok {t : Ty} {p : PyData} (h : In t p) : ∀ y, isNT t = some y → isNone (.v p) = y := by
  cases h with
  | ex e h => subst e; intro y q; cases q; unfold mkS; split <;> rfl
  | seq e h h1 h2 => subst e; intro y q; cases q; unfold mkS; split <;> rfl
  | any h => intro y q; cases q
  | _ => intro y q; cases q; rfl
section
variable (B : Mem → Prop) (Own : Nat → Prop) (b : Nat) (M0 : Mem)
/-- what is asked of the drawing's own things -/
structure Bl : Prop where
  own0 : ∀ k, Own k → M0 k ≠ none
  own1 : ∀ M k, B M → Own k → M k ≠ none
  st : ∀ M M', (∀ k, Own k → M' k = M k) → B M → B M'
def InA (ρ : Nat → Nat) : AV → D → Prop
  | .v t, d => ∃ p, d = .v p ∧ In t p
  | .box i, d => d = .loc (ρ i)
  | .bag, d => d = .loc b
  | .no, _ => True
def InR (ρ : Nat → Nat) : AR → Rs → Prop
  | .v a, r => ∃ d, r = .val d ∧ InA b ρ a d
  | .fl c, r => ∃ ps : List PyData, r = .fl (ps.map D.v) ∧ InC c ps
  | .fd, r => r = .fd []
structure GmA (sto : List CT) (ρ : Nat → Nat) (M : Mem) : Prop where
  at' : ∀ (i : Nat) (c : CT), sto[i]? = some c → ∃ ps : List PyData, M (ρ i) = some (.lst (ps.map D.v)) ∧ InC c ps ∧ M0 (ρ i) = none
  inj : ∀ i j, i < sto.length → j < sto.length → ρ i = ρ j → i = j
  bag : B M
  fr : ∀ k, ¬ Own k → M0 k ≠ none → M k = M0 k
def Ge (ρ : Nat → Nat) (n : Nat) (ge : List AV) (env : Env) : Prop := env.length = ge.length ∧ ∀ (i : Nat) (a : AV), ge[i]? = some a → a = .no ∨ ((∀ j, a = .box j → j < n) ∧ ∃ d, env[i]? = some (some d) ∧ InA b ρ a d)
def InF : AV → D → Prop
  | .v t, d => ∃ p, d = .v p ∧ In t p
  | .bag, d => d = .loc b
  | _, _ => False
def InFs : List AV → List D → Prop
  | [], [] => True
  | a :: as, d :: ds => InF b a d ∧ InFs as ds
  | _, _ => False
/-- what defs are worth by types -/
def SgOk (T : Tb) (F : Sigs) : Prop := ∀ (f : Str) (ats : List AV) (t : Ty) (ds : List D) (M : Mem) (P : D → Mem → Prop) (PX : XN → Mem → Prop), F f ats = some t → InFs b ats ds → B M → (∀ p M', In t p → B M' → (∀ k, ¬ Own k → M' k = M k) → P (.v p) M') → T f ds M P PX
end
section
variable {B : Mem → Prop} {Own : Nat → Prop} {b : Nat} {M0 : Mem} {ρ : Nat → Nat} {sto : List CT} {M : Mem}
theorem InR.as {r : AR} {rs : Rs} {P : D → Mem → Prop} (h : InR b ρ r rs) (hP : ∀ d, InA b ρ r.as d → P d M) : asVal P rs M := by
  cases r with
  | v a =>
    obtain ⟨d, rfl, h⟩ := h
    exact hP d h
  | fl c =>
    obtain ⟨ps, rfl, h⟩ := h
    rw [asVal_fl]
    exact hP _ ⟨_, rfl, h.ty false⟩
  | fd =>
    have e : rs = .fd [] := h
    rw [e, asVal_fd0]
    exact hP _ ⟨_, rfl, .any ⟨rfl, by decide, rfl, by decide⟩⟩
/-- the content of what is a sequence -/
def contA (sto : List CT) : AV → Option (Bool × CT)
  | .v t => t.ct
  | .box i => (sto[i]?).map fun c => (false, c)
  | _ => none
theorem cont_ok {a : AV} {d : D} {t : Bool} {c : CT} (G : GmA B Own M0 sto ρ M) (h : InA b ρ a d) (q : contA sto a = some (t, c)) : ∃ ps : List PyData, InC c ps ∧ seqOf M d = some (ps.map D.v) ∧ (t = false → lstOf M d = some (ps.map D.v)) ∧ (∀ k, vw (k + 1) M d = some (mkS t ps)) ∧ (t = true → d = .v (.tuple ps)) ∧ (d = .v (mkS t ps) ∨ ∃ n, d = .loc n) := by
  cases a with
  | v u =>
    obtain ⟨p, rfl, h⟩ := h
    obtain ⟨ps, rfl, hc⟩ := h.ct q
    refine ⟨ps, hc, ?_, ?_, fun k => rfl, ?_, .inl rfl⟩
    · cases t <;> rfl
    · intro e; subst e; rfl
    · intro e; subst e; rfl
  | box i =>
    obtain ⟨c', e, q⟩ := Option.map_eq_some_iff.mp q
    cases q
    obtain ⟨ps, h1, h2, _⟩ := G.at' i c e
    have hd : d = .loc (ρ i) := h
    subst hd
    exact ⟨ps, h2, seqOf_loc h1, fun _ => lstOf_loc h1, fun k => vw_loc h1, (fun e => by cases e), .inr ⟨_, rfl⟩⟩
  | bag => cases q
  | no => cases q
def aBin (sto : List CT) (o : Operator) (x y : AV) : Option AR := match x, y with
  | .v (.int a b), .v (.int c d) => (binI o a b c d).map fun t => .v (.v t)
  | x, y => match o with
    | .Add => match contA sto x, contA sto y with
      | some (true, c), some (true, d) => match c.cat d with
        | some e => if c.hi + d.hi ≤ 100000 then some (.v (.v (e.ty true))) else none
        | none => none
      | some (false, c), some (false, d) => match c.cat d with
        | some e => if c.hi + d.hi ≤ 100000 then some (.fl e) else none
        | none => none
      | _, _ => none
    | .Mult => match contA sto x, y with
      | some (true, c), .v (.int k l) => if 2 ≤ k ∧ l ≤ 1000 ∧ 0 < c.lo ∧ c.hi ≤ 1000 then (c.rep k.toNat l.toNat).map fun e => .v (.v (e.ty true)) else none
      | some (false, c), .v (.int k l) => if -1000 ≤ k ∧ l ≤ 1000 ∧ c.hi ≤ 1000 then (c.rep k.toNat l.toNat).map .fl else none
      | _, _ => none
    | _ => none
theorem InA.int {a : AV} {d : D} {i j : Int} (h : InA b ρ a d) (e : a = .v (.int i j)) : ∃ k : Int, d = .v (.int k) ∧ i ≤ k ∧ k ≤ j := by
  subst e
  obtain ⟨p, rfl, h⟩ := h
  cases h with
  | int h1 h2 => exact ⟨_, rfl, h1, h2⟩
theorem lst_int {M : Mem} {k : Int} {ps : List D} (h : lstOf M (.v (.int k)) = some ps) : False := by cases h
theorem lst_str {M : Mem} {k : Str} {ps : List D} (h : lstOf M (.v (.str k)) = some ps) : False := by cases h
theorem lst_tup {M : Mem} {k : List PyData} {ps : List D} (h : lstOf M (.v (.tuple k)) = some ps) : False := by cases h
theorem addl {M : Mem} {x y : D} {P : Rs → Prop} {xs ys : List D} (h1 : lstOf M x = some xs) (h2 : lstOf M y = some ys) (hl : xs.length + ys.length ≤ sizeLine) (h : P (.fl (xs ++ ys))) : binW .Add x y M P := by
  have w : ∃ xs ys, lstOf M x = some xs ∧ lstOf M y = some ys ∧ xs.length + ys.length ≤ sizeLine ∧ P (.fl (xs ++ ys)) := ⟨_, _, h1, h2, hl, h⟩
  cases x with
  | loc n => exact w
  | v p => cases p with
    | list qs => exact w
    | _ => cases h1
theorem mull {M : Mem} {x : D} {k : Int} {P : Rs → Prop} {xs : List D} (h1 : lstOf M x = some xs) (hk : -(2 ^ 63) ≤ k ∧ k < 2 ^ 63) (hl : xs.length * k.toNat ≤ sizeLine) (h : P (.fl (List.replicate k.toNat xs).flatten)) : binW .Mult x (.v (.int k)) M P := by
  have w : ∃ xs, lstOf M x = some xs ∧ -(2 ^ 63) ≤ k ∧ k < 2 ^ 63 ∧ xs.length * k.toNat ≤ sizeLine ∧ P (.fl (List.replicate k.toNat xs).flatten) := ⟨_, h1, hk.1, hk.2, hl, h⟩
  cases x with
  | loc n => exact w
  | v p => cases p with
    | list qs => exact w
    | _ => cases h1
theorem rep_map {ps : List PyData} (k : Nat) : (List.replicate k (ps.map D.v)).flatten = ((List.replicate k ps).flatten).map D.v := by
  induction k with
  | zero => rfl
  | succ k ih => rw [List.replicate_succ, List.flatten_cons, List.replicate_succ, List.flatten_cons, List.map_append, ih]
theorem aBin_ok {o : Operator} {x y : AV} {r : AR} {dx dy : D} {P : Rs → Prop} (G : GmA B Own M0 sto ρ M) (q : aBin sto o x y = some r) (hx : InA b ρ x dx) (hy : InA b ρ y dy) (hP : ∀ rs, InR b ρ r rs → P rs) : binW o dx dy M P := by
  have hz := sizeLine_eq
  unfold aBin at q
  split at q
  · obtain ⟨t, ht, rfl⟩ := Option.map_eq_some_iff.mp q
    obtain ⟨i, rfl, h1, h2⟩ := hx.int rfl
    obtain ⟨j, rfl, h3, h4⟩ := hy.int rfl
    exact binI_ok ht h1 h2 h3 h4 fun k hk => hP _ ⟨_, rfl, _, rfl, hk⟩
  · split at q
    · split at q
      · rename_i c d h1 h2
        split at q
        · rename_i e he
          split at q
          · cases q
            obtain ⟨ps, hp, _, _, _, e1, _⟩ := cont_ok G hx h1
            obtain ⟨qs, hq, _, _, _, e2, _⟩ := cont_ok G hy h2
            have l1 := hp.len
            have l2 := hq.len
            rw [e1 rfl, e2 rfl, bw_addt]
            exact ⟨by omega, hP _ ⟨_, rfl, _, rfl, (hp.cat hq he).ty true⟩⟩
          · cases q
        · cases q
      · rename_i c d h1 h2
        split at q
        · rename_i e he
          split at q
          · cases q
            obtain ⟨ps, hp, _, e1, _⟩ := cont_ok G hx h1
            obtain ⟨qs, hq, _, e2, _⟩ := cont_ok G hy h2
            have l1 := hp.len
            have l2 := hq.len
            refine addl (e1 rfl) (e2 rfl) (by rw [List.length_map, List.length_map]; omega) (hP _ ⟨ps ++ qs, ?_, hp.cat hq he⟩)
            rw [List.map_append]
          · cases q
        · cases q
      · cases q
    · split at q
      · rename_i c k l h1 _
        split at q
        · obtain ⟨e, he, rfl⟩ := Option.map_eq_some_iff.mp q
          obtain ⟨ps, hp, _, _, _, e1, _⟩ := cont_ok G hx h1
          obtain ⟨j, rfl, h3, h4⟩ := hy.int rfl
          have l1 := hp.len
          rw [e1 rfl, bw_mult]
          refine ⟨fun e => ?_, by omega, by omega, by omega, hP _ ⟨_, rfl, _, rfl, (hp.rep he (by omega) (by omega)).ty true⟩⟩
          rw [e] at l1
          have : c.lo ≤ 0 := l1.1
          omega
        · cases q
      · rename_i c k l h1 _
        split at q
        · rename_i hb
          obtain ⟨e, he, rfl⟩ := Option.map_eq_some_iff.mp q
          obtain ⟨ps, hp, _, e1, _⟩ := cont_ok G hx h1
          obtain ⟨j, rfl, h3, h4⟩ := hy.int rfl
          have l1 := hp.len
          refine mull (e1 rfl) (by omega) ?_ ?_
          · rw [List.length_map]
            have : ps.length * j.toNat ≤ 1000 * 1000 := Nat.mul_le_mul (by omega) (by omega)
            omega
          · rw [rep_map]
            exact hP _ ⟨_, rfl, hp.rep he (by omega) (by omega)⟩
        · cases q
      · cases q
    · cases q
def aCmp (sto : List CT) (o : CmpOp) (x y : AV) : Option (Option Bool) := match x, y with
  | .v (.int a b), .v (.int c d) => cmpI o a b c d
  | .v (.str _), .v (.str _) => match o with
    | .Eq => some none
    | .NotEq => some none
    | _ => none
  | x, y => match o with
    | .Eq => match contA sto x, contA sto y with
      | some (t, c), some (u, d) => match c.el, d.el with
        | some e, some f => if e.layOk = true ∧ f.layOk = true ∧ (Ty.seq true e 0 0).layOk = true ∧ (Ty.seq true f 0 0).layOk = true then some none else none
        | _, _ => none
      | _, _ => none
    | .NotEq => match contA sto x, contA sto y with
      | some (t, c), some (u, d) => match c.el, d.el with
        | some e, some f => if e.layOk = true ∧ f.layOk = true ∧ (Ty.seq true e 0 0).layOk = true ∧ (Ty.seq true f 0 0).layOk = true then some (if t = u ∧ c.hi = 0 ∧ d.hi = 0 then some false else if c.hi < d.lo ∨ d.hi < c.lo then some true else none) else none
        | _, _ => none
      | _, _ => none
    | _ => none
theorem eqv_len {t u : Bool} {ps qs : List PyData} (h : ps.length ≠ qs.length) : PyData.eqv (mkS t ps) (mkS u qs) = false := by
  have g : ∀ {ps qs : List PyData}, ps.length ≠ qs.length → PyData.eqvAll ps qs = false := by
    intro ps
    induction ps with
    | nil => intro qs h; cases qs with
      | nil => exact absurd rfl h
      | cons _ _ => rfl
    | cons p ps ih => intro qs h; cases qs with
      | nil => rfl
      | cons q qs =>
        show (PyData.eqv p q && PyData.eqvAll ps qs) = false
        rw [ih (fun e => h (congrArg (· + 1) e)), Bool.and_false]
  cases t <;> cases u <;> simp only [mkS, if_true, Bool.false_eq_true, if_false, PyData.eqv, g h]
theorem InC.shaped {c : CT} {ps : List PyData} {e : Ty} {t : Bool} (h : InC c ps) (q : c.el = some e) (l : (Ty.seq true e 0 0).layOk = true) : SeqAt.shaped (mkS t ps) = true := by
  refine In.shaped (t := .seq t e 0 ps.length) (.seq rfl (h.el q) (Nat.zero_le _) (Nat.le_refl _)) ?_
  exact l
theorem eq_any {M : Mem} {x y : D} {p q : PyData} {P : Bool → Prop} (h1 : vw 4 M x = some p) (h2 : vw 4 M y = some q) (ns : (∀ s, x ≠ .v (.str s)) ∨ ∀ s, y ≠ .v (.str s)) (s1 : SeqAt.shaped p = true) (s2 : SeqAt.shaped q = true) (h : P (PyData.eqv p q)) : eqW x y M P := by
  have w : ∃ p q, vw 4 M x = some p ∧ vw 4 M y = some q ∧ SeqAt.shaped p = true ∧ SeqAt.shaped q = true ∧ P (PyData.eqv p q) := ⟨p, q, h1, h2, s1, s2, h⟩
  unfold eqW
  split
  · rcases ns with n | n
    · exact absurd rfl (n _)
    · exact absurd rfl (n _)
  · exact w
theorem aCmp_ok {o : CmpOp} {x y : AV} {k : Option Bool} {dx dy : D} {P : Bool → Prop} (G : GmA B Own M0 sto ρ M) (q : aCmp sto o x y = some k) (hx : InA b ρ x dx) (hy : InA b ρ y dy) (hP : ∀ z, (∀ w, k = some w → z = w) → P z) : cmpW o dx dy M P := by
  unfold aCmp at q
  split at q
  · obtain ⟨i, rfl, h1, h2⟩ := hx.int rfl
    obtain ⟨j, rfl, h3, h4⟩ := hy.int rfl
    exact cmpI_ok q h1 h2 h3 h4 hP
  · obtain ⟨p, rfl, hp⟩ := hx
    obtain ⟨p', rfl, hp'⟩ := hy
    cases hp; cases hp'
    split at q
    · cases q; exact hP _ fun w e => (nomatch e)
    · cases q; exact hP _ fun w e => (nomatch e)
    · cases q
  · have nstr : ∀ {t : Bool} {ps : List PyData} {d : D}, (d = .v (mkS t ps) ∨ ∃ n, d = .loc n) → ∀ s, d ≠ .v (.str s) := by
      intro t ps d h s e
      rcases h with h | ⟨n, h⟩
      · rw [h] at e; cases t <;> cases e
      · rw [h] at e; cases e
    split at q
    · split at q
      · rename_i t c u d h1 h2
        split at q
        · rename_i e f he hf
          split at q
          · rename_i hl
            cases q
            obtain ⟨ps, hp, _, _, v1, _, n1⟩ := cont_ok G hx h1
            obtain ⟨qs, hq, _, _, v2, _, _⟩ := cont_ok G hy h2
            exact eq_any (v1 3) (v2 3) (.inl (nstr n1)) (hp.shaped he hl.2.2.1) (hq.shaped hf hl.2.2.2) (hP _ fun w e => (nomatch e))
          · cases q
        · cases q
      · cases q
    · split at q
      · rename_i t c u d h1 h2
        split at q
        · rename_i e f he hf
          split at q
          · rename_i hl
            obtain ⟨ps, hp, _, _, v1, _, n1⟩ := cont_ok G hx h1
            obtain ⟨qs, hq, _, _, v2, _, _⟩ := cont_ok G hy h2
            have l1 := hp.len
            have l2 := hq.len
            refine eq_any (P := fun b => P (!b)) (v1 3) (v2 3) (.inl (nstr n1)) (hp.shaped he hl.2.2.1) (hq.shaped hf hl.2.2.2) (hP _ fun w e => ?_)
            have q' := Option.some.inj q
            rw [e] at q'
            split at q'
            · rename_i hh
              cases q'
              have e1 : ps = [] := List.eq_nil_of_length_eq_zero (by omega)
              have e2 : qs = [] := List.eq_nil_of_length_eq_zero (by omega)
              rw [e1, e2, hh.1]
              cases u <;> rfl
            · split at q'
              · cases q'
                rw [eqv_len (by omega)]; rfl
              · cases q'
          · cases q
        · cases q
      · cases q
    · cases q
end
end Pd

namespace Pd
open PySem L2
section
variable {B : Mem → Prop} {Own : Nat → Prop} {b : Nat} {M0 : Mem} {ρ : Nat → Nat} {sto : List CT} {M M' : Mem}
def SameO (Own : Nat → Prop) (M M' : Mem) : Prop := ∀ k, ¬ Own k → M' k = M k
theorem SameO.refl : SameO Own M M := fun _ _ => rfl
theorem SameO.trans {M1 M2 : Mem} (h : SameO Own M M1) (h2 : SameO Own M1 M2) : SameO Own M M2 := fun k hk => (h2 k hk).trans (h k hk)
theorem GmA.move (L : Bl B Own M0) (G : GmA B Own M0 sto ρ M) (hb : B M') (s : SameO Own M M') : GmA B Own M0 sto ρ M' where
  at' := fun i c e => by
    obtain ⟨ps, h1, h2, h3⟩ := G.at' i c e
    exact ⟨ps, (s _ fun o => L.own0 _ o h3).trans h1, h2, h3⟩
  inj := G.inj
  bag := hb
  fr := fun k h1 h2 => (s k h1).trans (G.fr k h1 h2)
theorem ints_in {c : CT} {ps : List PyData} {x y : Int} (h : InC c ps) (e : c.el = some (.int x y)) : ∃ ns : List Int, ps = pints ns ∧ ∀ n, n ∈ ns → x ≤ n ∧ n ≤ y := by
  have g : ∀ {ps : List PyData}, (∀ z, z ∈ ps → In (.int x y) z) → ∃ ns : List Int, ps = pints ns ∧ ∀ n, n ∈ ns → x ≤ n ∧ n ≤ y := by
    intro ps
    induction ps with
    | nil => exact fun _ => ⟨[], rfl, by simp⟩
    | cons p ps ih =>
      intro h
      obtain ⟨ns, rfl, hn⟩ := ih fun z hz => h z (List.mem_cons_of_mem _ hz)
      have := h p (List.mem_cons_self ..)
      cases this with
      | int h1 h2 =>
        refine ⟨_ :: ns, rfl, fun n hn' => ?_⟩
        rcases List.mem_cons.mp hn' with rfl | hn'
        · exact ⟨h1, h2⟩
        · exact hn n hn'
  exact g (h.el e)
theorem bools_in {ps : List PyData} {k : Option Bool} (h : ∀ z, z ∈ ps → In (.bl k) z) : ∃ bs : List Bool, ps = bs.map PyData.bool := by
  induction ps with
  | nil => exact ⟨[], rfl⟩
  | cons p ps ih =>
    obtain ⟨bs, rfl⟩ := ih fun z hz => h z (List.mem_cons_of_mem _ hz)
    have := h p (List.mem_cons_self ..)
    cases this with
    | bl _ => exact ⟨_ :: bs, rfl⟩
theorem sum_le {ns : List Int} {x y : Int} (h : ∀ n, n ∈ ns → x ≤ n ∧ n ≤ y) : x * ns.length ≤ ns.sum ∧ ns.sum ≤ y * ns.length := by
  induction ns with
  | nil => simp
  | cons n ns ih =>
    have a := h n (List.mem_cons_self ..)
    have b := ih fun z hz => h z (List.mem_cons_of_mem _ hz)
    rw [List.sum_cons, List.length_cons]
    have e1 : x * ((ns.length + 1 : Nat) : Int) = x * (ns.length : Nat) + x := by rw [Int.natCast_add, Int.mul_add]; simp
    have e2 : y * ((ns.length + 1 : Nat) : Int) = y * (ns.length : Nat) + y := by rw [Int.natCast_add, Int.mul_add]; simp
    omega
def sumT (x y : Int) (lo hi : Nat) : Ty := .int (if 0 ≤ x then x * lo else x * hi) (if 0 ≤ y then y * hi else y * lo)
theorem sumT_ok {ns : List Int} {x y : Int} {lo hi : Nat} (h : ∀ n, n ∈ ns → x ≤ n ∧ n ≤ y) (h1 : lo ≤ ns.length) (h2 : ns.length ≤ hi) : In (sumT x y lo hi) (.int ns.sum) := by
  have s := sum_le h
  have h1' : (lo : Int) ≤ ns.length := by omega
  have h2' : (ns.length : Int) ≤ hi := by omega
  refine .int ?_ ?_
  · refine Int.le_trans ?_ s.1
    split
    · exact Int.mul_le_mul_of_nonneg_left h1' (by assumption)
    · have := Int.mul_le_mul_of_nonneg_left h2' (by omega : 0 ≤ -x)
      rw [Int.neg_mul, Int.neg_mul] at this; omega
  · refine Int.le_trans s.2 ?_
    split
    · exact Int.mul_le_mul_of_nonneg_left h2' (by assumption)
    · have := Int.mul_le_mul_of_nonneg_left h1' (by omega : 0 ≤ -y)
      rw [Int.neg_mul, Int.neg_mul] at this; omega
def aUn (o : UnaryOp) (x : AV) : Option AR := match o, x with
  | .USub, .v (.int a b) => some (.v (.v (.int (-b) (-a))))
  | .Not, .v (.bl k) => some (.v (.v (.bl (k.map not))))
  | _, _ => none
theorem aUn_ok {o : UnaryOp} {x : AV} {r : AR} {d : D} {P : D → Prop} (q : aUn o x = some r) (h : InA b ρ x d) (hP : ∀ d, InR b ρ r (.val d) → P d) : unW o d P := by
  unfold aUn at q
  split at q
  · cases q
    obtain ⟨p, rfl, hp⟩ := h
    cases hp with
    | int h1 h2 => exact ⟨_, rfl, hP _ ⟨_, rfl, _, rfl, .int (by omega) (by omega)⟩⟩
  · cases q
    obtain ⟨p, rfl, hp⟩ := h
    cases hp with
    | bl h1 =>
      refine ⟨_, rfl, hP _ ⟨_, rfl, _, rfl, .bl fun c hc => ?_⟩⟩
      obtain ⟨k, hk, rfl⟩ := Option.map_eq_some_iff.mp hc
      rw [h1 k hk]
  · cases q
def aBI (sto : List CT) (f : BI) (xs : List AV) : Option AR := match f, xs with
  | .len, [x] => (contA sto x).map fun c => .v (.v (.int c.2.lo c.2.hi))
  | .abs, [.v (.int a b)] => some (.v (.v (if 0 ≤ a then .int a b else .int 0 (mag a b))))
  | .sum, [x] => match contA sto x with
    | some (_, c) => match c.el with
      | some (.int a b) => some (.v (.v (sumT a b c.lo c.hi)))
      | some .bot => if c.hi = 0 then some (.v (.v (.int 0 0))) else none
      | _ => none
    | none => none
  | .all, [x] => match contA sto x with
    | some (false, c) => match c.el with
      | some (.bl _) => some (.v (.v (.bl none)))
      | some .bot => if c.hi = 0 then some (.v (.v (.bl none))) else none
      | _ => none
    | _ => none
  | .any, [x] => match contA sto x with
    | some (false, c) => match c.el with
      | some (.bl _) => some (.v (.v (.bl none)))
      | some .bot => if c.hi = 0 then some (.v (.v (.bl none))) else none
      | _ => none
    | _ => none
  | .int, [.v (.int a b)] => some (.v (.v (.int a b)))
  | .int, [.v (.bl _)] => some (.v (.v (.int 0 1)))
  | .tuple, [x] => (contA sto x).map fun c => .v (.v (c.2.ty true))
  | .list, [x] => (contA sto x).map fun c => .fl c.2
  | .sorted, [x] => match contA sto x with
    | some (false, c) => match c.el with
      | some (.int a b) => some (.fl (.sq (.int a b) c.lo c.hi))
      | some .bot => if c.hi = 0 then some (.fl c) else none
      | _ => none
    | _ => none
  | .max, [x] => match contA sto x with
    | some (false, c) => match c.el with
      | some (.int a b) => if 0 < c.lo then some (.v (.v (.int a b))) else none
      | _ => none
    | _ => none
  | .min, [x] => match contA sto x with
    | some (false, c) => match c.el with
      | some (.int a b) => if 0 < c.lo then some (.v (.v (.int a b))) else none
      | _ => none
    | _ => none
  | .max2, [.v (.int a b), .v (.int c d)] => some (.v (.v (.int (max a c) (max b d))))
  | .min2, [.v (.int a b), .v (.int c d)] => some (.v (.v (.int (min a c) (min b d))))
  | _, _ => none
def InAs (b : Nat) (ρ : Nat → Nat) : List AV → List D → Prop
  | [], [] => True
  | a :: as, d :: ds => InA b ρ a d ∧ InAs b ρ as ds
  | _, _ => False
theorem InAs.one {x : AV} {ds : List D} (h : InAs b ρ [x] ds) : ∃ d, ds = [d] ∧ InA b ρ x d := by
  match ds, h with
  | [d], h => exact ⟨d, rfl, h.1⟩
  | [], h => exact h.elim
  | _ :: _ :: _, h => exact h.2.elim
theorem InAs.two {x y : AV} {ds : List D} (h : InAs b ρ [x, y] ds) : ∃ d e, ds = [d, e] ∧ InA b ρ x d ∧ InA b ρ y e := by
  match ds, h with
  | [d, e], h => exact ⟨d, e, rfl, h.1, h.2.1⟩
  | [], h => exact h.elim
  | [_], h => exact h.2.elim
  | _ :: _ :: _ :: _, h => exact h.2.2.elim
theorem lenW_seq {M : Mem} {x : D} {ds : List D} {P : Int → Prop} (h : seqOf M x = some ds) (hP : P ds.length) : lenW x M P := by
  have w : ∃ ds, seqOf M x = some ds ∧ P ds.length := ⟨ds, h, hP⟩
  unfold lenW
  split
  · cases h
  · exact w
theorem lay_ints {ns : List Int} : sortOk (pints ns) := by
  refine ⟨PySem.W.AllAlike.of fun a b => ?_, PySem.W.Sortable.others fun a => ⟨fun e => (nomatch e), fun _ e => (nomatch e)⟩, fun p hp => ?_⟩
  · have := PySem.W.alike_ints [a] [b]
    simpa [PySem.W.alikeAll] using this
  · obtain ⟨i, _, rfl⟩ := List.mem_map.mp hp
    exact Nat.zero_le _
theorem aBI_ok {f : BI} {xs : List AV} {r : AR} {ds : List D} {P : Rs → Prop} (G : GmA B Own M0 sto ρ M) (q : aBI sto f xs = some r) (h : InAs b ρ xs ds) (hP : ∀ rs, InR b ρ r rs → P rs) : biW f ds M P := by
  have nil : ∀ {c : CT} {ps : List PyData}, InC c ps → c.hi = 0 → ps = [] := fun h e => List.eq_nil_of_length_eq_zero (by have := h.len; omega)
  unfold aBI at q
  split at q
  · obtain ⟨d, rfl, hd⟩ := h.one
    obtain ⟨⟨t, c⟩, hc, rfl⟩ := Option.map_eq_some_iff.mp q
    obtain ⟨ps, hp, hs, _⟩ := cont_ok G hd hc
    have l := hp.len
    rw [bi_len]
    refine lenW_seq hs ?_
    show P (.val (.v (.int ((ps.map D.v).length : Nat))))
    rw [List.length_map]
    exact hP _ ⟨_, rfl, _, rfl, .int (show (c.lo : Int) ≤ ps.length by omega) (show (ps.length : Int) ≤ c.hi by omega)⟩
  · obtain ⟨d, rfl, hd⟩ := h.one
    obtain ⟨i, rfl, h1, h2⟩ := hd.int rfl
    cases q
    rw [bi_abs]
    refine hP _ ⟨_, rfl, _, rfl, ?_⟩
    have := mag_le h1 h2
    split
    · rw [if_neg (by omega)]; exact .int h1 h2
    · split
      · exact .int (by omega) (by omega)
      · exact .int (by omega) (by omega)
  · obtain ⟨d, rfl, hd⟩ := h.one
    split at q
    · rename_i t c hc
      obtain ⟨ps, hp, hs, _⟩ := cont_ok G hd hc
      have l := hp.len
      split at q
      · rename_i x y he
        cases q
        obtain ⟨ns, rfl, hn⟩ := ints_in hp he
        rw [pints_len] at l
        rw [bi_sum]
        exact ⟨_, ns, hs, intsOf_pints ns, hP _ ⟨_, rfl, _, rfl, sumT_ok hn l.1 l.2⟩⟩
      · split at q
        · cases q
          have e := nil hp (by assumption)
          subst e
          rw [bi_sum]
          exact ⟨_, [], hs, rfl, hP _ ⟨_, rfl, _, rfl, .int (by simp) (by simp)⟩⟩
        · cases q
      · cases q
    · cases q
  · obtain ⟨d, rfl, hd⟩ := h.one
    split at q
    · rename_i c hc
      obtain ⟨ps, hp, _, hs, _⟩ := cont_ok G hd hc
      split at q
      · rename_i k he
        cases q
        obtain ⟨bs, rfl⟩ := bools_in (hp.el he)
        rw [bi_alls]
        exact ⟨_, bs, hs rfl, boolsOf_map bs, hP _ ⟨_, rfl, _, rfl, .bl fun c hc => (nomatch hc)⟩⟩
      · split at q
        · cases q
          have e := nil hp (by assumption)
          subst e
          rw [bi_alls]
          exact ⟨_, [], hs rfl, rfl, hP _ ⟨_, rfl, _, rfl, .bl fun c hc => (nomatch hc)⟩⟩
        · cases q
      · cases q
    · cases q
  · obtain ⟨d, rfl, hd⟩ := h.one
    split at q
    · rename_i c hc
      obtain ⟨ps, hp, _, hs, _⟩ := cont_ok G hd hc
      split at q
      · rename_i k he
        cases q
        obtain ⟨bs, rfl⟩ := bools_in (hp.el he)
        rw [bi_any]
        exact ⟨_, bs, hs rfl, boolsOf_map bs, hP _ ⟨_, rfl, _, rfl, .bl fun c hc => (nomatch hc)⟩⟩
      · split at q
        · cases q
          have e := nil hp (by assumption)
          subst e
          rw [bi_any]
          exact ⟨_, [], hs rfl, rfl, hP _ ⟨_, rfl, _, rfl, .bl fun c hc => (nomatch hc)⟩⟩
        · cases q
      · cases q
    · cases q
  · obtain ⟨d, rfl, hd⟩ := h.one
    obtain ⟨i, rfl, h1, h2⟩ := hd.int rfl
    cases q
    rw [bi_int]
    exact hP _ ⟨_, rfl, _, rfl, .int h1 h2⟩
  · obtain ⟨d, rfl, hd⟩ := h.one
    obtain ⟨p, rfl, hp⟩ := hd
    cases q
    cases hp with
    | bl _ =>
      rw [bi_intb]
      refine hP _ ⟨_, rfl, _, rfl, ?_⟩
      split <;> exact .int (by omega) (by omega)
  · obtain ⟨d, rfl, hd⟩ := h.one
    obtain ⟨⟨t, c⟩, hc, rfl⟩ := Option.map_eq_some_iff.mp q
    obtain ⟨ps, hp, hs, _⟩ := cont_ok G hd hc
    rw [bi_tup]
    exact ⟨_, ps, hs, dataOf_map, hP _ ⟨_, rfl, _, rfl, hp.ty true⟩⟩
  · obtain ⟨d, rfl, hd⟩ := h.one
    obtain ⟨⟨t, c⟩, hc, rfl⟩ := Option.map_eq_some_iff.mp q
    obtain ⟨ps, hp, hs, _⟩ := cont_ok G hd hc
    rw [bi_lst]
    exact ⟨_, hs, hP _ ⟨_, rfl, hp⟩⟩
  · obtain ⟨d, rfl, hd⟩ := h.one
    split at q
    · rename_i c hc
      obtain ⟨ps, hp, _, hs, _⟩ := cont_ok G hd hc
      have l := hp.len
      split at q
      · rename_i x y he
        cases q
        obtain ⟨ns, rfl, hn⟩ := ints_in hp he
        rw [bi_srt]
        refine ⟨_, _, hs rfl, dataOf_map, lay_ints, hP _ ⟨_, rfl, ?_, ?_, ?_⟩⟩
        · intro z hz
          exact hp.el he z ((List.mergeSort_perm _ _).mem_iff.mp hz)
        · rw [(List.mergeSort_perm _ _).length_eq]; exact l.1
        · rw [(List.mergeSort_perm _ _).length_eq]; exact l.2
      · split at q
        · cases q
          have e := nil hp (by assumption)
          subst e
          rw [bi_srt]
          exact ⟨_, [], hs rfl, rfl, lay_ints (ns := []), hP _ ⟨[], by simp, hp⟩⟩
        · cases q
      · cases q
    · cases q
  · obtain ⟨d, rfl, hd⟩ := h.one
    split at q
    · rename_i c hc
      obtain ⟨ps, hp, _, hs, _⟩ := cont_ok G hd hc
      have l := hp.len
      split at q
      · rename_i x y he
        split at q
        · cases q
          obtain ⟨ns, rfl, hn⟩ := ints_in hp he
          rw [pints_len] at l
          rw [bi_max]
          exact ⟨_, ns, hs rfl, intsOf_pints ns, by omega, fun m hm _ => hP _ ⟨_, rfl, _, rfl, .int (hn m hm).1 (hn m hm).2⟩⟩
        · cases q
      · cases q
    · cases q
  · obtain ⟨d, rfl, hd⟩ := h.one
    split at q
    · rename_i c hc
      obtain ⟨ps, hp, _, hs, _⟩ := cont_ok G hd hc
      have l := hp.len
      split at q
      · rename_i x y he
        split at q
        · cases q
          obtain ⟨ns, rfl, hn⟩ := ints_in hp he
          rw [pints_len] at l
          rw [bi_min]
          exact ⟨_, ns, hs rfl, intsOf_pints ns, by omega, fun m hm _ => hP _ ⟨_, rfl, _, rfl, .int (hn m hm).1 (hn m hm).2⟩⟩
        · cases q
      · cases q
    · cases q
  · obtain ⟨d, e, rfl, hd, he⟩ := h.two
    obtain ⟨i, rfl, h1, h2⟩ := hd.int rfl
    obtain ⟨j, rfl, h3, h4⟩ := he.int rfl
    cases q
    rw [bi_max2]
    refine hP _ ⟨_, rfl, _, rfl, ?_⟩
    split <;> exact .int (by omega) (by omega)
  · obtain ⟨d, e, rfl, hd, he⟩ := h.two
    obtain ⟨i, rfl, h1, h2⟩ := hd.int rfl
    obtain ⟨j, rfl, h3, h4⟩ := he.int rfl
    cases q
    rw [bi_min2]
    refine hP _ ⟨_, rfl, _, rfl, ?_⟩
    split <;> exact .int (by omega) (by omega)
  · cases q
def aIx (sto : List CT) (x i : AV) : Option AR := match contA sto x, i with
  | some (_, c), .v (.int a b) => (c.at a b).map fun t => .v (.v t)
  | _, _ => none
theorem aIx_ok {x i : AV} {r : AR} {dx di : D} {P : D → Prop} (G : GmA B Own M0 sto ρ M) (q : aIx sto x i = some r) (hx : InA b ρ x dx) (hi : InA b ρ i di) (hP : ∀ d, InR b ρ r (.val d) → P d) : ixW dx di M P := by
  unfold aIx at q
  split at q
  · rename_i t c a e hc
    obtain ⟨u, hu, rfl⟩ := Option.map_eq_some_iff.mp q
    obtain ⟨ps, hp, hs, _⟩ := cont_ok G hx hc
    obtain ⟨k, rfl, h1, h2⟩ := hi.int rfl
    obtain ⟨p, e1, e2⟩ := hp.at hu h1 h2
    exact ⟨_, k, _, hs, rfl, e1, hP _ ⟨_, rfl, _, rfl, e2⟩⟩
  · cases q
def aSl (sto : List CT) (x : AV) (lo hi : Option (Int × Int)) : Option AR := match contA sto x with
  | some (true, c) => (c.cut lo hi).map fun d => .v (.v (d.ty true))
  | some (false, c) => (c.cut lo hi).map .fl
  | none => none
theorem slW_seq {M : Mem} {x : D} {ds : List D} {lo hi : Option Int} {P : Rs → Prop} (h : seqOf M x = some ds) (n : ∀ ps, x ≠ .v (.tuple ps)) (hP : P (.fl (cutD ds lo hi))) : slW x lo hi M P := by
  have w : ∃ ds, seqOf M x = some ds ∧ P (.fl (cutD ds lo hi)) := ⟨ds, h, hP⟩
  unfold slW
  split
  · exact absurd rfl (n _)
  · exact w
theorem not_tup {ps : List PyData} {d : D} (h : d = .v (mkS false ps) ∨ ∃ n, d = .loc n) : ∀ qs, d ≠ .v (.tuple qs) := by
  intro qs e
  rcases h with h | ⟨n, h⟩ <;> (rw [h] at e; cases e)
theorem aSl_ok {x : AV} {lo hi : Option (Int × Int)} {l h : Option Int} {r : AR} {dx : D} {P : Rs → Prop} (G : GmA B Own M0 sto ρ M) (q : aSl sto x lo hi = some r) (hx : InA b ρ x dx) (h1 : InO lo l) (h2 : InO hi h) (hP : ∀ rs, InR b ρ r rs → P rs) : slW dx l h M P := by
  unfold aSl at q
  split at q
  · rename_i c hc
    obtain ⟨u, hu, rfl⟩ := Option.map_eq_some_iff.mp q
    obtain ⟨ps, hp, _, _, _, e1, _⟩ := cont_ok G hx hc
    rw [e1 rfl, sw_tup]
    exact hP _ ⟨_, rfl, _, rfl, (hp.cut hu h1 h2).ty true⟩
  · rename_i c hc
    obtain ⟨u, hu, rfl⟩ := Option.map_eq_some_iff.mp q
    obtain ⟨ps, hp, hs, _, _, _, e1⟩ := cont_ok G hx hc
    refine slW_seq hs (not_tup e1) ?_
    rw [cutD_map]
    exact hP _ ⟨_, rfl, hp.cut hu h1 h2⟩
  · cases q
def aRev (sto : List CT) (x : AV) : Option AR := match contA sto x with
  | some (true, c) => some (.v (.v (c.rev.ty true)))
  | some (false, c) => some (.fl c.rev)
  | none => none
theorem revW_seq {M : Mem} {x : D} {ds : List D} {P : Rs → Prop} (h : lstOf M x = some ds) (n : ∀ ps, x ≠ .v (.tuple ps)) (hP : P (.fl ds.reverse)) : revW x M P := by
  have w : ∃ ds, lstOf M x = some ds ∧ P (.fl ds.reverse) := ⟨ds, h, hP⟩
  unfold revW
  split
  · exact absurd rfl (n _)
  · exact w
theorem aRev_ok {x : AV} {r : AR} {dx : D} {P : Rs → Prop} (G : GmA B Own M0 sto ρ M) (q : aRev sto x = some r) (hx : InA b ρ x dx) (hP : ∀ rs, InR b ρ r rs → P rs) : revW dx M P := by
  unfold aRev at q
  split at q
  · rename_i c hc
    cases q
    obtain ⟨ps, hp, _, _, _, e1, _⟩ := cont_ok G hx hc
    rw [e1 rfl, rw_tup]
    exact hP _ ⟨_, rfl, _, rfl, hp.rev.ty true⟩
  · rename_i c hc
    cases q
    obtain ⟨ps, hp, _, hs, _, _, e1⟩ := cont_ok G hx hc
    refine revW_seq (hs rfl) (not_tup e1) ?_
    rw [← List.map_reverse]
    exact hP _ ⟨_, rfl, hp.rev⟩
  · cases q
mutual
def tyP : PyData → Option Ty
  | .none => some .none
  | .bool b => some (.bl (some b))
  | .int i => some (.int i i)
  | .str x => if (x.cps.toList.all fun c => decide (c < 16 ^ 8)) = true then some (.str x.cps.size) else Option.none
  | .tuple ps => (tyPs ps).map (.ex true)
  | .list ps => (tyPs ps).map (.ex false)
  | .dict _ => Option.none
def tyPs : List PyData → Option (List Ty)
  | [] => some []
  | p :: ps => match tyP p, tyPs ps with
    | some t, some ts => some (t :: ts)
    | _, _ => Option.none
end
mutual
theorem tyP_ok : ∀ {p : PyData} {t : Ty}, tyP p = some t → In t p
  | .none, _, e => by unfold tyP at e; cases e; exact .none
  | .bool b, _, e => by unfold tyP at e; cases e; exact .bl fun c h => by cases h; rfl
  | .int i, _, e => by unfold tyP at e; cases e; exact .int (Int.le_refl _) (Int.le_refl _)
  | .str x, _, e => by
    unfold tyP at e
    split at e
    · rename_i h; cases e; exact .str h (Nat.le_refl _)
    · cases e
  | .tuple ps, _, e => by
    unfold tyP at e
    obtain ⟨ts, h, rfl⟩ := Option.map_eq_some_iff.mp e
    exact .ex rfl (tyPs_ok h)
  | .list ps, _, e => by
    unfold tyP at e
    obtain ⟨ts, h, rfl⟩ := Option.map_eq_some_iff.mp e
    exact .ex rfl (tyPs_ok h)
  | .dict _, _, e => by unfold tyP at e; cases e
theorem tyPs_ok : ∀ {ps : List PyData} {ts : List Ty}, tyPs ps = some ts → InL ts ps
  | [], _, e => by unfold tyPs at e; cases e; exact .nil
  | p :: ps, _, e => by
    unfold tyPs at e
    split at e
    · rename_i h1 h2; cases e; exact .cons (tyP_ok h1) (tyPs_ok h2)
    · cases e
end
def jnC (c d : CT) : Option CT := match JN (c.ty true) (d.ty true) with
  | some t => match t.ct with
    | some (true, e) => some e
    | _ => none
  | none => none
theorem mkS_inj {ps qs : List PyData} {t : Bool} (h : mkS t ps = mkS t qs) : ps = qs := by
  cases t <;> (unfold mkS at h; injection h)
theorem jnC_ok {c d e : CT} {ps : List PyData} (q : jnC c d = some e) : (InC c ps → InC e ps) ∧ (InC d ps → InC e ps) := by
  unfold jnC at q
  split at q
  · rename_i t ht
    split at q
    · rename_i e' he
      cases q
      have g : In t (mkS true ps) → InC e ps := fun h => by
        obtain ⟨qs, e1, e2⟩ := h.ct he
        rw [mkS_inj e1]; exact e2
      exact ⟨fun h => g ((JN_ok _ _ _ ht _).1 (h.ty true)), fun h => g ((JN_ok _ _ _ ht _).2 (h.ty true))⟩
    · cases q
  · cases q
def jnR (r s : AR) : Option AR := match r, s with
  | .v (.v t), .v (.v u) => (JN t u).map fun w => .v (.v w)
  | .fl c, .fl d => (jnC c d).map .fl
  | _, _ => none
theorem jnR_ok {r s w : AR} {rs : Rs} (q : jnR r s = some w) : (InR b ρ r rs → InR b ρ w rs) ∧ (InR b ρ s rs → InR b ρ w rs) := by
  unfold jnR at q
  split at q
  · obtain ⟨t, ht, rfl⟩ := Option.map_eq_some_iff.mp q
    exact ⟨fun ⟨d, e, p, e2, h⟩ => ⟨d, e, p, e2, (JN_ok _ _ _ ht _).1 h⟩, fun ⟨d, e, p, e2, h⟩ => ⟨d, e, p, e2, (JN_ok _ _ _ ht _).2 h⟩⟩
  · obtain ⟨t, ht, rfl⟩ := Option.map_eq_some_iff.mp q
    exact ⟨fun ⟨ps, e, h⟩ => ⟨ps, e, (jnC_ok ht).1 h⟩, fun ⟨ps, e, h⟩ => ⟨ps, e, (jnC_ok ht).2 h⟩⟩
  · cases q
end
end Pd

namespace Pd
open PySem L2

def allV : List AV → Option (List Ty)
  | [] => some []
  | a :: as => match a, allV as with
    | .v t, some ts => some (t :: ts)
    | _, _ => none
def aTs (f : Tg → Ty → List AV → Option (List AV)) : List Tg → List Ty → List AV → Option (List AV)
  | [], [], ge => some ge
  | g :: gs, t :: ts, ge => match f g t ge with
    | some ge1 => aTs f gs ts ge1
    | none => none
  | _, _, _ => none
def aT : Nat → Tg → Ty → List AV → Option (List AV)
  | 0, _, _, _ => none
  | n + 1, g, t, ge => match g with
    | .var i => if i < ge.length then some (ge.set i (.v t)) else none
    | .tup gs => match t.ct with
      | some (true, .ex us) => aTs (aT n) gs us ge
      | some (true, .sq e lo hi) => if lo = gs.length ∧ hi = gs.length then aTs (aT n) gs (List.replicate gs.length e) ge else none
      | _ => none
    | .sub _ _ => none
def wipeG (ge : List AV) : List Nat → List AV
  | [] => ge
  | i :: r => (wipeG ge r).set i .no
def rngC (a1 a2 b1 b2 : Int) : Option CT :=
  if -(2 ^ 62) ≤ a1 ∧ a2 < 2 ^ 62 ∧ -(2 ^ 62) ≤ b1 ∧ b2 < 2 ^ 62 then
    (if a1 = a2 ∧ b1 = b2 ∧ b1 - a1 ≤ 300 then some (.ex ((List.range (b1 - a1).toNat).map fun (k : Nat) => .int (a1 + k) (a1 + k))) else some (.sq (.int a1 (b2 - 1)) (b1 - a2).toNat (b2 - a1).toNat))
  else none
def enumT (k : Nat) : List Ty → List Ty
  | [] => []
  | t :: ts => .ex true [.int k k, t] :: enumT (k + 1) ts
def enumC : CT → CT
  | .ex ts => .ex (enumT 0 ts)
  | .sq e lo hi => .sq (.ex true [.int 0 hi, e]) lo hi
def zipC (c d : CT) : Option CT := match c, d with
  | .ex ts, .ex us => some (.ex (List.zipWith (fun t u => .ex true [t, u]) ts us))
  | c, d => match c.el, d.el with
    | some e, some f => some (.sq (.ex true [e, f]) (min c.lo d.lo) (min c.hi d.hi))
    | _, _ => none
def aSrc (f : E → Option AR) (sto : List CT) : Src → Option CT
  | .seq e => match f e with
    | some r => (contA sto r.as).map (·.2)
    | none => none
  | .rng x y => match f x, f y with
    | some r, some s => match r.as, s.as with
      | .v (.int a1 a2), .v (.int b1 b2) => rngC a1 a2 b1 b2
      | _, _ => none
    | _, _ => none
  | .enum e => match f e with
    | some r => (contA sto r.as).map fun c => enumC c.2
    | none => none
  | .zip2 x y => match f x, f y with
    | some r, some s => match contA sto r.as, contA sto s.as with
      | some (_, c), some (_, d) => zipC c d
      | _, _ => none
    | _, _ => none
def aOpt (f : E → Option AR) : Option E → Option (Option (Int × Int))
  | none => some none
  | some e => match f e with
    | some r => match r.as with
      | .v (.int a b) => some (some (a, b))
      | _ => none
    | none => none
def blA (a : AV) : Option (Option Bool) := match a with
  | .v (.bl k) => some k
  | _ => none
def aCompI (f : List AV → E → Option AR) (ge : List AV) (t : Tg) (ifs : Option E) (elt : E) (it : Ty) : Option Ty := match aT 8 t it ge with
  | none => none
  | some ge1 => match (match ifs with
      | none => true
      | some c => match f ge1 c with
        | some r => (blA r.as).isSome
        | none => false) with
    | false => none
    | true => match f ge1 elt with
      | some r => match r.as with
        | .v u => some u
        | _ => none
      | none => none
def aComp (f : List AV → E → Option AR) (sto : List CT) (ge : List AV) (own : List Nat) (t : Tg) (src : Src) (ifs : Option E) (elt : E) : Option AR := match aSrc (f ge) sto src with
  | none => none
  | some c => if c.hi ≤ 100000 then match c, ifs with
      | .ex ts, none => (mapO (aCompI f (wipeG ge own) t none elt) ts).map fun rs => .fl (.ex rs)
      | c, ifs => match c.el with
        | some .bot => if c.hi = 0 then some (.fl (.ex [])) else none
        | some e => (aCompI f (wipeG ge own) t ifs elt e).map fun r => .fl (.sq r (if ifs.isSome then 0 else c.lo) c.hi)
        | none => none
    else none
def aE (F : Sigs) : Nat → List AV → List CT → E → Option AR
  | 0, _, _, _ => none
  | n + 1, ge, sto, e => match e with
    | .var i => match ge[i]? with
      | some .no => none
      | some a => some (.v a)
      | none => none
    | .cst p => (tyP p).map fun t => .v (.v t)
    | .tup es => match mapO (aE F n ge sto) es with
      | some rs => match allV (rs.map AR.as) with
        | some ts => if ts.length ≤ 1000 then some (.v (.v (.ex true ts))) else none
        | none => none
      | none => none
    | .lst es => match mapO (aE F n ge sto) es with
      | some rs => match allV (rs.map AR.as) with
        | some ts => if ts.length ≤ 1000 then some (.fl (.ex ts)) else none
        | none => none
      | none => none
    | .dnew => some .fd
    | .bin o x y => match aE F n ge sto x, aE F n ge sto y with
      | some r, some s => aBin sto o r.as s.as
      | _, _ => none
    | .un o x => match aE F n ge sto x with
      | some r => aUn o r.as
      | none => none
    | .cmp o x y => match aE F n ge sto x, aE F n ge sto y with
      | some r, some s => (aCmp sto o r.as s.as).map fun k => .v (.v (.bl k))
      | _, _ => none
    | .chain o1 o2 x y z => match aE F n ge sto x, aE F n ge sto y, aE F n ge sto z with
      | some r, some s, some u => match aCmp sto o1 r.as s.as, aCmp sto o2 s.as u.as with
        | some k, some l => some (.v (.v (.bl (if k = some true then l else if k = some false then some false else none))))
        | _, _ => none
      | _, _, _ => none
    | .isN x => match aE F n ge sto x with
      | some r => match r.as with
        | .v t => some (.v (.v (.bl (isNT t))))
        | _ => none
      | none => none
    | .notN x => match aE F n ge sto x with
      | some r => match r.as with
        | .v t => some (.v (.v (.bl ((isNT t).map not))))
        | _ => none
      | none => none
    | .and x y => match aE F n ge sto x with
      | some r => match blA r.as with
        | some (some false) => some (.v (.v (.bl (some false))))
        | some (some true) => aE F n ge sto y
        | some none => match aE F n ge sto y with
          | some s => jnR (.v (.v (.bl (some false)))) s
          | none => none
        | none => none
      | none => none
    | .or x y => match aE F n ge sto x with
      | some r => match blA r.as with
        | some (some true) => some (.v (.v (.bl (some true))))
        | some (some false) => aE F n ge sto y
        | some none => match aE F n ge sto y with
          | some s => jnR (.v (.v (.bl (some true)))) s
          | none => none
        | none => none
      | none => none
    | .ite c x y => match aE F n ge sto c with
      | some r => match blA r.as with
        | some (some true) => aE F n ge sto x
        | some (some false) => aE F n ge sto y
        | some none => match aE F n ge sto x, aE F n ge sto y with
          | some s, some u => jnR s u
          | _, _ => none
        | none => none
      | none => none
    | .isi x T => match aE F n ge sto x with
      | some r => match r.as with
        | .v t => (isiT t T).map fun k => .v (.v (.bl k))
        | _ => none
      | none => none
    | .call f es ks => match mapO (aE F n ge sto) es with
      | some rs => if (permute (rs.map AR.as) ks).all AV.plain = true then (F f (permute (rs.map AR.as) ks)).map fun t => .v (.v t) else none
      | none => none
    | .bi f es => match mapO (aE F n ge sto) es with
      | some rs => aBI sto f (rs.map AR.as)
      | none => none
    | .ix x i => match aE F n ge sto x, aE F n ge sto i with
      | some r, some s => aIx sto r.as s.as
      | _, _ => none
    | .sl x lo hi => match aE F n ge sto x, aOpt (aE F n ge sto) lo, aOpt (aE F n ge sto) hi with
      | some r, some l, some h => aSl sto r.as l h
      | _, _, _ => none
    | .rev x => match aE F n ge sto x with
      | some r => aRev sto r.as
      | none => none
    | .comp own t src ifs elt => aComp (fun ge e => aE F n ge sto e) sto ge own t src ifs elt
    | _ => none

section
variable {B : Mem → Prop} {Own : Nat → Prop} {b : Nat} {M0 : Mem} {ρ : Nat → Nat} {sto : List CT} {M : Mem} {T : Tb} {F : Sigs} {X : XW} {env : Env} {ge : List AV} {n : Nat}
theorem allV_ok : ∀ {as : List AV} {ts : List Ty} {ds : List D}, allV as = some ts → InAs b ρ as ds → ∃ ps : List PyData, ds = ps.map D.v ∧ InL ts ps
  | [], _, [], h, _ => by unfold allV at h; cases h; exact ⟨[], rfl, .nil⟩
  | a :: as, _, d :: ds, h, q => by
    unfold allV at h
    split at h
    · rename_i t ts h2
      cases h
      obtain ⟨p, rfl, hp⟩ := q.1
      obtain ⟨ps, rfl, hps⟩ := allV_ok h2 q.2
      exact ⟨p :: ps, rfl, .cons hp hps⟩
    · cases h
  | [], _, _ :: _, _, q => q.elim
  | _ :: _, _, [], _, q => q.elim
theorem Ge.set {i : Nat} {a : AV} {d : D} (G : Ge b ρ n ge env) (h : InA b ρ a d) (hb : ∀ j, a = .box j → j < n) : Ge b ρ n (ge.set i a) (setE env i d) := by
  refine ⟨by unfold setE; rw [List.length_set, List.length_set]; exact G.1, fun j c e => ?_⟩
  unfold setE
  by_cases q : j = i
  · subst q
    have hj : j < ge.length := by
      have := (List.getElem?_eq_some_iff.mp e).1
      rw [List.length_set] at this; exact this
    rw [List.getElem?_set_self hj] at e
    cases e
    exact .inr ⟨hb, d, by rw [List.getElem?_set_self (by rw [G.1]; exact hj)], h⟩
  · rw [List.getElem?_set_ne (Ne.symm q)] at e ⊢
    exact G.2 j c e
theorem Ge.forget {i : Nat} (G : Ge b ρ n ge env) (o : Option D) : Ge b ρ n (ge.set i .no) (env.set i o) := by
  refine ⟨by rw [List.length_set, List.length_set]; exact G.1, fun j c e => ?_⟩
  by_cases q : j = i
  · subst q
    have hj : j < ge.length := by
      have := (List.getElem?_eq_some_iff.mp e).1
      rw [List.length_set] at this; exact this
    rw [List.getElem?_set_self hj] at e
    cases e
    exact .inl rfl
  · rw [List.getElem?_set_ne (Ne.symm q)] at e ⊢
    exact G.2 j c e
theorem Ge.wipe (G : Ge b ρ n ge env) : ∀ own : List Nat, Ge b ρ n (wipeG ge own) (wipeE env own)
  | [] => G
  | i :: r => (Ge.wipe G r).forget none
theorem aTs_len {f : Tg → Ty → List AV → Option (List AV)} : ∀ {gs : List Tg} {ts : List Ty} {ge ge1 : List AV}, aTs f gs ts ge = some ge1 → gs.length = ts.length
  | [], [], _, _, _ => rfl
  | _ :: gs, _ :: ts, _, _, q => by
    unfold aTs at q
    split at q
    · exact congrArg (· + 1) (aTs_len q)
    · cases q
  | [], _ :: _, _, _, q => by cases q
  | _ :: _, [], _, _, q => by cases q
theorem aT_ok : ∀ (k : Nat) {g : Tg} {t : Ty} {ge ge1 : List AV} {env : Env} {p : PyData} {M : Mem} {P : Env → Mem → Prop}, aT k g t ge = some ge1 → Ge b ρ n ge env → In t p → (∀ env1, Ge b ρ n ge1 env1 → P env1 M) → evT T X g (.v p) env M P
  | 0, _, _, _, _, _, _, _, _, q, _, _, _ => by cases q
  | k + 1, g, t, ge, ge1, env, p, M, P, q, G, hp, hP => by
    have list : ∀ {gs : List Tg} {ts : List Ty} {ge ge1 : List AV} {env : Env} {ps : List PyData} {P : Env → Mem → Prop}, aTs (aT k) gs ts ge = some ge1 → Ge b ρ n ge env → InL ts ps → (∀ env1, Ge b ρ n ge1 env1 → P env1 M) → evTs T X gs (ps.map D.v) env M P := by
      intro gs
      induction gs with
      | nil => intro ts ge ge1 env ps P q G h hP; cases ts with
        | nil => cases h; cases q; exact hP _ G
        | cons _ _ => cases q
      | cons g gs ih => intro ts ge ge1 env ps P q G h hP; cases ts with
        | nil => cases q
        | cons t ts =>
          cases h with
          | cons hp hr =>
            unfold aTs at q
            split at q
            · rename_i ge2 h2
              unfold evTs
              exact ⟨_, _, rfl, aT_ok k h2 G hp fun env1 h1 => ih q h1 hr hP⟩
            · cases q
    unfold aT at q
    cases g with
    | var i =>
      dsimp only at q
      split at q
      · rename_i hi
        cases q
        unfold evT
        exact ⟨by rw [G.1]; exact hi, hP _ (G.set ⟨p, rfl, hp⟩ fun j e => by cases e)⟩
      · cases q
    | tup gs =>
      dsimp only at q
      split at q
      · rename_i us hc
        obtain ⟨ps, rfl, hps⟩ := hp.ct hc
        unfold evT
        exact ⟨ps, rfl, by rw [← InL.len hps, ← aTs_len q], list q G hps hP⟩
      · rename_i e lo hi hc
        split at q
        · rename_i hl
          obtain ⟨ps, rfl, hps⟩ := hp.ct hc
          have hl2 : ps.length = gs.length := by
            have := hps.2; omega
          have hr : InL (List.replicate gs.length e) ps := by
            rw [← hl2]
            have g : ∀ qs : List PyData, (∀ z, z ∈ qs → In e z) → InL (List.replicate qs.length e) qs := by
              intro qs
              induction qs with
              | nil => exact fun _ => .nil
              | cons q qs ih => exact fun h => .cons (h q (List.mem_cons_self ..)) (ih fun z hz => h z (List.mem_cons_of_mem _ hz))
            exact g ps hps.1
          unfold evT
          exact ⟨ps, rfl, hl2, list q G hr hP⟩
        · cases q
      · cases q
    | sub _ _ => cases q
section
variable {gd : Mem → Prop} {asg : D → Env → Mem → (Env → Mem → Prop) → Prop} {tst : Env → Mem → (Bool → Mem → Prop) → Prop} {elt : Env → Mem → (D → Mem → Prop) → Prop} {Q : List D → Mem → Prop}
theorem comp_ex (g : Ty → Option Ty) (hgd : ∀ M', SameO Own M M' → gd M')
    (hb : ∀ t r, g t = some r → ∀ p M' (k : D → Mem → Prop) (k0 : Mem → Prop), In t p → B M' → SameO Own M M' → (∀ q M2, In r q → B M2 → SameO Own M' M2 → k (.v q) M2) → asg (.v p) env M' fun env1 M1 => tst env1 M1 fun c M2 => if c = true then elt env1 M2 k else k0 M2) :
    ∀ {ts rts : List Ty} {ps acc : List PyData} {M1 : Mem}, mapO g ts = some rts → InL ts ps → acc.length + ps.length ≤ sizeLine → B M1 → SameO Own M M1 → (∀ rs M2, InL rts rs → B M2 → SameO Own M M2 → Q ((acc ++ rs).map D.v) M2) → compW gd asg tst elt env Q (ps.map D.v) (acc.map D.v) M1
  | [], _, _, acc, M1, q, .nil, hl, hB, hs, hQ => by
    cases q
    exact ⟨hgd _ hs, by simpa using hl, by simpa using hQ [] M1 .nil hB hs⟩
  | t :: ts, rts, _, acc, M1, q, .cons (p := p) (ps := ps) hp hr, hl, hB, hs, hQ => by
    unfold mapO at q
    split at q
    · rename_i r rs h1 h2
      cases q
      rw [List.length_cons] at hl
      refine ⟨hgd _ hs, by rw [List.length_map]; omega, hb t r h1 p M1 _ _ hp hB hs fun z M2 hz hB2 hs2 => ?_⟩
      have e : acc.map D.v ++ [D.v z] = (acc ++ [z]).map D.v := by rw [List.map_append]; rfl
      rw [e]
      refine comp_ex g hgd hb h2 hr (by rw [List.length_append]; simp; omega) hB2 (hs.trans hs2) fun ws M3 hw hB3 hs3 => ?_
      rw [List.append_assoc]
      exact hQ (z :: ws) M3 (.cons hz hw) hB3 hs3
    · cases q
theorem comp_sq {e r : Ty} (fil : Bool) (hgd : ∀ M', SameO Own M M' → gd M')
    (hb : ∀ p M' (k : D → Mem → Prop) (k0 : Mem → Prop), In e p → B M' → SameO Own M M' → (∀ q M2, In r q → B M2 → SameO Own M' M2 → k (.v q) M2) → (∀ M2, fil = true → B M2 → SameO Own M' M2 → k0 M2) → asg (.v p) env M' fun env1 M1 => tst env1 M1 fun c M2 => if c = true then elt env1 M2 k else k0 M2) :
    ∀ {ps acc : List PyData} {M1 : Mem}, (∀ z, z ∈ ps → In e z) → acc.length + ps.length ≤ sizeLine → B M1 → SameO Own M M1 → (∀ rs M2, (∀ z, z ∈ rs → In r z) → rs.length ≤ ps.length → (fil = false → rs.length = ps.length) → B M2 → SameO Own M M2 → Q ((acc ++ rs).map D.v) M2) → compW gd asg tst elt env Q (ps.map D.v) (acc.map D.v) M1
  | [], acc, M1, _, hl, hB, hs, hQ => ⟨hgd _ hs, by simpa using hl, by simpa using hQ [] M1 (by simp) (Nat.le_refl _) (fun _ => rfl) hB hs⟩
  | p :: ps, acc, M1, hp, hl, hB, hs, hQ => by
    rw [List.length_cons] at hl
    refine ⟨hgd _ hs, by rw [List.length_map]; omega, hb p M1 _ _ (hp p (List.mem_cons_self ..)) hB hs (fun z M2 hz hB2 hs2 => ?_) fun M2 hf hB2 hs2 => ?_⟩
    · have e : acc.map D.v ++ [D.v z] = (acc ++ [z]).map D.v := by rw [List.map_append]; rfl
      rw [e]
      refine comp_sq fil hgd hb (fun z hz => hp z (List.mem_cons_of_mem _ hz)) (by rw [List.length_append]; simp; omega) hB2 (hs.trans hs2) fun ws M3 hw h1 h2 hB3 hs3 => ?_
      rw [List.append_assoc]
      refine hQ (z :: ws) M3 (fun y hy => ?_) (by simp only [List.length_cons]; omega) (fun hf => by simp only [List.length_cons]; rw [h2 hf]) hB3 hs3
      rcases List.mem_cons.mp hy with rfl | hy
      · exact hz
      · exact hw y hy
    · exact comp_sq fil hgd hb (fun z hz => hp z (List.mem_cons_of_mem _ hz)) (by omega) hB2 (hs.trans hs2) fun ws M3 hw h1 h2 hB3 hs3 => hQ ws M3 hw (by rw [List.length_cons]; omega) (fun hf' => by rw [hf] at hf'; cases hf') hB3 hs3
end
theorem enumT_ok : ∀ {ts : List Ty} {ps : List PyData} (k : Nat), InL ts ps → InL (enumT k ts) ((ps.zipIdx k).map fun q => PyData.tuple [.int (q.2 : Int), q.1])
  | _, _, _, .nil => .nil
  | _, _, k, .cons h r => .cons (.ex (ps := [.int k, _]) rfl (.cons (.int (Int.le_refl _) (Int.le_refl _)) (.cons h .nil))) (enumT_ok (k + 1) r)
theorem enumC_ok {c : CT} {ps : List PyData} (h : InC c ps) : InC (enumC c) ((ps.zipIdx 0).map fun q => PyData.tuple [.int (q.2 : Int), q.1]) := by
  cases c with
  | ex ts => exact enumT_ok 0 h
  | sq e lo hi =>
    refine ⟨fun z hz => ?_, by rw [List.length_map, List.length_zipIdx]; exact h.2.1, by rw [List.length_map, List.length_zipIdx]; exact h.2.2⟩
    obtain ⟨q, hq, rfl⟩ := List.mem_map.mp hz
    have h1 := List.snd_lt_of_mem_zipIdx hq
    have h2 : q.1 ∈ ps := List.fst_mem_of_mem_zipIdx hq
    have h3 : ps.length ≤ hi := h.2.2
    exact .ex (ps := [.int q.2, q.1]) rfl (.cons (.int (by omega) (by omega)) (.cons (h.1 _ h2) .nil))
theorem zipP_map : ∀ (ps qs : List PyData), zipP (ps.map D.v) (qs.map D.v) = some (List.zipWith (fun p q => PyData.tuple [p, q]) ps qs)
  | [], _ => by rw [List.map_nil, List.zipWith_nil_left]; unfold zipP; rfl
  | _ :: _, [] => rfl
  | p :: ps, q :: qs => by
    show (zipP (ps.map D.v) (qs.map D.v)).map _ = _
    rw [zipP_map ps qs]; rfl
theorem zipC_ok {c d e : CT} {ps qs : List PyData} (h1 : InC c ps) (h2 : InC d qs) (q : zipC c d = some e) : InC e (List.zipWith (fun p q => PyData.tuple [p, q]) ps qs) := by
  have gen : (match c.el, d.el with
    | some e, some f => some (CT.sq (.ex true [e, f]) (min c.lo d.lo) (min c.hi d.hi))
    | _, _ => none) = some e → InC e (List.zipWith (fun p q => PyData.tuple [p, q]) ps qs) := fun q => by
    split at q
    · rename_i x y hx hy
      cases q
      have l1 := h1.len
      have l2 := h2.len
      refine ⟨fun z hz => ?_, by rw [List.length_zipWith]; omega, by rw [List.length_zipWith]; omega⟩
      rw [← List.map_uncurry_zip_eq_zipWith] at hz
      obtain ⟨⟨a, b⟩, hw, rfl⟩ := List.mem_map.mp hz
      have := List.of_mem_zip hw
      exact .ex (ps := [a, b]) rfl (.cons (h1.el hx _ this.1) (.cons (h2.el hy _ this.2) .nil))
    · cases q
  cases c with
  | sq _ _ _ => cases d <;> exact gen q
  | ex ts => cases d with
    | sq _ _ _ => exact gen q
    | ex us =>
      cases q
      have g : ∀ {ts us : List Ty} {ps qs : List PyData}, InL ts ps → InL us qs → InL (List.zipWith (fun t u => Ty.ex true [t, u]) ts us) (List.zipWith (fun p q => PyData.tuple [p, q]) ps qs) := by
        intro ts us ps qs h1 h2
        induction h1 using InL.rec (motive_1 := fun _ _ _ => True) generalizing us qs with
        | nil => simp; exact .nil
        | cons a r _ ih =>
          cases h2 with
          | nil => exact .nil
          | cons b s => exact .cons (.ex (ps := [_, _]) rfl (.cons a (.cons b .nil))) (ih s)
        | _ => trivial
      exact g h1 h2
end
end Pd

namespace Pd
open PySem L2
section
variable {B : Mem → Prop} {Own : Nat → Prop} {b : Nat} {M0 : Mem} {T : Tb} {F : Sigs}
/-- what is right of a way to type an expression -/
def EOk (B : Mem → Prop) (Own : Nat → Prop) (b : Nat) (M0 : Mem) (T : Tb) (sto : List CT) (f : List AV → E → Option AR) : Prop := ∀ (e : E) (ge : List AV) (r : AR), f ge e = some r → ∀ (ρ : Nat → Nat) (env : Env) (M : Mem) (X : XW) (P : Rs → Mem → Prop),
  Ge b ρ sto.length ge env → GmA B Own M0 sto ρ M → (∀ rs M', InR b ρ r rs → B M' → SameO Own M M' → P rs M') → evR T X e env M P
variable {sto : List CT} {f : List AV → E → Option AR}
theorem EOk.val (h : EOk B Own b M0 T sto f) {e : E} {ge : List AV} {r : AR} (q : f ge e = some r) {ρ : Nat → Nat} {env : Env} {M : Mem} {X : XW} {P : D → Mem → Prop} (g : Ge b ρ sto.length ge env) (G : GmA B Own M0 sto ρ M)
    (hP : ∀ d M', InA b ρ r.as d → B M' → SameO Own M M' → P d M') : evR T X e env M (asVal P) := h e ge r q ρ env M X _ g G fun rs M' hr hB hs => hr.as fun d hd => hP d M' hd hB hs
theorem EOk.list (L : Bl B Own M0) (h : EOk B Own b M0 T sto f) {ge : List AV} {ρ : Nat → Nat} {env : Env} {X : XW} (g : Ge b ρ sto.length ge env) : ∀ {es : List E} {rs : List AR} {M : Mem} {P : List D → Mem → Prop}, mapO (f ge) es = some rs → GmA B Own M0 sto ρ M →
    (∀ ds M', InAs b ρ (rs.map AR.as) ds → B M' → SameO Own M M' → P ds M') → evL T X es env M P
  | [], _, M, P, q, G, hP => by
    cases q
    exact hP [] M trivial G.bag SameO.refl
  | e :: es, rs, M, P, q, G, hP => by
    unfold mapO at q
    split at q
    · rename_i r rs' h1 h2
      cases q
      unfold evL
      refine h.val h1 g G fun d M' hd hB hs => ?_
      exact EOk.list L h g h2 (G.move L hB hs) fun ds M2 hds hB2 hs2 => hP (d :: ds) M2 ⟨hd, hds⟩ hB2 (hs.trans hs2)
    · cases q
theorem EOk.opt (L : Bl B Own M0) (h : EOk B Own b M0 T sto f) {ge : List AV} {ρ : Nat → Nat} {env : Env} {X : XW} (g : Ge b ρ sto.length ge env) {o : Option E} {r : Option (Int × Int)} {M : Mem} {P : Option Int → Mem → Prop} (q : aOpt (f ge) o = some r) (G : GmA B Own M0 sto ρ M)
    (hP : ∀ i M', InO r i → B M' → SameO Own M M' → P i M') : evO T X o env M P := by
  unfold aOpt at q
  cases o with
  | none =>
    cases q
    exact hP none M trivial G.bag SameO.refl
  | some e =>
    dsimp only at q
    split at q
    · rename_i s hs
      split at q
      · rename_i x y hxy
        cases q
        unfold evO
        refine h.val hs g G fun d M' hd hB hsm => ?_
        obtain ⟨k, rfl, h1, h2⟩ := hd.int hxy
        exact ⟨k, rfl, hP (some k) M' ⟨h1, h2⟩ hB hsm⟩
      · cases q
    · cases q
theorem blA_ok {a : AV} {k : Option Bool} {ρ : Nat → Nat} {d : D} (q : blA a = some k) (h : InA b ρ a d) : ∃ c : Bool, d = .v (.bool c) ∧ ∀ y, k = some y → c = y := by
  unfold blA at q
  split at q
  · cases q
    obtain ⟨p, rfl, hp⟩ := h
    cases hp with
    | bl h => exact ⟨_, rfl, h⟩
  · cases q
theorem guard_ok {a : AV} {ρ : Nat → Nat} {d : D} {t : Bool} {c : CT} {M : Mem} (L : Bl B Own M0) (G : GmA B Own M0 sto ρ M) (h : InA b ρ a d) (q : contA sto a = some (t, c)) : ∀ p, p ∈ guardOf M d → ∀ M', SameO Own M M' → (M' p.1 = some (.lst p.2) ∨ M' p.1 = some (.fz p.2)) := by
  cases a with
  | v u =>
    obtain ⟨p, rfl, _⟩ := h
    intro p hp
    cases hp
  | box i =>
    obtain ⟨c', e, _⟩ := Option.map_eq_some_iff.mp q
    obtain ⟨ps, h1, h2, h3⟩ := G.at' i c' e
    have hd : d = .loc (ρ i) := h
    subst hd
    intro p hp M' hs
    have e2 : guardOf M (.loc (ρ i)) = [(ρ i, ps.map D.v)] := by
      show (match M (ρ i) with | some (.lst ds) => [(ρ i, ds)] | some (.fz ds) => [(ρ i, ds)] | _ => []) = _
      rw [h1]
    rw [e2] at hp
    have : p = (ρ i, ps.map D.v) := by simpa using hp
    subst this
    exact .inl ((hs _ fun o => L.own0 _ o h3).trans h1)
  | bag => cases q
  | no => cases q
theorem EOk.src (L : Bl B Own M0) (h : EOk B Own b M0 T sto f) {ge : List AV} {ρ : Nat → Nat} {env : Env} {X : XW} (g : Ge b ρ sto.length ge env) {src : Src} {c : CT} {M : Mem} {P : Its → Mem → Prop} (q : aSrc (f ge) sto src = some c) (G : GmA B Own M0 sto ρ M)
    (hP : ∀ ps (it : Its) M', InC c ps → it.xs = ps.map D.v → (∀ M2, SameO Own M' M2 → it.ok M2) → B M' → SameO Own M M' → P it M') : evSrc T X src env M P := by
  cases src with
  | seq e =>
    unfold aSrc at q
    dsimp only at q
    split at q
    · rename_i r hr
      obtain ⟨⟨t, c'⟩, hc, rfl⟩ := Option.map_eq_some_iff.mp q
      unfold evSrc
      refine h.val hr g G fun d M' hd hB hs => ?_
      have G' := G.move L hB hs
      obtain ⟨ps, hp, hq, _⟩ := cont_ok G' hd hc
      exact ⟨_, hq, hP ps _ M' hp rfl (fun M2 h2 p hp => guard_ok L G' hd hc p hp M2 h2) hB hs⟩
    · cases q
  | rng x y =>
    unfold aSrc at q
    dsimp only at q
    split at q
    · rename_i r s hr hs'
      split at q
      · rename_i a1 a2 b1 b2 e1 e2
        unfold evSrc
        refine h.val hr g G fun d M' hd hB hs => ?_
        have G' := G.move L hB hs
        refine h.val hs' g G' fun d2 M2 hd2 hB2 hs2 => ?_
        obtain ⟨i, rfl, i1, i2⟩ := hd.int e1
        obtain ⟨j, rfl, j1, j2⟩ := hd2.int e2
        unfold rngC at q
        split at q
        · refine ⟨i, j, rfl, rfl, by omega, ?_⟩
          have em : ((List.range (j - i).toNat).map fun (k : Nat) => D.v (.int (i + k))) = ((List.range (j - i).toNat).map fun (k : Nat) => PyData.int (i + k)).map D.v := by rw [List.map_map]; rfl
          refine hP ((List.range (j - i).toNat).map fun (k : Nat) => PyData.int (i + k)) _ M2 ?_ em (fun M3 _ p hp => by cases hp) hB2 (hs.trans hs2)
          split at q <;> cases q
          · rename_i hh
            have ei : i = a1 := by omega
            have ej : j = b1 := by omega
            subst ei ej
            have gg : ∀ ks : List Nat, InL (ks.map fun (k : Nat) => Ty.int (i + k) (i + k)) (ks.map fun (k : Nat) => PyData.int (i + k)) := by
              intro ks
              induction ks with
              | nil => exact .nil
              | cons k ks ih => exact .cons (.int (Int.le_refl _) (Int.le_refl _)) ih
            exact gg _
          · refine ⟨fun z hz => ?_, by rw [List.length_map, List.length_range]; omega, by rw [List.length_map, List.length_range]; omega⟩
            obtain ⟨k, hk, rfl⟩ := List.mem_map.mp hz
            have := List.mem_range.mp hk
            exact .int (by omega) (by omega)
        · cases q
      · cases q
    · cases q
  | enum e =>
    unfold aSrc at q
    dsimp only at q
    split at q
    · rename_i r hr
      obtain ⟨⟨t, c'⟩, hc, rfl⟩ := Option.map_eq_some_iff.mp q
      unfold evSrc
      refine h.val hr g G fun d M' hd hB hs => ?_
      have G' := G.move L hB hs
      obtain ⟨ps, hp, hq, _⟩ := cont_ok G' hd hc
      exact ⟨_, _, hq, enum_data ps 0, hP _ _ M' (enumC_ok hp) rfl (fun M2 h2 p hp => guard_ok L G' hd hc p hp M2 h2) hB hs⟩
    · cases q
  | zip2 x y =>
    unfold aSrc at q
    dsimp only at q
    split at q
    · rename_i r s hr hs'
      split at q
      · rename_i t c1 u c2 hc1 hc2
        unfold evSrc
        refine h.val hr g G fun d M' hd hB hs => ?_
        have G' := G.move L hB hs
        refine h.val hs' g G' fun d2 M2 hd2 hB2 hs2 => ?_
        have G2 := G'.move L hB2 hs2
        obtain ⟨ps, hp, hq, _⟩ := cont_ok G2 hd hc1
        obtain ⟨ps2, hp2, hq2, _⟩ := cont_ok G2 hd2 hc2
        refine ⟨_, _, _, hq, hq2, zipP_map ps ps2, hP _ _ M2 (zipC_ok hp hp2 q) rfl (fun M3 h3 p hp => ?_) hB2 (hs.trans hs2)⟩
        rcases List.mem_append.mp hp with hp | hp
        · exact guard_ok L G2 hd hc1 p hp M3 h3
        · exact guard_ok L G2 hd2 hc2 p hp M3 h3
      · cases q
    · cases q
theorem EOk.item (L : Bl B Own M0) (h : EOk B Own b M0 T sto f) {ge : List AV} {ρ : Nat → Nat} {env : Env} {X : XW} (g : Ge b ρ sto.length ge env) {t : Tg} {ifs : Option E} {elt : E} {it r : Ty} (q : aCompI f ge t ifs elt it = some r) {p : PyData} {M : Mem} {k : D → Mem → Prop} {k0 : Mem → Prop} (hp : In it p) (G : GmA B Own M0 sto ρ M)
    (hk : ∀ z M2, In r z → B M2 → SameO Own M M2 → k (.v z) M2) (hk0 : ∀ M2, ifs.isSome = true → B M2 → SameO Own M M2 → k0 M2) :
    evT T X t (.v p) env M fun env1 M1 => evB T X ifs env1 M1 fun c M2 => if c = true then evR T X elt env1 M2 (asVal k) else k0 M2 := by
  unfold aCompI at q
  split at q
  · cases q
  · rename_i ge1 h1
    refine aT_ok 8 h1 g hp fun env1 g1 => ?_
    split at q
    · cases q
    · rename_i ht
      split at q
      · rename_i s hs
        split at q
        · rename_i u hu
          cases q
          have last : ∀ M2, B M2 → SameO Own M M2 → evR T X elt env1 M2 (asVal k) := fun M2 hB2 hs2 => h.val hs g1 (G.move L hB2 hs2) fun d M3 hd hB3 hs3 => by
            rw [hu] at hd
            obtain ⟨z, rfl, hz⟩ := hd
            exact hk z M3 hz hB3 (hs2.trans hs3)
          cases ifs with
          | none =>
            unfold evB
            dsimp only
            rw [if_pos rfl]
            exact last M G.bag SameO.refl
          | some c =>
            unfold evB
            dsimp only at ht
            split at ht
            · rename_i w hw
              refine h.val hw g1 G fun d M2 hd hB2 hs2 => ?_
              obtain ⟨k', hk'⟩ := Option.isSome_iff_exists.mp ht
              obtain ⟨cc, rfl, _⟩ := blA_ok hk' hd
              refine ⟨cc, rfl, ?_⟩
              dsimp only
              split
              · exact last M2 hB2 hs2
              · exact hk0 M2 rfl hB2 hs2
            · cases ht
        · cases q
      · cases q
theorem EOk.comp (L : Bl B Own M0) (h : EOk B Own b M0 T sto f) {ge : List AV} {ρ : Nat → Nat} {env : Env} {X : XW} (g : Ge b ρ sto.length ge env) {own : List Nat} {t : Tg} {src : Src} {ifs : Option E} {elt : E} {r : AR} {M : Mem} {P : Rs → Mem → Prop} (q : aComp f sto ge own t src ifs elt = some r) (G : GmA B Own M0 sto ρ M)
    (hP : ∀ rs M', InR b ρ r rs → B M' → SameO Own M M' → P rs M') : evR T X (.comp own t src ifs elt) env M P := by
  have hz := sizeLine_eq
  unfold aComp at q
  split at q
  · cases q
  · rename_i c hc
    split at q
    · rename_i hl
      unfold evR
      refine h.src L g hc G fun ps it M1 hp hx hok hB hs => ?_
      rw [hx]
      have G1 := G.move L hB hs
      have lp := hp.len
      have nil0 : (∀ z, z ∈ ps → False) → ps = [] := fun h => by cases ps with
        | nil => rfl
        | cons p _ => exact (h p (List.mem_cons_self ..)).elim
      have loose : ∀ c' : CT, InC c' ps → c'.hi ≤ 100000 → (match c'.el with
          | some .bot => if c'.hi = 0 then some (AR.fl (.ex [])) else none
          | some e => (aCompI f (wipeG ge own) t ifs elt e).map fun r => AR.fl (.sq r (if ifs.isSome then 0 else c'.lo) c'.hi)
          | none => none) = some r → compW (fun M => it.ok M) (evT T noX t) (fun env M Q => evB T noX ifs env M Q) (fun env M Q => evR T noX elt env M (asVal Q)) (wipeE env own) (fun ds M2 => P (.fl ds) M2) (ps.map D.v) [] M1 := by
        intro c' hp lc q
        have lp := hp.len
        split at q
        · rename_i he
          split at q
          · cases q
            have e := nil0 fun z hz => by
              have := hp.el he z hz
              cases this
            subst e
            exact ⟨hok M1 SameO.refl, Nat.zero_le _, hP _ M1 ⟨[], rfl, .nil⟩ hB hs⟩
          · cases q
        · rename_i e _ he
          obtain ⟨r', hr', rfl⟩ := Option.map_eq_some_iff.mp q
          refine comp_sq (B := B) (e := e) (r := r') ifs.isSome hok (fun p M' k k0 hpp hB' hs' hk hk0 => ?_) (acc := []) (hp.el he) (by simp; omega) hB SameO.refl fun rs M2 hr h1 h2 hB2 hs2 => ?_
          · exact h.item L (g.wipe own) hr' hpp (G1.move L hB' hs') hk fun M2 hi hB2 hs2 => hk0 M2 hi hB2 hs2
          · refine hP _ M2 ⟨rs, rfl, hr, ?_, by omega⟩ hB2 (hs.trans hs2)
            cases hh : ifs.isSome with
            | true => rw [if_pos rfl]; exact Nat.zero_le _
            | false => rw [if_neg (by decide), h2 hh]; omega
        · cases q
      split at q
      · rename_i ts
        obtain ⟨rts, hr, rfl⟩ := Option.map_eq_some_iff.mp q
        refine comp_ex (B := B) (aCompI f (wipeG ge own) t none elt) hok (fun it' r' hr' p M' k k0 hpp hB' hs' hk => ?_) (acc := []) hr hp (by simp; omega) hB SameO.refl fun rs M2 hr hB2 hs2 => hP _ M2 ⟨rs, rfl, hr⟩ hB2 (hs.trans hs2)
        exact h.item L (g.wipe own) hr' hpp (G1.move L hB' hs') hk fun M2 hi _ _ => by cases hi
      · exact loose _ hp hl q
    · cases q
theorem permA {ρ : Nat → Nat} : ∀ {as : List AV} {ds : List D}, InAs b ρ as ds → ∀ ks : List Nat, (permute as ks).all AV.plain = true → InFs b (permute as ks) (permute ds ks) := by
  intro as ds h ks
  have get : ∀ {as : List AV} {ds : List D} {k : Nat}, InAs b ρ as ds → (∃ a d, as[k]? = some a ∧ ds[k]? = some d ∧ InA b ρ a d) ∨ (as[k]? = none ∧ ds[k]? = none) := by
    intro as
    induction as with
    | nil => intro ds k h; cases ds with
      | nil => exact .inr ⟨rfl, rfl⟩
      | cons _ _ => exact h.elim
    | cons a as ih => intro ds k h; cases ds with
      | nil => exact h.elim
      | cons d ds => cases k with
        | zero => exact .inl ⟨a, d, rfl, rfl, h.1⟩
        | succ k => simpa using ih (k := k) h.2
  induction ks with
  | nil => exact fun _ => trivial
  | cons k ks ih =>
    intro hp
    unfold permute at hp ih ⊢
    rcases get (k := k) h with ⟨a, d, e1, e2, hi⟩ | ⟨e1, e2⟩
    · rw [List.filterMap_cons, e1] at hp ⊢
      rw [List.filterMap_cons, e2]
      dsimp only at hp ⊢
      rw [List.all_cons, Bool.and_eq_true] at hp
      refine ⟨?_, ih hp.2⟩
      cases a with
      | v t => exact hi
      | bag => exact hi
      | box i => cases hp.1
      | no => cases hp.1
    · rw [List.filterMap_cons, e1] at hp ⊢
      rw [List.filterMap_cons, e2]
      exact ih hp
theorem aE_ok (L : Bl B Own M0) (hF : SgOk B Own b T F) : ∀ (n : Nat) (sto : List CT), EOk B Own b M0 T sto (fun ge e => aE F n ge sto e)
  | 0, sto => fun e ge r q => by cases q
  | n + 1, sto => fun e ge r q ρ env M X P g G hP => by
    have ih := aE_ok L hF n sto
    have hz := sizeLine_eq
    change aE F (n + 1) ge sto e = some r at q
    unfold aE at q
    cases e <;> dsimp only at q
    case var i =>
      split at q
      · cases q
      · rename_i a hna ha
        cases q
        rcases g.2 i a ha with h | ⟨_, d, h1, h2⟩
        · exact (hna h).elim
        · unfold evR
          exact ⟨d, h1, hP _ M ⟨d, rfl, h2⟩ G.bag SameO.refl⟩
      · cases q
    case cst p =>
      obtain ⟨t, ht, rfl⟩ := Option.map_eq_some_iff.mp q
      unfold evR
      exact hP _ M ⟨_, rfl, p, rfl, tyP_ok ht⟩ G.bag SameO.refl
    case tup es =>
      split at q
      · rename_i rs h1
        split at q
        · rename_i ts h2
          split at q
          · cases q
            unfold evR
            refine ih.list L g h1 G fun ds M' hds hB hs => ?_
            obtain ⟨ps, rfl, hps⟩ := allV_ok h2 hds
            have l := hps.len
            exact ⟨ps, dataOf_map, by omega, hP _ M' ⟨_, rfl, _, rfl, .ex rfl hps⟩ hB hs⟩
          · cases q
        · cases q
      · cases q
    case lst es =>
      split at q
      · rename_i rs h1
        split at q
        · rename_i ts h2
          split at q
          · cases q
            unfold evR
            refine ih.list L g h1 G fun ds M' hds hB hs => ?_
            obtain ⟨ps, rfl, hps⟩ := allV_ok h2 hds
            have l := hps.len
            exact ⟨by rw [List.length_map]; omega, hP _ M' ⟨ps, rfl, hps⟩ hB hs⟩
          · cases q
        · cases q
      · cases q
    case dnew =>
      cases q
      unfold evR
      exact hP _ M rfl G.bag SameO.refl
    case bin o x y =>
      split at q
      · rename_i r1 r2 h1 h2
        unfold evR
        refine ih.val h1 g G fun d1 M1 hd1 hB1 hs1 => ?_
        have G1 := G.move L hB1 hs1
        refine ih.val h2 g G1 fun d2 M2 hd2 hB2 hs2 => ?_
        exact aBin_ok (G1.move L hB2 hs2) q hd1 hd2 fun rs hr => hP rs M2 hr hB2 (hs1.trans hs2)
      · cases q
    case un o x =>
      split at q
      · rename_i r1 h1
        unfold evR
        refine ih.val h1 g G fun d1 M1 hd1 hB1 hs1 => ?_
        exact aUn_ok q hd1 fun d hd => hP _ M1 hd hB1 hs1
      · cases q
    case cmp o x y =>
      split at q
      · rename_i r1 r2 h1 h2
        obtain ⟨k, hk, rfl⟩ := Option.map_eq_some_iff.mp q
        unfold evR
        refine ih.val h1 g G fun d1 M1 hd1 hB1 hs1 => ?_
        have G1 := G.move L hB1 hs1
        refine ih.val h2 g G1 fun d2 M2 hd2 hB2 hs2 => ?_
        exact aCmp_ok (G1.move L hB2 hs2) hk hd1 hd2 fun z hz => hP _ M2 ⟨_, rfl, _, rfl, .bl fun c hc => hz c hc⟩ hB2 (hs1.trans hs2)
      · cases q
    case chain o1 o2 x y z =>
      split at q
      · rename_i r1 r2 r3 h1 h2 h3
        split at q
        · rename_i k l hk hl
          cases q
          unfold evR
          refine ih.val h1 g G fun d1 M1 hd1 hB1 hs1 => ?_
          have G1 := G.move L hB1 hs1
          refine ih.val h2 g G1 fun d2 M2 hd2 hB2 hs2 => ?_
          have G2 := G1.move L hB2 hs2
          refine aCmp_ok G2 hk hd1 hd2 fun c hc => ?_
          split
          · rename_i ec
            refine ih.val h3 g G2 fun d3 M3 hd3 hB3 hs3 => ?_
            refine aCmp_ok (G2.move L hB3 hs3) hl hd2 hd3 fun c2 hc2 => hP _ M3 ⟨_, rfl, _, rfl, .bl fun y hy => ?_⟩ hB3 ((hs1.trans hs2).trans hs3)
            split at hy
            · exact hc2 y hy
            · split at hy
              · rename_i e2
                have := hc false e2
                rw [ec] at this; cases this
              · cases hy
          · rename_i ec
            refine hP _ M2 ⟨_, rfl, _, rfl, .bl fun y hy => ?_⟩ hB2 (hs1.trans hs2)
            split at hy
            · rename_i e2
              exact absurd (hc true e2) ec
            · split at hy
              · cases hy; rfl
              · cases hy
        · cases q
      · cases q
    case isN x =>
      split at q
      · rename_i r1 h1
        split at q
        · rename_i t ht
          cases q
          unfold evR
          refine ih.val h1 g G fun d1 M1 hd1 hB1 hs1 => ?_
          rw [ht] at hd1
          obtain ⟨p, rfl, hp⟩ := hd1
          exact hP _ M1 ⟨_, rfl, _, rfl, .bl fun y hy => isNT_ok hp y hy⟩ hB1 hs1
        · cases q
      · cases q
    case notN x =>
      split at q
      · rename_i r1 h1
        split at q
        · rename_i t ht
          cases q
          unfold evR
          refine ih.val h1 g G fun d1 M1 hd1 hB1 hs1 => ?_
          rw [ht] at hd1
          obtain ⟨p, rfl, hp⟩ := hd1
          refine hP _ M1 ⟨_, rfl, _, rfl, .bl fun y hy => ?_⟩ hB1 hs1
          obtain ⟨k, hk, rfl⟩ := Option.map_eq_some_iff.mp hy
          rw [isNT_ok hp k hk]
        · cases q
      · cases q
    case and x y =>
      split at q
      · rename_i r1 h1
        split at q
        · rename_i hb
          cases q
          unfold evR
          refine ih.val h1 g G fun d1 M1 hd1 hB1 hs1 => ?_
          obtain ⟨c, rfl, hc⟩ := blA_ok hb hd1
          refine ⟨c, rfl, ?_⟩
          rw [hc false rfl, if_neg (by decide)]
          exact hP _ M1 ⟨_, rfl, _, rfl, .bl fun y hy => by cases hy; rfl⟩ hB1 hs1
        · rename_i hb
          unfold evR
          refine ih.val h1 g G fun d1 M1 hd1 hB1 hs1 => ?_
          obtain ⟨c, rfl, hc⟩ := blA_ok hb hd1
          refine ⟨c, rfl, ?_⟩
          rw [hc true rfl, if_pos rfl]
          exact ih y ge r q ρ env M1 X P g (G.move L hB1 hs1) fun rs M2 hr hB2 hs2 => hP rs M2 hr hB2 (hs1.trans hs2)
        · rename_i hb
          split at q
          · rename_i r2 h2
            unfold evR
            refine ih.val h1 g G fun d1 M1 hd1 hB1 hs1 => ?_
            obtain ⟨c, rfl, hc⟩ := blA_ok hb hd1
            refine ⟨c, rfl, ?_⟩
            cases c with
            | true =>
              rw [if_pos rfl]
              exact ih y ge r2 h2 ρ env M1 X P g (G.move L hB1 hs1) fun rs M2 hr hB2 hs2 => hP rs M2 ((jnR_ok q).2 hr) hB2 (hs1.trans hs2)
            | false =>
              rw [if_neg (by decide)]
              exact hP _ M1 ((jnR_ok q).1 ⟨_, rfl, _, rfl, .bl fun y hy => by cases hy; rfl⟩) hB1 hs1
          · cases q
        · cases q
      · cases q
    case or x y =>
      split at q
      · rename_i r1 h1
        split at q
        · rename_i hb
          cases q
          unfold evR
          refine ih.val h1 g G fun d1 M1 hd1 hB1 hs1 => ?_
          obtain ⟨c, rfl, hc⟩ := blA_ok hb hd1
          refine ⟨c, rfl, ?_⟩
          rw [hc true rfl, if_pos rfl]
          exact hP _ M1 ⟨_, rfl, _, rfl, .bl fun y hy => by cases hy; rfl⟩ hB1 hs1
        · rename_i hb
          unfold evR
          refine ih.val h1 g G fun d1 M1 hd1 hB1 hs1 => ?_
          obtain ⟨c, rfl, hc⟩ := blA_ok hb hd1
          refine ⟨c, rfl, ?_⟩
          rw [hc false rfl, if_neg (by decide)]
          exact ih y ge r q ρ env M1 X P g (G.move L hB1 hs1) fun rs M2 hr hB2 hs2 => hP rs M2 hr hB2 (hs1.trans hs2)
        · rename_i hb
          split at q
          · rename_i r2 h2
            unfold evR
            refine ih.val h1 g G fun d1 M1 hd1 hB1 hs1 => ?_
            obtain ⟨c, rfl, hc⟩ := blA_ok hb hd1
            refine ⟨c, rfl, ?_⟩
            cases c with
            | false =>
              rw [if_neg (by decide)]
              exact ih y ge r2 h2 ρ env M1 X P g (G.move L hB1 hs1) fun rs M2 hr hB2 hs2 => hP rs M2 ((jnR_ok q).2 hr) hB2 (hs1.trans hs2)
            | true =>
              rw [if_pos rfl]
              exact hP _ M1 ((jnR_ok q).1 ⟨_, rfl, _, rfl, .bl fun y hy => by cases hy; rfl⟩) hB1 hs1
          · cases q
        · cases q
      · cases q
    case ite c x y =>
      split at q
      · rename_i r1 h1
        split at q
        · rename_i hb
          unfold evR
          refine ih.val h1 g G fun d1 M1 hd1 hB1 hs1 => ?_
          obtain ⟨c, rfl, hc⟩ := blA_ok hb hd1
          refine ⟨c, rfl, ?_⟩
          rw [hc true rfl, if_pos rfl]
          exact ih x ge r q ρ env M1 X P g (G.move L hB1 hs1) fun rs M2 hr hB2 hs2 => hP rs M2 hr hB2 (hs1.trans hs2)
        · rename_i hb
          unfold evR
          refine ih.val h1 g G fun d1 M1 hd1 hB1 hs1 => ?_
          obtain ⟨c, rfl, hc⟩ := blA_ok hb hd1
          refine ⟨c, rfl, ?_⟩
          rw [hc false rfl, if_neg (by decide)]
          exact ih y ge r q ρ env M1 X P g (G.move L hB1 hs1) fun rs M2 hr hB2 hs2 => hP rs M2 hr hB2 (hs1.trans hs2)
        · rename_i hb
          split at q
          · rename_i r2 r3 h2 h3
            unfold evR
            refine ih.val h1 g G fun d1 M1 hd1 hB1 hs1 => ?_
            obtain ⟨c, rfl, hc⟩ := blA_ok hb hd1
            refine ⟨c, rfl, ?_⟩
            cases c with
            | true =>
              rw [if_pos rfl]
              exact ih x ge r2 h2 ρ env M1 X P g (G.move L hB1 hs1) fun rs M2 hr hB2 hs2 => hP rs M2 ((jnR_ok q).1 hr) hB2 (hs1.trans hs2)
            | false =>
              rw [if_neg (by decide)]
              exact ih y ge r3 h3 ρ env M1 X P g (G.move L hB1 hs1) fun rs M2 hr hB2 hs2 => hP rs M2 ((jnR_ok q).2 hr) hB2 (hs1.trans hs2)
          · cases q
        · cases q
      · cases q
    case isi x Tn =>
      split at q
      · rename_i r1 h1
        split at q
        · rename_i t ht
          obtain ⟨k, hk, rfl⟩ := Option.map_eq_some_iff.mp q
          unfold evR
          refine ih.val h1 g G fun d1 M1 hd1 hB1 hs1 => ?_
          rw [ht] at hd1
          obtain ⟨p, rfl, hp⟩ := hd1
          exact isiT_ok hk hp fun z hz => hP _ M1 ⟨_, rfl, _, rfl, .bl fun y hy => hz y hy⟩ hB1 hs1
        · cases q
      · cases q
    case call fn es ks =>
      split at q
      · rename_i rs h1
        split at q
        · rename_i hp
          obtain ⟨t, ht, rfl⟩ := Option.map_eq_some_iff.mp q
          unfold evR
          refine ih.list L g h1 G fun ds M' hds hB hs => ?_
          exact hF fn _ t _ M' _ _ ht (permA hds ks hp) hB fun p M2 hp hB2 hs2 => hP _ M2 ⟨_, rfl, p, rfl, hp⟩ hB2 (hs.trans hs2)
        · cases q
      · cases q
    case bi fn es =>
      split at q
      · rename_i rs h1
        unfold evR
        refine ih.list L g h1 G fun ds M' hds hB hs => ?_
        exact aBI_ok (G.move L hB hs) q hds fun rs hr => hP rs M' hr hB hs
      · cases q
    case ix x i =>
      split at q
      · rename_i r1 r2 h1 h2
        unfold evR
        refine ih.val h1 g G fun d1 M1 hd1 hB1 hs1 => ?_
        have G1 := G.move L hB1 hs1
        refine ih.val h2 g G1 fun d2 M2 hd2 hB2 hs2 => ?_
        exact aIx_ok (G1.move L hB2 hs2) q hd1 hd2 fun d hd => hP _ M2 hd hB2 (hs1.trans hs2)
      · cases q
    case sl x lo hi =>
      split at q
      · rename_i r1 l h h1 h2 h3
        unfold evR
        refine ih.val h1 g G fun d1 M1 hd1 hB1 hs1 => ?_
        have G1 := G.move L hB1 hs1
        refine ih.opt L g h2 G1 fun i M2 hi hB2 hs2 => ?_
        have G2 := G1.move L hB2 hs2
        refine ih.opt L g h3 G2 fun j M3 hj hB3 hs3 => ?_
        exact aSl_ok (G2.move L hB3 hs3) q hd1 hi hj fun rs hr => hP rs M3 hr hB3 ((hs1.trans hs2).trans hs3)
      · cases q
    case rev x =>
      split at q
      · rename_i r1 h1
        unfold evR
        refine ih.val h1 g G fun d1 M1 hd1 hB1 hs1 => ?_
        exact aRev_ok (G.move L hB1 hs1) q hd1 fun rs hr => hP rs M1 hr hB1 hs1
      · cases q
    case comp own t src ifs elt => exact ih.comp L g q G hP
    all_goals cases q
end
end Pd

namespace Pd
open PySem L2
section
variable {B : Mem → Prop} {Own : Nat → Prop} {b : Nat} {M0 : Mem} {T : Tb} {F : Sigs}
variable {sto : List CT} {f : List AV → E → Option AR}
theorem GmA.nil {ρ : Nat → Nat} {M : Mem} (G : GmA B Own M0 sto ρ M) : GmA B Own M0 [] ρ M := ⟨fun i c e => by simp at e, fun i j h => by simp at h, G.bag, G.fr⟩
theorem guard0 {a : AV} {ρ : Nat → Nat} {d : D} {t : Bool} {c : CT} {M M' : Mem} (h : InA b ρ a d) (q : contA [] a = some (t, c)) : ∀ p, p ∈ guardOf M d → (M' p.1 = some (.lst p.2) ∨ M' p.1 = some (.fz p.2)) := by
  cases a with
  | v u =>
    obtain ⟨p, rfl, _⟩ := h
    intro p hp
    cases hp
  | box i => simp [contA] at q
  | bag => cases q
  | no => cases q
theorem EOk.src0 (L : Bl B Own M0) (h : EOk B Own b M0 T sto f) {ge : List AV} {ρ : Nat → Nat} {env : Env} {X : XW} (g : Ge b ρ sto.length ge env) {src : Src} {c : CT} {M : Mem} {P : Its → Mem → Prop} (q : aSrc (f ge) [] src = some c) (G : GmA B Own M0 sto ρ M)
    (hP : ∀ ps (it : Its) M', InC c ps → it.xs = ps.map D.v → (∀ M2, it.ok M2) → B M' → SameO Own M M' → P it M') : evSrc T X src env M P := by
  cases src with
  | seq e =>
    unfold aSrc at q
    dsimp only at q
    split at q
    · rename_i r hr
      obtain ⟨⟨t, c'⟩, hc, rfl⟩ := Option.map_eq_some_iff.mp q
      unfold evSrc
      refine h.val hr g G fun d M' hd hB hs => ?_
      have G' := G.move L hB hs
      obtain ⟨ps, hp, hq, _⟩ := cont_ok G'.nil hd hc
      exact ⟨_, hq, hP ps _ M' hp rfl (fun M2 p hp => guard0 hd hc p hp) hB hs⟩
    · cases q
  | rng x y =>
    unfold aSrc at q
    dsimp only at q
    split at q
    · rename_i r s hr hs'
      split at q
      · rename_i a1 a2 b1 b2 e1 e2
        unfold evSrc
        refine h.val hr g G fun d M' hd hB hs => ?_
        have G' := G.move L hB hs
        refine h.val hs' g G' fun d2 M2 hd2 hB2 hs2 => ?_
        obtain ⟨i, rfl, i1, i2⟩ := hd.int e1
        obtain ⟨j, rfl, j1, j2⟩ := hd2.int e2
        unfold rngC at q
        split at q
        · refine ⟨i, j, rfl, rfl, by omega, ?_⟩
          have em : ((List.range (j - i).toNat).map fun (k : Nat) => D.v (.int (i + k))) = ((List.range (j - i).toNat).map fun (k : Nat) => PyData.int (i + k)).map D.v := by rw [List.map_map]; rfl
          refine hP ((List.range (j - i).toNat).map fun (k : Nat) => PyData.int (i + k)) _ M2 ?_ em (fun M3 p hp => by cases hp) hB2 (hs.trans hs2)
          split at q <;> cases q
          · rename_i hh
            have ei : i = a1 := by omega
            have ej : j = b1 := by omega
            subst ei ej
            have gg : ∀ ks : List Nat, InL (ks.map fun (k : Nat) => Ty.int (i + k) (i + k)) (ks.map fun (k : Nat) => PyData.int (i + k)) := by
              intro ks
              induction ks with
              | nil => exact .nil
              | cons k ks ih => exact .cons (.int (Int.le_refl _) (Int.le_refl _)) ih
            exact gg _
          · refine ⟨fun z hz => ?_, by rw [List.length_map, List.length_range]; omega, by rw [List.length_map, List.length_range]; omega⟩
            obtain ⟨k, hk, rfl⟩ := List.mem_map.mp hz
            have := List.mem_range.mp hk
            exact .int (by omega) (by omega)
        · cases q
      · cases q
    · cases q
  | enum e =>
    unfold aSrc at q
    dsimp only at q
    split at q
    · rename_i r hr
      obtain ⟨⟨t, c'⟩, hc, rfl⟩ := Option.map_eq_some_iff.mp q
      unfold evSrc
      refine h.val hr g G fun d M' hd hB hs => ?_
      have G' := G.move L hB hs
      obtain ⟨ps, hp, hq, _⟩ := cont_ok G'.nil hd hc
      exact ⟨_, _, hq, enum_data ps 0, hP _ _ M' (enumC_ok hp) rfl (fun M2 p hp => guard0 hd hc p hp) hB hs⟩
    · cases q
  | zip2 x y =>
    unfold aSrc at q
    dsimp only at q
    split at q
    · rename_i r s hr hs'
      split at q
      · rename_i t c1 u c2 hc1 hc2
        unfold evSrc
        refine h.val hr g G fun d M' hd hB hs => ?_
        have G' := G.move L hB hs
        refine h.val hs' g G' fun d2 M2 hd2 hB2 hs2 => ?_
        have G2 := G'.move L hB2 hs2
        obtain ⟨ps, hp, hq, _⟩ := cont_ok G2.nil hd hc1
        obtain ⟨ps2, hp2, hq2, _⟩ := cont_ok G2.nil hd2 hc2
        refine ⟨_, _, _, hq, hq2, zipP_map ps ps2, hP _ _ M2 (zipC_ok hp hp2 q) rfl (fun M3 p hp => ?_) hB2 (hs.trans hs2)⟩
        rcases List.mem_append.mp hp with hp | hp
        · exact guard0 hd hc1 p hp
        · exact guard0 hd2 hc2 p hp
      · cases q
    · cases q
end
structure AS where
  env : List AV
  sto : List CT
structure AO where
  nx : Option AS
  rt : Ty
  bk : Option AS
  ct : Option AS
def jnV (n : Nat) : AV → AV → AV
  | .v t, .v u => match JN t u with
    | some w => .v w
    | none => .no
  | .box i, .box j => if i = j ∧ i < n then .box i else .no
  | .bag, .bag => .bag
  | _, _ => .no
def jnVs (n : Nat) : List AV → List AV → Option (List AV)
  | [], [] => some []
  | a :: as, c :: cs => (jnVs n as cs).map (jnV n a c :: ·)
  | _, _ => none
def jnCs : List CT → List CT → Option (List CT)
  | c :: cs, d :: ds => match jnC c d, jnCs cs ds with
    | some e, some es => some (e :: es)
    | _, _ => none
  | _, _ => some []
def jnS1 (s t : AS) : Option AS := match jnCs s.sto t.sto with
  | some cs => (jnVs cs.length s.env t.env).map fun e => ⟨e, cs⟩
  | none => none
def jnS : Option AS → Option AS → Option (Option AS)
  | none, x => some x
  | x, none => some x
  | some s, some t => (jnS1 s t).map some
section
variable (B : Mem → Prop) (Own : Nat → Prop) (b : Nat) (M0 : Mem)
def Gs (st : AS) (env : Env) (M : Mem) : Prop := ∃ ρ, Ge b ρ st.sto.length st.env env ∧ GmA B Own M0 st.sto ρ M
def Gn (o : Option AS) (env : Env) (M : Mem) : Prop := match o with
  | none => False
  | some st => Gs B Own b M0 st env M
def Rt (t : Ty) (d : D) (M : Mem) : Prop := (∃ p, frz M0 4 M d = some p ∧ In t p) ∧ B M ∧ ∀ k, ¬ Own k → M0 k ≠ none → M k = M0 k
/-- what stands behind a piece is right -/
structure PoOk (P : Po) (o : AO) : Prop where
  nx : ∀ env M, Gn B Own b M0 o.nx env M → P.nx env M
  rt : ∀ d M, Rt B Own M0 o.rt d M → P.rt d M
  bk : ∀ env M, Gn B Own b M0 o.bk env M → P.bk env M
  ct : ∀ env M, Gn B Own b M0 o.ct env M → P.ct env M
end
section
variable {B : Mem → Prop} {Own : Nat → Prop} {b : Nat} {M0 : Mem} {T : Tb} {F : Sigs}
theorem jnCs_ok : ∀ {cs ds es : List CT}, jnCs cs ds = some es → es.length ≤ cs.length ∧ es.length ≤ ds.length ∧ ∀ (i : Nat) (e : CT), es[i]? = some e → ∃ c d, cs[i]? = some c ∧ ds[i]? = some d ∧ ∀ ps, (InC c ps → InC e ps) ∧ (InC d ps → InC e ps)
  | c :: cs, d :: ds, es, q => by
    unfold jnCs at q
    split at q
    · rename_i e es' h1 h2
      cases q
      obtain ⟨l1, l2, h⟩ := jnCs_ok h2
      refine ⟨Nat.succ_le_succ l1, Nat.succ_le_succ l2, fun i x hx => ?_⟩
      cases i with
      | zero => cases hx; exact ⟨c, d, rfl, rfl, fun ps => jnC_ok h1⟩
      | succ i => exact h i x hx
    · cases q
  | [], _, es, q => by
    unfold jnCs at q; cases q
    exact ⟨Nat.zero_le _, Nat.zero_le _, fun i e h => by simp at h⟩
  | _ :: _, [], es, q => by
    unfold jnCs at q; cases q
    exact ⟨Nat.zero_le _, Nat.zero_le _, fun i e h => by simp at h⟩
theorem jnVs_ok {n : Nat} : ∀ {as cs es : List AV}, jnVs n as cs = some es → es.length = as.length ∧ es.length = cs.length ∧ ∀ (i : Nat) (e : AV), es[i]? = some e → ∃ a c, as[i]? = some a ∧ cs[i]? = some c ∧ e = jnV n a c
  | [], [], es, q => by
    cases q
    exact ⟨rfl, rfl, fun i e h => by simp at h⟩
  | a :: as, c :: cs, es, q => by
    obtain ⟨es', h, rfl⟩ := Option.map_eq_some_iff.mp q
    obtain ⟨l1, l2, h⟩ := jnVs_ok h
    refine ⟨congrArg (· + 1) l1, congrArg (· + 1) l2, fun i x hx => ?_⟩
    cases i with
    | zero => cases hx; exact ⟨a, c, rfl, rfl, rfl⟩
    | succ i => exact h i x hx
  | [], _ :: _, _, q => by cases q
  | _ :: _, [], _, q => by cases q
theorem jnV_l {n : Nat} {ρ : Nat → Nat} {a c : AV} {d : D} (h : InA b ρ a d) : jnV n a c = .no ∨ ((∀ j, jnV n a c = .box j → j < n) ∧ InA b ρ (jnV n a c) d) := by
  unfold jnV
  split
  · split
    · rename_i t u w hw
      refine .inr ⟨fun j e => (by cases e), ?_⟩
      obtain ⟨p, e, hp⟩ := h
      exact ⟨p, e, (JN_ok _ _ _ hw _).1 hp⟩
    · exact .inl rfl
  · split
    · rename_i hh
      exact .inr ⟨fun j e => by cases e; exact hh.2, h⟩
    · exact .inl rfl
  · exact .inr ⟨fun j e => (by cases e), h⟩
  · exact .inl rfl
theorem jnV_r {n : Nat} {ρ : Nat → Nat} {a c : AV} {d : D} (h : InA b ρ c d) : jnV n a c = .no ∨ ((∀ j, jnV n a c = .box j → j < n) ∧ InA b ρ (jnV n a c) d) := by
  unfold jnV
  split
  · split
    · rename_i t u w hw
      refine .inr ⟨fun j e => (by cases e), ?_⟩
      obtain ⟨p, e, hp⟩ := h
      exact ⟨p, e, (JN_ok _ _ _ hw _).2 hp⟩
    · exact .inl rfl
  · split
    · rename_i hh
      refine .inr ⟨fun j e => by cases e; exact hh.2, ?_⟩
      rw [hh.1]; exact h
    · exact .inl rfl
  · exact .inr ⟨fun j e => (by cases e), h⟩
  · exact .inl rfl
theorem jnS1_ok {s t u : AS} (q : jnS1 s t = some u) {env : Env} {M : Mem} : (Gs B Own b M0 s env M → Gs B Own b M0 u env M) ∧ (Gs B Own b M0 t env M → Gs B Own b M0 u env M) := by
  unfold jnS1 at q
  split at q
  · rename_i cs hcs
    obtain ⟨e, he, rfl⟩ := Option.map_eq_some_iff.mp q
    obtain ⟨l1, l2, hc⟩ := jnCs_ok hcs
    obtain ⟨k1, k2, hv⟩ := jnVs_ok he
    constructor
    · rintro ⟨ρ, g, G⟩
      refine ⟨ρ, ⟨by rw [g.1]; exact k1.symm, fun i a ha => ?_⟩, ⟨fun i c hi => ?_, fun i j hi hj => G.inj i j (Nat.lt_of_lt_of_le hi l1) (Nat.lt_of_lt_of_le hj l1), G.bag, G.fr⟩⟩
      · obtain ⟨a1, a2, e1, e2, rfl⟩ := hv i a ha
        rcases g.2 i a1 e1 with h | ⟨_, d, h1, h2⟩
        · left; rw [h]; cases a2 <;> rfl
        · rcases jnV_l (n := cs.length) (c := a2) h2 with z | ⟨z1, z2⟩
          · exact .inl z
          · exact .inr ⟨z1, d, h1, z2⟩
      · obtain ⟨c1, c2, e1, e2, hh⟩ := hc i c hi
        obtain ⟨ps, h1, h2, h3⟩ := G.at' i c1 e1
        exact ⟨ps, h1, (hh ps).1 h2, h3⟩
    · rintro ⟨ρ, g, G⟩
      refine ⟨ρ, ⟨by rw [g.1]; exact k2.symm, fun i a ha => ?_⟩, ⟨fun i c hi => ?_, fun i j hi hj => G.inj i j (Nat.lt_of_lt_of_le hi l2) (Nat.lt_of_lt_of_le hj l2), G.bag, G.fr⟩⟩
      · obtain ⟨a1, a2, e1, e2, rfl⟩ := hv i a ha
        rcases g.2 i a2 e2 with h | ⟨_, d, h1, h2⟩
        · left; rw [h]; cases a1 <;> rfl
        · rcases jnV_r (n := cs.length) (a := a1) h2 with z | ⟨z1, z2⟩
          · exact .inl z
          · exact .inr ⟨z1, d, h1, z2⟩
      · obtain ⟨c1, c2, e1, e2, hh⟩ := hc i c hi
        obtain ⟨ps, h1, h2, h3⟩ := G.at' i c2 e2
        exact ⟨ps, h1, (hh ps).2 h2, h3⟩
  · cases q
theorem jnS_ok {s t u : Option AS} (q : jnS s t = some u) {env : Env} {M : Mem} : (Gn B Own b M0 s env M → Gn B Own b M0 u env M) ∧ (Gn B Own b M0 t env M → Gn B Own b M0 u env M) := by
  unfold jnS at q
  split at q
  · cases q; exact ⟨fun h => h.elim, id⟩
  · cases q; exact ⟨id, fun h => h.elim⟩
  · obtain ⟨w, hw, rfl⟩ := Option.map_eq_some_iff.mp q
    exact jnS1_ok hw
theorem rt_mono {t u : Ty} {d : D} {M : Mem} (h : ∀ p, In t p → In u p) (q : Rt B Own M0 t d M) : Rt B Own M0 u d M := by
  obtain ⟨⟨p, h1, h2⟩, h3⟩ := q
  exact ⟨⟨p, h1, h p h2⟩, h3⟩
end
end Pd

namespace Pd
open PySem L2
def okV (n : Nat) : AV → Bool
  | .no => false
  | .box j => decide (j < n)
  | _ => true
def aN (F : Sigs) (ge : List AV) (sto : List CT) : E → Option (AV × List CT)
  | .new e => match aE F 40 ge sto e with
    | some (.fl c) => some (.box sto.length, sto ++ [c])
    | _ => none
  | e => match aE F 40 ge sto e with
    | some r => if okV sto.length r.as = true then some (r.as, sto) else none
    | none => none
def aNs (F : Sigs) (ge : List AV) : List E → List CT → Option (List AV × List CT)
  | [], sto => some ([], sto)
  | e :: es, sto => match aN F ge sto e with
    | some (a, sto1) => match aNs F ge es sto1 with
      | some (as, sto2) => some (a :: as, sto2)
      | none => none
    | none => none
def aTg (F : Sigs) (st : AS) : Tg → AV → Option AS
  | .var i, a => if i < st.env.length ∧ okV st.sto.length a = true then some ⟨st.env.set i a, st.sto⟩ else none
  | .tup gs, .v t => (aT 8 (.tup gs) t st.env).map fun e => ⟨e, st.sto⟩
  | .sub o i, .v t => match aE F 40 st.env st.sto o, aE F 40 st.env st.sto i with
    | some ro, some ri => match ro.as, ri.as with
      | .box j, .v (.int x y) => match st.sto[j]? with
        | some c => (c.put x y t).map fun d => ⟨st.env, st.sto.set j d⟩
        | none => none
      | _, _ => none
    | _, _ => none
  | _, _ => none
def aTgs (F : Sigs) : AS → List Tg → List AV → Option AS
  | st, [], [] => some st
  | st, g :: gs, a :: as => match aTg F st g a with
    | some st1 => aTgs F st1 gs as
    | none => none
  | _, _, _ => none
def goO (st : AS) : AO := ⟨some st, .bot, none, none⟩
def jnO (o p : AO) : Option AO := match jnS o.nx p.nx, JN o.rt p.rt, jnS o.bk p.bk, jnS o.ct p.ct with
  | some x, some r, some y, some z => some ⟨x, r, y, z⟩
  | _, _, _, _ => none
def aSs (g : AS → S → Option AO) : AS → List S → Option AO
  | st, [] => some (goO st)
  | st, s :: ss => match g st s with
    | none => none
    | some o => match o.nx with
      | none => some o
      | some st1 => match aSs g st1 ss with
        | none => none
        | some o2 => jnO ⟨none, o.rt, o.bk, o.ct⟩ o2
def aFor (body : AS → Option AO) (tg : Tg) (lo : Nat) : Nat → List Ty → AS → Option AO
  | _, [], st => some (goO st)
  | k, t :: ts, st => match aT 8 tg t st.env with
    | none => none
    | some e1 => match body ⟨e1, st.sto⟩ with
      | none => none
      | some o => match jnS o.nx o.ct with
        | none => none
        | some go => match (match go with
            | none => some (⟨none, .bot, none, none⟩ : AO)
            | some st2 => aFor body tg lo (k + 1) ts st2) with
          | none => none
          | some o2 => match jnS (if lo ≤ k then some st else none) o.bk with
            | none => none
            | some x => match jnS x o2.nx, JN o.rt o2.rt with
              | some y, some r => some ⟨y, r, none, none⟩
              | _, _ => none
def retT (sto : List CT) : AV → Option Ty
  | .v t => some t
  | .box j => (sto[j]?).map fun c => c.ty false
  | _ => none
def aSt (F : Sigs) : Nat → AS → S → Option AO
  | 0, _, _ => none
  | n + 1, st, s => match s with
    | .asg t e => match aN F st.env st.sto e with
      | some (a, sto) => (aTg F ⟨st.env, sto⟩ t a).map goO
      | none => none
    | .par ts es => if es.length ≤ 1000 then match aNs F st.env es st.sto with
        | some (as, sto) => (aTgs F ⟨st.env, sto⟩ ts as).map goO
        | none => none
      else none
    | .expr (.mth .append (.var i) [e]) => match st.env[i]? with
      | some (.box j) => match aE F 40 st.env st.sto e with
        | some r => match r.as, st.sto[j]? with
          | .v t, some c => if c.hi ≤ 10000 then (c.cat (.ex [t])).map fun d => goO ⟨st.env, st.sto.set j d⟩ else none
          | _, _ => none
        | none => none
      | _ => none
    | .expr (.mth .extend (.var i) [e]) => match st.env[i]? with
      | some (.box j) => match aE F 40 st.env st.sto e with
        | some r => match contA st.sto r.as, st.sto[j]? with
          | some (false, c2), some c => if c.hi ≤ 10000 ∧ c2.hi ≤ 10000 then (c.cat c2).map fun d => goO ⟨st.env, st.sto.set j d⟩ else none
          | _, _ => none
        | none => none
      | _ => none
    | .expr e => match aE F 40 st.env st.sto e with
      | some _ => some (goO st)
      | none => none
    | .ret e => match aE F 40 st.env st.sto e with
      | some r => (retT st.sto r.as).map fun t => ⟨none, t, none, none⟩
      | none => none
    | .retN => some ⟨none, .none, none, none⟩
    | .ite c x y => match aE F 40 st.env st.sto c with
      | some r => match blA r.as with
        | some (some true) => aSs (aSt F n) st x
        | some (some false) => aSs (aSt F n) st y
        | some none => match aSs (aSt F n) st x, aSs (aSt F n) st y with
          | some o1, some o2 => jnO o1 o2
          | _, _ => none
        | none => none
      | none => none
    | .for_ t src body => match aSrc (aE F 40 st.env st.sto) [] src with
      | some (.ex ts) => if ts.length ≤ 500 then aFor (fun s => aSs (aSt F n) s body) t ts.length 0 ts st else none
      | some (.sq e lo hi) => if hi ≤ 500 then aFor (fun s => aSs (aSt F n) s body) t lo 0 (List.replicate hi e) st else none
      | none => none
    | .brk => some ⟨none, .bot, some st, none⟩
    | .cnt => some ⟨none, .bot, none, some st⟩
    | .pass => some (goO st)
    | _ => none

section
variable {B : Mem → Prop} {Own : Nat → Prop} {b : Nat} {M0 : Mem} {T : Tb} {F : Sigs} {X : XW}
theorem goO_nx {st : AS} {P : Po} (h : PoOk B Own b M0 P (goO st)) {env : Env} {M : Mem} (g : Gs B Own b M0 st env M) : P.nx env M := h.nx env M g
theorem Ge.mono {ρ ρ' : Nat → Nat} {n m : Nat} {ge : List AV} {env : Env} (g : Ge b ρ n ge env) (h : n ≤ m) (hr : ∀ i, i < n → ρ' i = ρ i) : Ge b ρ' m ge env := by
  refine ⟨g.1, fun i a ha => ?_⟩
  rcases g.2 i a ha with h1 | ⟨h1, d, h2, h3⟩
  · exact .inl h1
  · refine .inr ⟨fun j e => Nat.lt_of_lt_of_le (h1 j e) h, d, h2, ?_⟩
    cases a with
    | v t => exact h3
    | box j =>
      show d = .loc (ρ' j)
      rw [hr j (h1 j rfl)]; exact h3
    | bag => exact h3
    | no => trivial
theorem InA.mono {ρ ρ' : Nat → Nat} {n : Nat} {a : AV} {d : D} (h : InA b ρ a d) (ok : okV n a = true) (hr : ∀ i, i < n → ρ' i = ρ i) : InA b ρ' a d := by
  cases a with
  | v t => exact h
  | box j =>
    show d = .loc (ρ' j)
    rw [hr j (of_decide_eq_true ok)]; exact h
  | bag => exact h
  | no => trivial
theorem okV_mono {n m : Nat} {a : AV} (h : okV n a = true) (l : n ≤ m) : okV m a = true := by
  cases a with
  | box j => exact decide_eq_true (Nat.lt_of_lt_of_le (of_decide_eq_true h) l)
  | _ => exact h
theorem m0_none (L : Bl B Own M0) {ρ : Nat → Nat} {sto : List CT} {M : Mem} (G : GmA B Own M0 sto ρ M) {n : Nat} (h : M n = none) : M0 n = none ∧ ¬ Own n := by
  have h1 : ¬ Own n := fun o => L.own1 M n G.bag o h
  refine ⟨Classical.byContradiction fun h2 => ?_, h1⟩
  rw [← G.fr n h1 h2] at h2
  exact h2 h
theorem GmA.new (L : Bl B Own M0) {ρ : Nat → Nat} {sto : List CT} {M : Mem} (G : GmA B Own M0 sto ρ M) {n : Nat} (h : M n = none) {c : CT} {ps : List PyData} (hc : InC c ps) :
    GmA B Own M0 (sto ++ [c]) (fun k => if k = sto.length then n else ρ k) (up M n (.lst (ps.map D.v))) := by
  obtain ⟨h0, h1⟩ := m0_none L G h
  have ne : ∀ i, i < sto.length → ρ i ≠ n := fun i hi e => by
    obtain ⟨qs, e1, _⟩ := G.at' i sto[i] (List.getElem?_eq_getElem hi)
    rw [e, h] at e1; cases e1
  refine ⟨fun i d hi => ?_, fun i j hi hj e => ?_, L.st _ _ (fun k o => up_ne fun e => h1 (by rw [← e]; exact o)) G.bag, fun k hk hm => ?_⟩
  · by_cases q : i = sto.length
    · subst q
      rw [List.getElem?_append_right (Nat.le_refl _), Nat.sub_self] at hi
      cases hi
      exact ⟨ps, by rw [if_pos rfl]; exact up_same _ _ _, hc, by rw [if_pos rfl]; exact h0⟩
    · have hl : i < sto.length := by
        have := (List.getElem?_eq_some_iff.mp hi).1
        rw [List.length_append] at this
        simp at this; omega
      rw [List.getElem?_append_left hl] at hi
      obtain ⟨qs, e1, e2, e3⟩ := G.at' i d hi
      rw [if_neg q]
      exact ⟨qs, by rw [up_ne (ne i hl)]; exact e1, e2, e3⟩
  · rw [List.length_append] at hi hj
    simp only [List.length_cons, List.length_nil] at hi hj
    by_cases q1 : i = sto.length
    · by_cases q2 : j = sto.length
      · omega
      · rw [if_pos q1, if_neg q2] at e
        exact absurd e.symm (ne j (by omega))
    · by_cases q2 : j = sto.length
      · rw [if_neg q1, if_pos q2] at e
        exact absurd e (ne i (by omega))
      · rw [if_neg q1, if_neg q2] at e
        exact G.inj i j (by omega) (by omega) e
  · rw [up_ne fun e => hm (by rw [e]; exact h0)]
    exact G.fr k hk hm
theorem GmA.put (L : Bl B Own M0) {ρ : Nat → Nat} {sto : List CT} {M : Mem} (G : GmA B Own M0 sto ρ M) {j : Nat} {c d : CT} (hj : sto[j]? = some c) {qs : List PyData} (hd : InC d qs) : GmA B Own M0 (sto.set j d) ρ (up M (ρ j) (.lst (qs.map D.v))) := by
  obtain ⟨ps, e1, e2, e3⟩ := G.at' j c hj
  have hlt : j < sto.length := (List.getElem?_eq_some_iff.mp hj).1
  refine ⟨fun i x hi => ?_, fun i k hi hk => ?_, L.st _ _ (fun k o => up_ne fun e => L.own0 k o (by rw [e]; exact e3)) G.bag, fun k hk hm => ?_⟩
  · by_cases q : i = j
    · subst q
      rw [List.getElem?_set_self hlt] at hi
      cases hi
      exact ⟨qs, up_same _ _ _, hd, e3⟩
    · rw [List.getElem?_set_ne (Ne.symm q)] at hi
      obtain ⟨ps', f1, f2, f3⟩ := G.at' i x hi
      have hi2 : i < sto.length := (List.getElem?_eq_some_iff.mp hi).1
      exact ⟨ps', by rw [up_ne fun e => q (G.inj i j hi2 hlt e)]; exact f1, f2, f3⟩
  · rw [List.length_set] at hi hk
    exact G.inj i k hi hk
  · rw [up_ne fun e => hm (by rw [e]; exact e3)]
    exact G.fr k hk hm
theorem aN_ok (L : Bl B Own M0) (hF : SgOk B Own b T F) {ge : List AV} {sto : List CT} {e : E} {a : AV} {sto1 : List CT} (q : aN F ge sto e = some (a, sto1)) {ρ : Nat → Nat} {env : Env} {M : Mem} {P : D → Mem → Prop} (g : Ge b ρ sto.length ge env) (G : GmA B Own M0 sto ρ M)
    (hP : ∀ d M' ρ', InA b ρ' a d → GmA B Own M0 sto1 ρ' M' → (∀ i, i < sto.length → ρ' i = ρ i) → P d M') : sto.length ≤ sto1.length ∧ okV sto1.length a = true ∧ evR T X e env M (asVal P) := by
  have ih := aE_ok L hF 40 sto
  have gen : (match aE F 40 ge sto e with
    | some r => if okV sto.length r.as = true then some (r.as, sto) else none
    | none => none) = some (a, sto1) → sto.length ≤ sto1.length ∧ okV sto1.length a = true ∧ evR T X e env M (asVal P) := fun q => by
    split at q
    · rename_i r hr
      split at q
      · rename_i ho
        cases q
        exact ⟨Nat.le_refl _, ho, ih.val hr g G fun d M' hd hB hs => hP d M' ρ hd (G.move L hB hs) fun _ _ => rfl⟩
      · cases q
    · cases q
  unfold aN at q
  split at q
  · split at q
    · rename_i e' _ c hc
      cases q
      refine ⟨by rw [List.length_append]; omega, decide_eq_true (by rw [List.length_append]; simp), ?_⟩
      unfold evR
      refine ih e' ge (.fl c) hc ρ env M X _ g G fun rs M' hr hB hs => ?_
      obtain ⟨ps, rfl, hps⟩ := hr
      intro n hn
      have G' := (G.move L hB hs).new L hn hps
      rw [asVal_val]
      refine hP _ _ _ ?_ G' fun i hi => if_neg (by omega)
      show D.loc n = .loc (if sto.length = sto.length then n else ρ sto.length)
      rw [if_pos rfl]
    · cases q
  · exact gen q
def InBs (b : Nat) (ρ : Nat → Nat) (n : Nat) : List AV → List D → Prop
  | [], [] => True
  | a :: as, d :: ds => (okV n a = true ∧ InA b ρ a d) ∧ InBs b ρ n as ds
  | _, _ => False
theorem InBs.len {ρ : Nat → Nat} {n : Nat} : ∀ {as : List AV} {ds : List D}, InBs b ρ n as ds → as.length = ds.length
  | [], [], _ => rfl
  | _ :: _, _ :: _, h => congrArg (· + 1) (InBs.len h.2)
  | [], _ :: _, h => h.elim
  | _ :: _, [], h => h.elim
theorem aNs_ok (L : Bl B Own M0) (hF : SgOk B Own b T F) {ge : List AV} : ∀ {es : List E} {sto sto1 : List CT} {as : List AV} {ρ : Nat → Nat} {env : Env} {M : Mem} {P : List D → Mem → Prop}, aNs F ge es sto = some (as, sto1) → Ge b ρ sto.length ge env → GmA B Own M0 sto ρ M →
    (∀ ds M' ρ', InBs b ρ' sto1.length as ds → GmA B Own M0 sto1 ρ' M' → (∀ i, i < sto.length → ρ' i = ρ i) → P ds M') → sto.length ≤ sto1.length ∧ es.length = as.length ∧ evL T X es env M P
  | [], sto, sto1, as, ρ, env, M, P, q, g, G, hP => by
    cases q
    exact ⟨Nat.le_refl _, rfl, hP [] M ρ trivial G fun _ _ => rfl⟩
  | e :: es, sto, sto1, as, ρ, env, M, P, q, g, G, hP => by
    unfold aNs at q
    split at q
    · rename_i a st1 h1
      split at q
      · rename_i as' st2 h2
        cases q
        have z := aN_ok (X := X) L hF h1 (P := fun _ _ => True) g G fun _ _ _ _ _ _ => trivial
        have len : ∀ {es : List E} {st st' : List CT} {as : List AV}, aNs F ge es st = some (as, st') → st.length ≤ st'.length ∧ es.length = as.length := by
          intro es
          induction es with
          | nil => intro st st' as q; cases q; exact ⟨Nat.le_refl _, rfl⟩
          | cons e es ih =>
            intro st st' as q
            unfold aNs at q
            split at q
            · rename_i a s1 k1
              split at q
              · rename_i as' s2 k2
                cases q
                have w := ih k2
                have v : st.length ≤ s1.length := by
                  unfold aN at k1
                  split at k1
                  · split at k1
                    · cases k1; rw [List.length_append]; omega
                    · cases k1
                  · split at k1
                    · split at k1
                      · cases k1; exact Nat.le_refl _
                      · cases k1
                    · cases k1
                exact ⟨Nat.le_trans v w.1, congrArg (· + 1) w.2⟩
              · cases q
            · cases q
        have l2 := len h2
        refine ⟨Nat.le_trans z.1 l2.1, congrArg (· + 1) l2.2, ?_⟩
        unfold evL
        refine (aN_ok (X := X) L hF h1 g G fun d M' ρ' hd G' hr => ?_).2.2
        refine (aNs_ok L hF h2 (g.mono z.1 hr) G' fun ds M2 ρ2 hds G2 hr2 => ?_).2.2
        refine hP (d :: ds) M2 ρ2 ⟨⟨okV_mono z.2.1 l2.1, hd.mono z.2.1 hr2⟩, hds⟩ G2 fun i hi => ?_
        rw [hr2 i (Nat.lt_of_lt_of_le hi z.1), hr i hi]
      · cases q
    · cases q
theorem aTg_ok (L : Bl B Own M0) (hF : SgOk B Own b T F) {st st1 : AS} {t : Tg} {a : AV} (q : aTg F st t a = some st1) {ρ : Nat → Nat} {env : Env} {M : Mem} {d : D} {P : Env → Mem → Prop} (g : Ge b ρ st.sto.length st.env env) (G : GmA B Own M0 st.sto ρ M) (hd : InA b ρ a d)
    (hP : ∀ env1 M1, Ge b ρ st1.sto.length st1.env env1 → GmA B Own M0 st1.sto ρ M1 → st1.sto.length = st.sto.length → P env1 M1) : evT T X t d env M P := by
  unfold aTg at q
  split at q
  · split at q
    · rename_i i a hh
      cases q
      unfold evT
      refine ⟨by rw [g.1]; exact hh.1, hP _ M ?_ G rfl⟩
      exact g.set hd fun j e => by
        have := hh.2
        rw [e] at this
        exact of_decide_eq_true this
    · cases q
  · rename_i gs t
    obtain ⟨e, he, rfl⟩ := Option.map_eq_some_iff.mp q
    obtain ⟨p, rfl, hp⟩ := hd
    exact aT_ok 8 he g hp fun env1 g1 => hP env1 M g1 G rfl
  · split at q
    · rename_i o i t ro ri h1 h2
      split at q
      · rename_i j x y e1 e2
        split at q
        · rename_i c hc
          obtain ⟨c', hc', rfl⟩ := Option.map_eq_some_iff.mp q
          obtain ⟨p, rfl, hp⟩ := hd
          have ih := aE_ok L hF 40 st.sto
          unfold evT
          refine ih.val h1 g G fun d1 M1 hd1 hB1 hs1 => ?_
          have G1 := G.move L hB1 hs1
          refine ih.val h2 g G1 fun d2 M2 hd2 hB2 hs2 => ?_
          have G2 := G1.move L hB2 hs2
          rw [e1] at hd1
          have ed : d1 = .loc (ρ j) := hd1
          subst ed
          obtain ⟨k, rfl, k1, k2⟩ := hd2.int e2
          obtain ⟨ps, f1, f2, f3⟩ := G2.at' j c hc
          obtain ⟨m, m1, m2⟩ := f2.put hp hc' k1 k2
          refine ⟨_, _, k, m, rfl, rfl, f1, by rw [List.length_map]; exact m1, ?_⟩
          have es : (ps.map D.v).set m (.v p) = (ps.set m p).map D.v := by rw [List.map_set]
          rw [es]
          refine hP env _ ?_ (G2.put L hc m2) (List.length_set ..)
          show Ge b ρ (st.sto.set j c').length st.env env
          rw [List.length_set]; exact g
        · cases q
      · cases q
    · cases q
  · cases q
theorem aTgs_ok (L : Bl B Own M0) (hF : SgOk B Own b T F) : ∀ {ts : List Tg} {as : List AV} {st st1 : AS} {ρ : Nat → Nat} {env : Env} {M : Mem} {ds : List D} {P : Env → Mem → Prop}, aTgs F st ts as = some st1 → Ge b ρ st.sto.length st.env env → GmA B Own M0 st.sto ρ M → InBs b ρ st.sto.length as ds →
    (∀ env1 M1, Ge b ρ st1.sto.length st1.env env1 → GmA B Own M0 st1.sto ρ M1 → P env1 M1) → ds.length = ts.length ∧ evTs T X ts ds env M P
  | [], [], st, st1, ρ, env, M, ds, P, q, g, G, hd, hP => by
    cases q
    cases ds with
    | nil => exact ⟨rfl, hP env M g G⟩
    | cons _ _ => exact hd.elim
  | t :: ts, a :: as, st, st1, ρ, env, M, ds, P, q, g, G, hd, hP => by
    cases ds with
    | nil => exact hd.elim
    | cons d ds =>
      have len : ∀ {ts : List Tg} {as : List AV} {st st1 : AS}, aTgs F st ts as = some st1 → ts.length = as.length := by
        intro ts
        induction ts with
        | nil => intro as st st1 q; cases as with
          | nil => rfl
          | cons _ _ => cases q
        | cons t ts ih => intro as st st1 q; cases as with
          | nil => cases q
          | cons a as =>
            unfold aTgs at q
            split at q
            · exact congrArg (· + 1) (ih q)
            · cases q
      have l := len q
      have l2 := hd.len
      unfold aTgs at q
      split at q
      · rename_i st2 h2
        refine ⟨by rw [← l2, l], ?_⟩
        unfold evTs
        refine ⟨d, ds, rfl, aTg_ok L hF h2 g G hd.1.2 fun env1 M1 g1 G1 hl => ?_⟩
        refine (aTgs_ok L hF q g1 G1 ?_ hP).2
        rw [hl]; exact hd.2
      · cases q
  | [], _ :: _, st, st1, ρ, env, M, ds, P, q, g, G, hd, hP => by cases q
  | _ :: _, [], st, st1, ρ, env, M, ds, P, q, g, G, hd, hP => by cases q
theorem jnO_l {o p r : AO} {P : Po} (q : jnO o p = some r) (h : PoOk B Own b M0 P r) : PoOk B Own b M0 P o ∧ PoOk B Own b M0 P p := by
  unfold jnO at q
  split at q
  · rename_i x t y z h1 h2 h3 h4
    cases q
    exact ⟨⟨fun e M g => h.nx e M ((jnS_ok h1).1 g), fun d M g => h.rt d M (rt_mono (fun p => (JN_ok _ _ _ h2 p).1) g), fun e M g => h.bk e M ((jnS_ok h3).1 g), fun e M g => h.ct e M ((jnS_ok h4).1 g)⟩,
      ⟨fun e M g => h.nx e M ((jnS_ok h1).2 g), fun d M g => h.rt d M (rt_mono (fun p => (JN_ok _ _ _ h2 p).2) g), fun e M g => h.bk e M ((jnS_ok h3).2 g), fun e M g => h.ct e M ((jnS_ok h4).2 g)⟩⟩
  · cases q
def StOk (B : Mem → Prop) (Own : Nat → Prop) (b : Nat) (M0 : Mem) (T : Tb) (g : AS → S → Option AO) : Prop := ∀ st s o, g st s = some o → ∀ (env : Env) (M : Mem) (X : XW) (P : Po), Gs B Own b M0 st env M → PoOk B Own b M0 P o → evS T X s env M P
theorem aSs_ok {g : AS → S → Option AO} (hg : StOk B Own b M0 T g) : ∀ {ss : List S} {st : AS} {o : AO} {env : Env} {M : Mem} {P : Po}, aSs g st ss = some o → Gs B Own b M0 st env M → PoOk B Own b M0 P o → evSs T X ss env M P
  | [], st, o, env, M, P, q, G, h => by
    cases q
    exact goO_nx h G
  | s :: ss, st, o, env, M, P, q, G, h => by
    unfold aSs at q
    unfold evSs
    split at q
    · cases q
    · rename_i o1 h1
      split at q
      · rename_i hn
        cases q
        refine hg st s o h1 env M X _ G ⟨fun e m gn => ?_, h.rt, h.bk, h.ct⟩
        rw [hn] at gn; exact gn.elim
      · rename_i st1 hn
        split at q
        · cases q
        · rename_i o2 h2
          obtain ⟨p1, p2⟩ := jnO_l q h
          refine hg st s o1 h1 env M X _ G ⟨fun e m gn => ?_, p1.rt, p1.bk, p1.ct⟩
          rw [hn] at gn
          exact aSs_ok hg h2 gn p2
inductive InP : List Ty → List PyData → Prop
  | nil {ts : List Ty} : InP ts []
  | cons {t : Ty} {ts : List Ty} {p : PyData} {ps : List PyData} (h : In t p) (r : InP ts ps) : InP (t :: ts) (p :: ps)
theorem aFor_ok {gd : Mem → Prop} {W : Env → Mem → Po → Prop} {body : AS → Option AO} {tg : Tg} {lo : Nat} (hgd : ∀ M, gd M) (hb : ∀ st o, body st = some o → ∀ env M P, Gs B Own b M0 st env M → PoOk B Own b M0 P o → W env M P) :
    ∀ {ts : List Ty} {k : Nat} {st : AS} {o : AO} {ps : List PyData} {env : Env} {M : Mem} {P : Po}, aFor body tg lo k ts st = some o → InP ts ps → lo ≤ k + ps.length → Gs B Own b M0 st env M → (∀ env M, Gn B Own b M0 o.nx env M → P.nx env M) → (∀ d M, Rt B Own M0 o.rt d M → P.rt d M) →
      forW gd (evT T X tg) W P (ps.map D.v) env M
  | [], k, st, o, ps, env, M, P, q, hp, hl, G, hn, hr => by
    cases q
    cases hp
    exact ⟨hgd M, hn env M G⟩
  | t :: ts, k, st, o, ps, env, M, P, q, hp, hl, G, hn, hr => by
    unfold aFor at q
    split at q
    · cases q
    · rename_i e1 h1
      split at q
      · cases q
      · rename_i o1 h2
        split at q
        · cases q
        · rename_i go h3
          split at q
          · cases q
          · rename_i o2 h4
            split at q
            · cases q
            · rename_i x h5
              split at q
              · rename_i y r h6 h7
                cases q
                cases hp with
                | nil =>
                  refine ⟨hgd M, hn env M ((jnS_ok h6).1 ((jnS_ok h5).1 ?_))⟩
                  rw [if_pos (by simpa using hl)]
                  exact G
                | cons hp hps =>
                  rename_i p ps'
                  obtain ⟨ρ, g, G'⟩ := G
                  refine ⟨hgd M, aT_ok 8 h1 g hp fun env1 g1 => ?_⟩
                  have cont : ∀ e m, Gn B Own b M0 go e m → forW gd (evT T X tg) W P (ps'.map D.v) e m := fun e m gn => by
                    cases go with
                    | none => exact gn.elim
                    | some st2 =>
                      refine aFor_ok hgd hb h4 hps (by rw [List.length_cons] at hl; omega) gn (fun e m gg => hn e m ((jnS_ok h6).2 gg)) fun d m gg => hr d m (rt_mono (fun p => (JN_ok _ _ _ h7 p).2) gg)
                  refine hb _ o1 h2 env1 M _ ⟨ρ, g1, G'⟩ ⟨fun e m gg => cont e m ((jnS_ok h3).1 gg), fun d m gg => hr d m (rt_mono (fun p => (JN_ok _ _ _ h7 p).1) gg), fun e m gg => hn e m ((jnS_ok h6).1 ((jnS_ok h5).2 gg)), fun e m gg => cont e m ((jnS_ok h3).2 gg)⟩
              · cases q
theorem InC.inP {c : CT} {ps : List PyData} (h : InC c ps) : InP (match c with | .ex ts => ts | .sq e _ hi => List.replicate hi e) ps := by
  cases c with
  | ex ts =>
    have g : ∀ {ts : List Ty} {ps : List PyData}, InL ts ps → InP ts ps := by
      intro ts ps h
      induction ps generalizing ts with
      | nil => exact .nil
      | cons p ps ih =>
        cases h with
        | cons a r => exact .cons a (ih r)
    exact g h
  | sq e lo hi =>
    have g : ∀ {ps : List PyData} {n : Nat}, (∀ z, z ∈ ps → In e z) → ps.length ≤ n → InP (List.replicate n e) ps := by
      intro ps
      induction ps with
      | nil => exact fun _ _ => .nil
      | cons p ps ih =>
        intro n h hl
        cases n with
        | zero => simp at hl
        | succ n => exact .cons (h p (List.mem_cons_self ..)) (ih (fun z hz => h z (List.mem_cons_of_mem _ hz)) (by simpa using hl))
    exact g h.1 h.2.2
theorem aSt_ok (L : Bl B Own M0) (hF : SgOk B Own b T F) : ∀ n, StOk B Own b M0 T (aSt F n)
  | 0 => fun st s o q => by cases q
  | n + 1 => fun st s o q env M X P Gg h => by
    have ih := aSt_ok L hF n
    have hz := sizeLine_eq
    obtain ⟨ρ, g, G⟩ := Gg
    have eo := aE_ok L hF 40 st.sto
    have out : ∀ {e : E} {t : AV → Option Unit}, True := fun {_ _} => trivial
    unfold aSt at q
    split at q
    · rename_i t e
      split at q
      · rename_i a sto1 h1
        obtain ⟨st1, h2, rfl⟩ := Option.map_eq_some_iff.mp q
        unfold evS
        have z := aN_ok (X := X) L hF h1 (P := fun _ _ => True) g G fun _ _ _ _ _ _ => trivial
        refine (aN_ok (X := X) L hF h1 g G fun d M' ρ' hd G' hr => ?_).2.2
        exact aTg_ok L hF h2 (g.mono z.1 hr) G' hd fun env1 M1 g1 G1 _ => goO_nx h ⟨ρ', g1, G1⟩
      · cases q
    · rename_i ts es
      split at q
      · rename_i hl
        split at q
        · rename_i as sto1 h1
          obtain ⟨st1, h2, rfl⟩ := Option.map_eq_some_iff.mp q
          unfold evS
          have z := aNs_ok (X := X) L hF h1 (P := fun _ _ => True) g G fun _ _ _ _ _ _ => trivial
          refine (aNs_ok (X := X) L hF h1 g G fun ds M' ρ' hds G' hr => ?_).2.2
          have l := hds.len
          have w := aTgs_ok (X := X) L hF h2 (g.mono z.1 hr) G' hds (P := fun e m => P.nx e m) fun env1 M1 g1 G1 => goO_nx h ⟨ρ', g1, G1⟩
          exact ⟨by rw [← l, ← z.2.1]; omega, w.1, w.2⟩
        · cases q
      · cases q
    · rename_i i e
      split at q
      · rename_i j hj
        split at q
        · rename_i r hr
          split at q
          · rename_i t c ht hc
            split at q
            · rename_i hl
              obtain ⟨d, hd, rfl⟩ := Option.map_eq_some_iff.mp q
              unfold evS evR
              rcases g.2 i _ hj with z | ⟨z1, dd, z2, z3⟩
              · cases z
              · have e1 : dd = .loc (ρ j) := z3
                subst e1
                unfold evR
                refine ⟨_, z2, ?_⟩
                rw [asVal_val]
                obtain ⟨ps, f1, f2, f3⟩ := G.at' j c hc
                refine ⟨by rw [lstOf_loc f1]; rfl, ?_⟩
                unfold evL
                refine eo.val hr g G fun d1 M1 hd1 hB1 hs1 => ?_
                have G1 := G.move L hB1 hs1
                rw [ht] at hd1
                obtain ⟨p, rfl, hp⟩ := hd1
                obtain ⟨ps, f1, f2, f3⟩ := G1.at' j c hc
                have lf := f2.len
                unfold evL
                show mtW .append (.loc (ρ j)) [D.v p] M1 (fun d M3 => asVal (fun x M1 => P.nx env M1) (Rs.val d) M3)
                rw [mw_app]
                refine ⟨_, f1, by rw [List.length_map]; omega, ?_⟩
                rw [asVal_val]
                have em : ps.map D.v ++ [D.v p] = (ps ++ [p]).map D.v := by rw [List.map_append]; rfl
                rw [em]
                refine goO_nx h ⟨ρ, ?_, G1.put L hc (f2.cat (b := .ex [t]) (.cons hp .nil) hd)⟩
                show Ge b ρ (st.sto.set j d).length st.env env
                rw [List.length_set]; exact g
            · cases q
          · cases q
        · cases q
      · cases q
    · rename_i i e
      split at q
      · rename_i j hj
        split at q
        · rename_i r hr
          split at q
          · rename_i c2 c ht hc
            split at q
            · rename_i hl
              obtain ⟨d, hd, rfl⟩ := Option.map_eq_some_iff.mp q
              unfold evS evR
              rcases g.2 i _ hj with z | ⟨z1, dd, z2, z3⟩
              · cases z
              · have e1 : dd = .loc (ρ j) := z3
                subst e1
                unfold evR
                refine ⟨_, z2, ?_⟩
                rw [asVal_val]
                obtain ⟨ps, f1, f2, f3⟩ := G.at' j c hc
                refine ⟨by rw [lstOf_loc f1]; rfl, ?_⟩
                unfold evL
                refine eo.val hr g G fun d1 M1 hd1 hB1 hs1 => ?_
                have G1 := G.move L hB1 hs1
                obtain ⟨qs, q1, _, q2, _⟩ := cont_ok G1 hd1 ht
                obtain ⟨ps, f1, f2, f3⟩ := G1.at' j c hc
                have lf := f2.len
                have lq := q1.len
                unfold evL
                show mtW .extend (.loc (ρ j)) [d1] M1 (fun d M3 => asVal (fun x M1 => P.nx env M1) (Rs.val d) M3)
                rw [mw_ext]
                refine ⟨_, _, f1, q2 rfl, by rw [List.length_map, List.length_map]; omega, ?_⟩
                rw [asVal_val, ← List.map_append]
                refine goO_nx h ⟨ρ, ?_, G1.put L hc (f2.cat q1 hd)⟩
                show Ge b ρ (st.sto.set j d).length st.env env
                rw [List.length_set]; exact g
            · cases q
          · cases q
        · cases q
      · cases q
    · split at q
      · rename_i r hr
        cases q
        unfold evS
        exact eo.val hr g G fun d M' _ hB hs => goO_nx h ⟨ρ, g, G.move L hB hs⟩
      · cases q
    · split at q
      · rename_i r hr
        obtain ⟨t, ht, rfl⟩ := Option.map_eq_some_iff.mp q
        unfold evS
        refine eo.val hr g G fun d M' hd hB hs => ?_
        have G1 := G.move L hB hs
        refine h.rt d M' ⟨?_, G1.bag, G1.fr⟩
        unfold retT at ht
        split at ht
        · rename_i hv
          cases ht
          rw [hv] at hd
          obtain ⟨p, rfl, hp⟩ := hd
          exact ⟨p, rfl, hp⟩
        · rename_i j hv
          obtain ⟨c, hc, rfl⟩ := Option.map_eq_some_iff.mp ht
          rw [hv] at hd
          have e1 : d = .loc (ρ j) := hd
          subst e1
          obtain ⟨ps, f1, f2, f3⟩ := G1.at' j c hc
          refine ⟨.list ps, ?_, f2.ty false⟩
          have fm : (ps.map D.v).mapM (frz M0 3 M') = some ps := by
            clear f1 f2
            induction ps with
            | nil => rfl
            | cons p ps ih =>
              rw [List.map_cons, List.mapM_cons, ih]; rfl
          show (match M0 (ρ j) with | some _ => none | none => match M' (ρ j) with
            | some (.lst ds) => (ds.mapM (frz M0 3 M')).map PyData.list
            | some (.dct kvs) => _
            | _ => none) = _
          rw [f3, f1]
          dsimp only
          rw [fm]; rfl
        · cases ht
      · cases q
    · cases q
      unfold evS
      exact h.rt _ M ⟨⟨.none, rfl, .none⟩, G.bag, G.fr⟩
    · rename_i c x y
      unfold evS
      split at q
      · rename_i r hr
        split at q
        · rename_i hb
          refine eo.val hr g G fun d M' hd hB hs => ?_
          obtain ⟨cc, rfl, hc⟩ := blA_ok hb hd
          refine ⟨cc, rfl, ?_⟩
          rw [hc true rfl, if_pos rfl]
          exact aSs_ok ih q ⟨ρ, g, G.move L hB hs⟩ h
        · rename_i hb
          refine eo.val hr g G fun d M' hd hB hs => ?_
          obtain ⟨cc, rfl, hc⟩ := blA_ok hb hd
          refine ⟨cc, rfl, ?_⟩
          rw [hc false rfl, if_neg (by decide)]
          exact aSs_ok ih q ⟨ρ, g, G.move L hB hs⟩ h
        · rename_i hb
          split at q
          · rename_i o1 o2 h1 h2
            obtain ⟨p1, p2⟩ := jnO_l q h
            refine eo.val hr g G fun d M' hd hB hs => ?_
            obtain ⟨cc, rfl, hc⟩ := blA_ok hb hd
            refine ⟨cc, rfl, ?_⟩
            split
            · exact aSs_ok ih h1 ⟨ρ, g, G.move L hB hs⟩ p1
            · exact aSs_ok ih h2 ⟨ρ, g, G.move L hB hs⟩ p2
          · cases q
        · cases q
      · cases q
    · rename_i t src body
      unfold evS
      have hb : ∀ st o, (fun s => aSs (aSt F n) s body) st = some o → ∀ env M P, Gs B Own b M0 st env M → PoOk B Own b M0 P o → (fun env M P => evSs T X body env M P) env M P := fun st o q env M P G h => aSs_ok ih q G h
      split at q
      · rename_i ts hts
        split at q
        · refine eo.src0 L g hts G fun ps it M' hp hx hok hB hs => ?_
          rw [hx]
          exact aFor_ok (fun M => hok M) hb q hp.inP (by have := InL.len hp; omega) ⟨ρ, g, G.move L hB hs⟩ h.nx h.rt
        · cases q
      · rename_i e lo hi hts
        split at q
        · refine eo.src0 L g hts G fun ps it M' hp hx hok hB hs => ?_
          rw [hx]
          exact aFor_ok (fun M => hok M) hb q hp.inP (by have := hp.2.1; omega) ⟨ρ, g, G.move L hB hs⟩ h.nx h.rt
        · cases q
      · cases q
    · cases q
      unfold evS
      exact h.bk env M ⟨ρ, g, G⟩
    · cases q
      unfold evS
      exact h.ct env M ⟨ρ, g, G⟩
    · cases q
      unfold evS
      exact goO_nx h ⟨ρ, g, G⟩
    · cases q
end
end Pd

namespace Pd
open PySem L2
def aFn1 (F : Sigs) (N : Nat) (ir : List S) (ats : List AV) : Option Ty :=
  match aSs (aSt F 40) ⟨ats ++ List.replicate (N - ats.length) .no, []⟩ ir with
  | some o => match o.bk, o.ct with
    | none, none => match o.nx with
      | none => some o.rt
      | some _ => JN o.rt .none
    | _, _ => none
  | none => none
def expA : AV → List AV
  | .v (.seq t e lo hi) => if hi - lo ≤ 70 then (List.range (hi + 1 - lo)).map fun k => .v (.seq t e (lo + k) (lo + k)) else [.v (.seq t e lo hi)]
  | a => [a]
def expAs : List AV → List (List AV)
  | [] => [[]]
  | a :: as => (expA a).flatMap fun x => (expAs as).map (x :: ·)
def sigOf (F : Sigs) (N n : Nat) (ir : List S) : Sig := fun ats =>
  if ats.length = n ∧ ats.all AV.plain = true then match mapO (aFn1 F N ir) (expAs ats) with
    | some ts => jnA JN ts
    | none => none
  else none
theorem expA_ok {b : Nat} {a : AV} {d : D} (h : InF b a d) : ∃ c, c ∈ expA a ∧ InF b c d := by
  unfold expA
  split
  · rename_i t e lo hi
    split
    · obtain ⟨p, rfl, hp⟩ := h
      cases hp with
      | seq q h h1 h2 =>
        rename_i ps
        refine ⟨_, List.mem_map.mpr ⟨ps.length - lo, List.mem_range.mpr (by omega), rfl⟩, p, rfl, .seq q h (by omega) (by omega)⟩
    · exact ⟨_, List.mem_singleton.mpr rfl, h⟩
  · exact ⟨_, List.mem_singleton.mpr rfl, h⟩
theorem expAs_ok {b : Nat} : ∀ {as : List AV} {ds : List D}, InFs b as ds → ∃ cs, cs ∈ expAs as ∧ InFs b cs ds
  | [], [], _ => ⟨[], List.mem_singleton.mpr rfl, trivial⟩
  | a :: as, d :: ds, h => by
    obtain ⟨c, c1, c2⟩ := expA_ok h.1
    obtain ⟨cs, d1, d2⟩ := expAs_ok h.2
    exact ⟨c :: cs, List.mem_flatMap.mpr ⟨c, c1, List.mem_map.mpr ⟨cs, d1, rfl⟩⟩, c2, d2⟩
  | [], _ :: _, h => h.elim
  | _ :: _, [], h => h.elim
theorem InFs.len {b : Nat} : ∀ {as : List AV} {ds : List D}, InFs b as ds → as.length = ds.length
  | [], [], _ => rfl
  | _ :: _, _ :: _, h => congrArg (· + 1) (InFs.len h.2)
  | [], _ :: _, h => h.elim
  | _ :: _, [], h => h.elim
theorem mapO_mem {α β : Type} {f : α → Option β} : ∀ {xs : List α} {ys : List β} {x : α}, mapO f xs = some ys → x ∈ xs → ∃ y, f x = some y ∧ y ∈ ys
  | a :: xs, ys, x, h, hm => by
    unfold mapO at h
    split at h
    · rename_i y ys' h1 h2
      cases h
      rcases List.mem_cons.mp hm with rfl | hm
      · exact ⟨y, h1, List.mem_cons_self ..⟩
      · obtain ⟨z, z1, z2⟩ := mapO_mem h2 hm
        exact ⟨z, z1, List.mem_cons_of_mem _ z2⟩
    · cases h
/-- how drawn numbers are kept: two things of the store -/
structure Disc (BG : Mem → Nat → Nat → Prop) : Prop where
  some : ∀ M b m, BG M b m → M b ≠ none ∧ M m ≠ none
  st : ∀ M M' b m, M' b = M b → M' m = M m → BG M b m → BG M' b m
def own (b m : Nat) : Nat → Prop := fun k => k = b ∨ k = m
def spA (BG : Mem → Nat → Nat → Prop) (sig : Sig) : FS := fun ds M P _ => ∃ b m ats t, sig ats = some t ∧ InFs b ats ds ∧ BG M b m ∧ ∀ p M', In t p → BG M' b m → SameBut M M' b m → P (.v p) M'
def Ent (BG : Mem → Nat → Nat → Prop) (T : Tb) (f : Str) (s : Sig) : Prop := ∀ b m ats t ds M (P : D → Mem → Prop) (PX : XN → Mem → Prop), s ats = some t → InFs b ats ds → BG M b m → (∀ p M', In t p → BG M' b m → SameBut M M' b m → P (.v p) M') → T f ds M P PX
theorem ent_A {BG : Mem → Nat → Nat → Prop} {T : Tb} {f : Str} {s : Sig} (h : T f = spA BG s) : Ent BG T f s := fun b m ats t ds M P PX q hi hB hP => by
  rw [h]
  exact ⟨b, m, ats, t, q, hi, hB, hP⟩
def sigs (L : List (Str × Sig)) : Sigs := fun f => match L.lookup f with
  | some s => s
  | none => fun _ => none
theorem bl_of {BG : Mem → Nat → Nat → Prop} (d : Disc BG) {M0 : Mem} {b m : Nat} (h : BG M0 b m) : Bl (fun M => BG M b m) (own b m) M0 where
  own0 := fun k hk => by
    rcases hk with rfl | rfl
    · exact (d.some _ _ _ h).1
    · exact (d.some _ _ _ h).2
  own1 := fun M k hB hk => by
    rcases hk with rfl | rfl
    · exact (d.some _ _ _ hB).1
    · exact (d.some _ _ _ hB).2
  st := fun M M' hs hB => d.st M M' b m (hs b (.inl rfl)) (hs m (.inr rfl)) hB
theorem sgs_ok {BG : Mem → Nat → Nat → Prop} {T : Tb} {L : List (Str × Sig)} (h : ∀ e, e ∈ L → Ent BG T e.1 e.2) (b m : Nat) : SgOk (fun M => BG M b m) (own b m) b T (sigs L) := fun f ats t ds M P PX q hi hB hP => by
  unfold sigs at q
  cases hs : L.lookup f with
  | some s =>
    rw [hs] at q
    exact h (f, s) (lookup_memP hs) b m ats t ds M P PX q hi hB fun p M' hp hB' hS => hP p M' hp hB' fun k hk => hS k (fun e => hk (.inl e)) fun e => hk (.inr e)
  | none =>
    rw [hs] at q
    cases q
theorem auto_ok {BG : Mem → Nat → Nat → Prop} (dc : Disc BG) {T : Tb} {L : List (Str × Sig)} (hL : ∀ e, e ∈ L → Ent BG T e.1 e.2) {N n : Nat} {ir : List S} : ∀ ds M P PX, spA BG (sigOf (sigs L) N n ir) ds M P PX → fnW false T N n ir ds M P PX := by
  rintro ds M0 P PX ⟨b, m, ats, t, q, hi, hB, hP⟩
  have hF := sgs_ok hL b m
  have hb := bl_of dc hB
  have bs := dc.some _ _ _ hB
  unfold sigOf at q
  split at q
  · rename_i hn
    split at q
    · rename_i ts hts
      obtain ⟨cs, c1, c2⟩ := expAs_ok hi
      obtain ⟨u, u1, u2⟩ := mapO_mem hts c1
      have hl : ds.length = cs.length := (InFs.len c2).symm
      have hl2 : ds.length = n := by rw [← hn.1]; exact (InFs.len hi).symm
      refine ⟨hl2, ?_⟩
      have fin : ∀ d M', Rt (fun M => BG M b m) (own b m) M0 u d M' → exitW false M0 P d M' := fun d M' h => by
        obtain ⟨⟨p, h1, h2⟩, h3, h4⟩ := h
        refine ⟨p, h1, hP p _ (jnA_ok JN_ok q u2 h2) (dc.st M' _ b m ?_ ?_ h3) fun k k1 k2 => ?_⟩
        · unfold restr
          cases e : M0 b with
          | none => exact absurd e bs.1
          | some _ => rfl
        · unfold restr
          cases e : M0 m with
          | none => exact absurd e bs.2
          | some _ => rfl
        · unfold restr
          cases e : M0 k with
          | none => rfl
          | some x =>
            show M' k = some x
            rw [h4 k (fun o => o.elim k1 k2) (by rw [e]; simp), e]
      unfold aFn1 at u1
      split at u1
      · rename_i o ho
        refine aSs_ok (aSt_ok hb hF 40) ho ⟨fun k => k, ⟨?_, ?_⟩, ⟨fun i c e => by simp at e, fun i j hi => by simp at hi, hB, fun k _ _ => rfl⟩⟩ ?_
        · simp only [List.length_append, List.length_map, List.length_replicate, hl]
        · intro i a ha
          by_cases hlt : i < cs.length
          · rw [List.getElem?_append_left hlt] at ha
            have get : ∀ {cs : List AV} {ds : List D} {i : Nat} {a : AV}, InFs b cs ds → cs[i]? = some a → ∃ d, ds[i]? = some d ∧ InF b a d := by
              intro cs
              induction cs with
              | nil => intro ds i a _ h; simp at h
              | cons c cs ih => intro ds i a hi h; cases ds with
                | nil => exact hi.elim
                | cons d ds => cases i with
                  | zero => cases h; exact ⟨d, rfl, hi.1⟩
                  | succ i =>
                    obtain ⟨x, x1, x2⟩ := ih (ds := ds) (i := i) hi.2 h
                    exact ⟨x, x1, x2⟩
            obtain ⟨d, d1, d2⟩ := get c2 ha
            refine .inr ⟨fun j e => ?_, d, ?_, ?_⟩
            · rw [e] at d2; exact d2.elim
            · rw [List.getElem?_append_left (by rw [List.length_map, hl]; exact hlt), List.getElem?_map, d1]; rfl
            · cases a with
              | v t => exact d2
              | bag => exact d2
              | box j => exact d2.elim
              | no => exact d2.elim
          · rw [List.getElem?_append_right (by omega)] at ha
            have := List.getElem?_eq_some_iff.mp ha
            obtain ⟨z, e⟩ := this
            left
            rw [← e]
            simp
        · split at u1
          · rename_i h1 h2
            split at u1
            · rename_i h3
              cases u1
              exact ⟨fun e M g => (by rw [h3] at g; exact g.elim), fin, fun e M g => (by rw [h1] at g; exact g), fun e M g => (by rw [h2] at g; exact g)⟩
            · rename_i st h3
              refine ⟨fun e M g => ?_, fun d M g => fin d M (rt_mono (fun p => (JN_ok _ _ _ u1 p).1) g), fun e M g => (by rw [h1] at g; exact g), fun e M g => (by rw [h2] at g; exact g)⟩
              rw [h3] at g
              obtain ⟨ρ, _, G⟩ := g
              exact fin _ _ ⟨⟨.none, rfl, (JN_ok _ _ _ u1 _).2 .none⟩, G.bag, G.fr⟩
          · cases u1
      · cases u1
    · cases q
  · cases q
def subL (f : Ty → Ty → Bool) : List Ty → List Ty → Bool
  | [], [] => true
  | a :: as, b :: bs => f a b && subL f as bs
  | _, _ => false
def sub : Nat → Ty → Ty → Bool
  | 0, _, _ => false
  | k + 1, a, b => match a, b with
    | .bot, _ => true
    | .none, .none => true
    | .bl x, .bl y => decide (y = none ∨ x = y)
    | .int a b, .int c d => decide (c ≤ a ∧ b ≤ d)
    | .str a, .str b => decide (a ≤ b)
    | .ex t ts, .ex u us => decide (t = u) && subL (sub k) ts us
    | .ex t ts, .seq u e lo hi => decide (t = u ∧ lo ≤ ts.length ∧ ts.length ≤ hi) && ts.all fun x => sub k x e
    | .seq t e lo hi, .seq u f lo2 hi2 => decide (t = u ∧ lo2 ≤ lo ∧ hi ≤ hi2) && sub k e f
    | a, .any d n => match a.sz with
      | some (x, y) => decide (x ≤ d ∧ y ≤ n)
      | none => false
    | _, _ => false
theorem sub_ok : ∀ (k : Nat) {a c : Ty} {p : PyData}, sub k a c = true → In a p → In c p
  | 0, _, _, _, q, _ => by cases q
  | k + 1, a, c, p, q, h => by
    unfold sub at q
    split at q
    · cases h
    · exact h
    · have q' := of_decide_eq_true q
      cases h with
      | bl h =>
        refine .bl fun z hz => ?_
        rcases q' with e | e
        · rw [e] at hz; cases hz
        · rw [← e] at hz; exact h z hz
    · have q' := of_decide_eq_true q
      cases h with
      | int h1 h2 => exact .int (by omega) (by omega)
    · have q' := of_decide_eq_true q
      cases h with
      | str h1 h2 => exact .str h1 (by omega)
    · rw [Bool.and_eq_true] at q
      have q' := of_decide_eq_true q.1
      subst q'
      cases h with
      | ex e h =>
        refine .ex e ?_
        have g : ∀ {ts us : List Ty} {ps : List PyData}, subL (sub k) ts us = true → InL ts ps → InL us ps := by
          intro ts
          induction ts with
          | nil => intro us ps q h; cases us with
            | nil => exact h
            | cons _ _ => cases q
          | cons t ts ih => intro us ps q h; cases us with
            | nil => cases q
            | cons u us =>
              have q2 : (sub k t u && subL (sub k) ts us) = true := q
              rw [Bool.and_eq_true] at q2
              cases h with
              | cons a r => exact .cons (sub_ok k q2.1 a) (ih q2.2 r)
        exact g q.2 h
    · rw [Bool.and_eq_true] at q
      have q' := of_decide_eq_true q.1
      cases h with
      | ex e h =>
        have l := h.len
        refine .seq (by rw [← q'.1]; exact e) (fun z hz => ?_) (by omega) (by omega)
        obtain ⟨t, h1, h2⟩ := h.all hz
        exact sub_ok k (List.all_eq_true.mp q.2 t h1) h2
    · rw [Bool.and_eq_true] at q
      have q' := of_decide_eq_true q.1
      cases h with
      | seq e h h1 h2 => exact .seq (by rw [← q'.1]; exact e) (fun z hz => sub_ok k q.2 (h z hz)) (by omega) (by omega)
    · split at q
      · rename_i x y hs
        have q' := of_decide_eq_true q
        exact .any ((h.sz hs).mono q'.1 q'.2)
      · cases q
    · cases q
def subO (o : Option Ty) (u : Ty) : Bool := match o with
  | some t => sub 12 t u
  | none => false
/-- a call of a def that is known by types -/
theorem spA_use {BG : Mem → Nat → Nat → Prop} {sig : Sig} {ds : List D} {M : Mem} {P : D → Mem → Prop} {PX : XN → Mem → Prop} {b m : Nat} (ats : List AV) (u : Ty) (h : subO (sig ats) u = true) (hi : InFs b ats ds) (hB : BG M b m) (hP : ∀ p M', In u p → BG M' b m → SameBut M M' b m → P (.v p) M') : spA BG sig ds M P PX := by
  unfold subO at h
  split at h
  · rename_i t ht
    exact ⟨b, m, ats, t, ht, hi, hB, fun p M' hp => hP p M' (sub_ok 12 h hp)⟩
  · cases h
theorem disc_bag : Disc Bag := ⟨fun M b m ⟨cells, x, y, h⟩ => ⟨by rw [h.hb]; simp, by rw [h.hm]; simp⟩, fun M M' b m e1 e2 ⟨cells, x, y, h⟩ => ⟨cells, x, y, h.ne, e1.trans h.hb, e2.trans h.hm, h.pos, h.x0, h.y0, h.y1⟩⟩
def sgDraw : Sig
  | [.bag, .v (.int lo hi)] => if 1 ≤ lo ∧ hi < 2 ^ 64 then some (.int 0 (hi - 1)) else none
  | _ => none
def sgPick : Sig
  | [.bag, .v t] => match t.ct with
    | some (_, c) => if 0 < c.lo ∧ c.hi ≤ 100000 then c.el else none
    | none => none
  | _ => none
theorem ent_draw {T : Tb} (h : T "_law_draw" = spDraw) : Ent Bag T "_law_draw" sgDraw := fun b m ats t ds M P PX q hi hB hP => by
  unfold sgDraw at q
  split at q
  · split at q
    · rename_i lo hi' hh
      cases q
      match ds, hi with
      | [d, e], hi =>
        have h1 : d = .loc b := hi.1
        obtain ⟨p, h2, h3⟩ := hi.2.1
        cases h3 with
        | int k1 k2 =>
          subst h1 h2
          rw [h]
          exact ⟨b, m, _, rfl, by omega, by omega, hB, fun r M' r0 r1 B' S' => hP _ M' (.int r0 (by omega)) B' S'⟩
      | [], hi => exact hi.elim
      | [_], hi => exact hi.2.elim
      | _ :: _ :: _ :: _, hi => exact hi.2.2.elim
    · cases q
  · cases q
theorem ent_pick {T : Tb} (h : T "_law_pick" = spPick) : Ent Bag T "_law_pick" sgPick := fun b m ats t ds M P PX q hi hB hP => by
  have hz := sizeLine_eq
  unfold sgPick at q
  split at q
  · rename_i u
    split at q
    · rename_i c hc
      split at q
      · rename_i hh
        match ds, hi with
        | [d, e], hi =>
          have h1 : d = .loc b := hi.1
          obtain ⟨p, h2, h3⟩ := hi.2.1
          obtain ⟨ps, e1, e2⟩ := h3.ct hc
          have l := e2.len
          subst h1 h2
          rw [h]
          refine ⟨b, m, ps, p, rfl, ?_, fun e => ?_, by omega, hB, fun r M' hr B' S' => hP _ M' (e2.el q r hr) B' S'⟩
          · rw [e1]; unfold mkS
            split
            · exact .inr rfl
            · exact .inl rfl
          · rw [e] at l; simp at l; omega
        | [], hi => exact hi.elim
        | [_], hi => exact hi.2.elim
        | _ :: _ :: _ :: _, hi => exact hi.2.2.elim
      · cases q
    · cases q
  · cases q
theorem entNil {BG : Mem → Nat → Nat → Prop} {T : Tb} : ∀ e, e ∈ ([] : List (Str × Sig)) → Ent BG T e.1 e.2 := fun _ h => (nomatch h)
theorem entCons {BG : Mem → Nat → Nat → Prop} {T : Tb} {e : Str × Sig} {r : List (Str × Sig)} (h : Ent BG T e.1 e.2) (h2 : ∀ e, e ∈ r → Ent BG T e.1 e.2) : ∀ x, x ∈ e :: r → Ent BG T x.1 x.2 := fun x hx => by
  rcases List.mem_cons.mp hx with rfl | hx
  · exact h
  · exact h2 x hx
theorem in_pints {t : Bool} {ns : List Int} {a c : Int} {lo hi : Nat} (h : ∀ n, n ∈ ns → a ≤ n ∧ n ≤ c) (h1 : lo ≤ ns.length) (h2 : ns.length ≤ hi) : In (.seq t (.int a c) lo hi) (mkS t (pints ns)) := by
  refine .seq rfl (fun z hz => ?_) (by rw [pints_len]; exact h1) (by rw [pints_len]; exact h2)
  obtain ⟨n, hn, rfl⟩ := List.mem_map.mp hz
  exact .int (h n hn).1 (h n hn).2
theorem In.list_any {p : PyData} {d n lo hi : Nat} (h : In (.seq false (.any d n) lo hi) p) : ∃ qs : List PyData, p = .list qs ∧ (∀ q, q ∈ qs → Sm d n q) ∧ lo ≤ qs.length ∧ qs.length ≤ hi := by
  cases h with
  | seq e h h1 h2 =>
    refine ⟨_, e, fun q hq => ?_, h1, h2⟩
    have := h q hq
    cases this with
    | any h => exact h
end Pd

namespace Pd
open PySem L2
theorem smL_items {d n : Nat} : ∀ {ps : List PyData}, PyData.showableAll ps = true → PyData.depthAll ps ≤ d → PyData.leavesShortAll 100 ps = true → PyData.weightAll ps ≤ n → ps.length ≤ n ∧ ∀ q, q ∈ ps → Sm d n q
  | [], _, _, _, _ => ⟨Nat.zero_le _, by simp⟩
  | p :: ps, h1, h2, h3, h4 => by
    have h1' : (PyData.showable p && PyData.showableAll ps) = true := h1
    have h2' : max p.depth (PyData.depthAll ps) ≤ d := h2
    have h3' : (PyData.leavesShort 100 p && PyData.leavesShortAll 100 ps) = true := h3
    have h4' : p.weight + 1 + PyData.weightAll ps ≤ n := h4
    rw [Bool.and_eq_true] at h1' h3'
    obtain ⟨k1, k2⟩ := smL_items (n := n - 1) h1'.2 (by omega : PyData.depthAll ps ≤ d) h3'.2 (by omega)
    refine ⟨by rw [List.length_cons]; omega, fun q hq => ?_⟩
    rcases List.mem_cons.mp hq with rfl | hq
    · exact ⟨h1'.1, by omega, h3'.1, by omega⟩
    · exact (k2 q hq).mono (Nat.le_refl _) (by omega)
theorem Sm.tup {d n : Nat} {ps : List PyData} (h : Sm (d + 1) n (.tuple ps)) : ps.length ≤ n ∧ ∀ q, q ∈ ps → Sm d n q := smL_items h.sh (Nat.le_of_succ_le_succ h.dp) h.lv h.wt
theorem Sm.lst {d n : Nat} {ps : List PyData} (h : Sm (d + 1) n (.list ps)) : ps.length ≤ n ∧ ∀ q, q ∈ ps → Sm d n q := smL_items h.sh (Nat.le_of_succ_le_succ h.dp) h.lv h.wt
theorem In.sm {t : Ty} {p : PyData} {d n : Nat} (h : In t p) (q : sub 12 t (.any d n) = true) : Sm d n p := by
  have := sub_ok 12 q h
  cases this with
  | any h => exact h
theorem map_pints (ns : List Int) : (pints ns).map D.v = dints ns := (dints_eq ns).symm
theorem eqv_tups (as bs : List Int) : PyData.eqv (.tuple (pints as)) (.tuple (pints bs)) = (as == bs) := by
  rw [← eqv_ints]; simp only [PyData.eqv]
theorem pair0 {a b : D} : atI [a, b] 0 = some a := rfl
theorem pair1 {a b : D} : atI [a, b] 1 = some b := rfl
theorem getD_at {α : Type} {bs : List α} {j : Nat} {d : α} (h : j < bs.length) : bs.getD j d = bs[j] := by
  rw [List.getD_eq_getElem?_getD, List.getElem?_eq_getElem h]; rfl
/-- an item of what was made of typed things -/
theorem enc_atI {α : Type} {xs : List α} {enc : α → PyData} {k : Nat} {i : Int} (h : k < xs.length) (e : i = k) : atI ((xs.map enc).map D.v) i = some (.v (enc xs[k])) := by
  subst e
  rw [atI_nat (by omega) (by simp; omega)]
  simp [h]
theorem enc_atD {α : Type} {xs : List α} {enc : α → PyData} {k : Nat} {i : Int} {d : α} (h : k < xs.length) (e : i = k) : atI ((xs.map enc).map D.v) i = some (.v (enc (xs.getD k d))) := by
  rw [enc_atI h e, getD_at h]
theorem ixN_last {n : Nat} : ixN (n + 1) (-1) = some n := by
  unfold ixN
  rw [if_neg (by decide), if_pos (by omega)]
  congr 1
  omega
theorem set_last {α : Type} {xs : List α} {x y : α} : (xs ++ [x]).set xs.length y = xs ++ [y] := by simp
/-- a range, from its first one -/
theorem rng_map (a b : Int) : ((List.range (b - a).toNat).map fun (k : Nat) => D.v (.int (a + k))) = (List.range (b - a).toNat).map fun (k : Nat) => D.v (.int (a + k)) := rfl
/-- looked for the first one: none -/
theorem find_none {α β : Type} {g : α → Option β} {xs : List α} (h : xs.findSome? g = none) : ∀ x, x ∈ xs → g x = none := fun x hx => by
  have := List.findSome?_eq_none_iff.mp h
  exact this x hx
theorem find_some {α β : Type} {g : α → Option β} {xs : List α} {y : β} (h : xs.findSome? g = some y) : ∃ x, x ∈ xs ∧ g x = some y := List.exists_of_findSome?_eq_some h
end Pd

namespace Lw
open PySem L2 Pd PyProof.Rows
def top (i : Nat) : Stmt := PySem.Challenge.pw_deskhours_k76_whole_owed.main.body.getD i (.Pass ⟨0, 0, 0, 0⟩)
def bn : List Str := ["abs", "all", "bool", "enumerate", "int", "isinstance", "len", "list", "max", "min", "range", "repr", "tuple"]
abbrev s_law_bag : Stmt := top 12
abbrev s_law_draw : Stmt := top 13
abbrev s_law_bands : Stmt := top 17
abbrev s_law_pick : Stmt := top 14
abbrev s_law_odd : Stmt := top 16
abbrev s_law_values : Stmt := top 22
abbrev s_law_counts : Stmt := top 23
abbrev s_law_band : Stmt := top 19
abbrev s_law_is_whole : Stmt := top 15
abbrev s_law_due : Stmt := top 18
abbrev s_law_least_more : Stmt := top 20
abbrev s_law_most_missed : Stmt := top 21
abbrev s_band_of : Stmt := top 7
abbrev s_owed : Stmt := top 8
abbrev s_least_more : Stmt := top 9
abbrev s_most_missed : Stmt := top 10
abbrev s_is_whole : Stmt := top 3
abbrev s_is_band : Stmt := top 5
abbrev s_bands_error : Stmt := top 6
abbrev s_law : Stmt := top 24
def f_law_bag : Str × Fi := ("_law_bag", ⟨["script"], [(1, [])]⟩)
def f_law_draw : Str × Fi := ("_law_draw", ⟨["bag", "below"], [(2, [])]⟩)
def f_law_bands : Str × Fi := ("_law_bands", ⟨["bag"], [(1, [])]⟩)
def f_law_pick : Str × Fi := ("_law_pick", ⟨["bag", "some"], [(2, [])]⟩)
def f_law_odd : Str × Fi := ("_law_odd", ⟨["bag"], [(1, [])]⟩)
def f_law_values : Str × Fi := ("_law_values", ⟨["bag", "bands"], [(2, [])]⟩)
def f_law_counts : Str × Fi := ("_law_counts", ⟨["bag", "bands"], [(2, [])]⟩)
def f_law_band : Str × Fi := ("_law_band", ⟨["bands", "kept", "total"], [(3, [])]⟩)
def f_law_is_whole : Str × Fi := ("_law_is_whole", ⟨["value"], [(1, [])]⟩)
def f_law_due : Str × Fi := ("_law_due", ⟨["value"], [(1, [])]⟩)
def f_law_least_more : Str × Fi := ("_law_least_more", ⟨["bands", "kept", "total"], [(3, [])]⟩)
def f_law_most_missed : Str × Fi := ("_law_most_missed", ⟨["bands", "kept", "total"], [(3, [])]⟩)
def f_band_of : Str × Fi := ("band_of", ⟨["bands", "kept", "total"], [(0, ["total", "kept", "bands"]), (3, [])]⟩)
def f_owed : Str × Fi := ("owed", ⟨["bands", "kept", "total", "price"], [(0, ["price", "total", "kept", "bands"]), (4, [])]⟩)
def f_least_more : Str × Fi := ("least_more", ⟨["bands", "kept", "total"], [(0, ["total", "kept", "bands"]), (3, [])]⟩)
def f_most_missed : Str × Fi := ("most_missed", ⟨["bands", "kept", "total"], [(0, ["total", "kept", "bands"]), (3, [])]⟩)
def f_is_whole : Str × Fi := ("is_whole", ⟨["value", "low", "high"], [(3, [])]⟩)
def f_is_band : Str × Fi := ("is_band", ⟨["value"], [(1, [])]⟩)
def f_bands_error : Str × Fi := ("bands_error", ⟨["value"], [(0, ["value"]), (1, [])]⟩)
def c_law_bag : Cc := ⟨["script", "cells", "mixed", "cell"], defScope s_law_bag, defScope s_law_bag, false, [], [], bn, [(41, 11), (41, 12)]⟩
def c_law_draw : Cc := ⟨["bag", "below", "cell", "found"], defScope s_law_draw, defScope s_law_draw, false, [], [], bn, []⟩
def c_law_bands : Cc := ⟨["bag", "many", "least", "back", "found", "turn"], defScope s_law_bands, defScope s_law_bands, false, [f_law_draw], [], bn, [(60, 85)]⟩
def c_law_pick : Cc := ⟨["bag", "some"], defScope s_law_pick, defScope s_law_pick, false, [f_law_draw], [], bn, []⟩
def c_law_odd : Cc := ⟨["bag", "some"], defScope s_law_odd, defScope s_law_odd, false, [f_law_pick], [], bn, []⟩
def c_law_values : Cc := ⟨["bag", "bands", "odd", "k", "pair", "found", "pairs", "own"], defScope s_law_values, defScope s_law_values, false, [f_law_odd, f_law_draw], [], bn, [(99, 12)]⟩
def c_law_counts : Cc := ⟨["bag", "bands", "way", "some", "total", "least", "near", "kept"], defScope s_law_counts, defScope s_law_counts, false, [f_law_pick, f_law_draw], [], bn, []⟩
def c_law_band : Cc := ⟨["bands", "kept", "total", "k", "least", "back"], defScope s_law_band, defScope s_law_band, false, [], [], bn, []⟩
def c_law_is_whole : Cc := ⟨["value"], defScope s_law_is_whole, defScope s_law_is_whole, false, [], [], bn, []⟩
def c_law_due : Cc := ⟨["value", "k", "pair", "item"], defScope s_law_due, defScope s_law_due, false, [f_law_is_whole], [], bn, []⟩
def c_law_least_more : Cc := ⟨["bands", "kept", "total", "k", "least"], defScope s_law_least_more, defScope s_law_least_more, false, [f_law_band], [], bn, []⟩
def c_law_most_missed : Cc := ⟨["bands", "kept", "total", "least"], defScope s_law_most_missed, defScope s_law_most_missed, false, [f_law_band], [], bn, []⟩
def c_band_of : Cc := ⟨["bands", "kept", "total", "place", "least", "back"], defScope s_band_of, defScope s_band_of, false, [], [("MAX_SHARE", .int 10000)], bn, []⟩
def c_owed : Cc := ⟨["bands", "kept", "total", "price", "back"], defScope s_owed, defScope s_owed, false, [f_band_of], [("MAX_SHARE", .int 10000)], bn, []⟩
def c_least_more : Cc := ⟨["bands", "kept", "total", "band", "least"], defScope s_least_more, defScope s_least_more, false, [f_band_of], [("MAX_SHARE", .int 10000)], bn, []⟩
def c_most_missed : Cc := ⟨["bands", "kept", "total", "band"], defScope s_most_missed, defScope s_most_missed, false, [f_band_of], [("MAX_SHARE", .int 10000)], bn, []⟩
def c_is_whole : Cc := ⟨["value", "low", "high"], defScope s_is_whole, defScope s_is_whole, false, [], [], bn, []⟩
def c_is_band : Cc := ⟨["value", "item"], defScope s_is_band, defScope s_is_band, false, [f_is_whole], [("MAX_SHARE", .int 10000)], bn, []⟩
def c_bands_error : Cc := ⟨["value", "place", "band"], defScope s_bands_error, defScope s_bands_error, false, [f_is_band], [("MAX_BANDS", .int 8)], bn, []⟩
def c_law : Cc := ⟨["script", "bag", "bands", "value", "turn", "stays", "due", "kept", "total", "price", "shown", "k", "told", "named", "more", "less"], defScope s_law, defScope s_law, false, [f_law_bag, f_law_bands, f_law_values, f_law_counts, f_law_band, f_law_due, f_law_pick, f_law_least_more, f_law_most_missed, f_band_of, f_owed, f_least_more, f_most_missed, f_law_draw, f_bands_error], [], bn, [(121, 14), (123, 15), (125, 16), (128, 16), (128, 39)]⟩
def i_law_bag_2 : List S := [(.asg (.var 2) (.bin .Mod (.bi .int [(.bin .Add (.bin .Add (.bin .Mult (.var 2) (.cst (.int 48271))) (.bin .Mod (.bi .int [(.var 3)]) (.cst (.int 2147483629)))) (.cst (.int 5)))]) (.cst (.int 2147483647))))]
def i_law_bag_3 : List S := [(.ret (.new (.lst [(.new (.rev (.var 1))), (.cst (.int 0)), (.var 2)])))]
def i_law_bag_1 : List S := ((.for_ (.var 3) (.seq (.var 1)) i_law_bag_2) :: i_law_bag_3)
def i_law_bag : List S := ((.asg (.var 1) (.comp [3] (.var 3) (.seq (.sl (.var 0) none (some (.cst (.int 63))))) none (.bi .abs [(.var 3)]))) :: (.asg (.var 2) (.bin .Add (.cst (.int 16146)) (.bi .len [(.var 1)]))) :: i_law_bag_1)
theorem e_law_bag : cB 60 c_law_bag (defBody s_law_bag) = some i_law_bag := by kernel_rfl
theorem z_law_bag : FnScope c_law_bag.N ["script"] (defScope s_law_bag) := ⟨rfl, rfl, rfl, by decide +kernel, rfl, by decide +kernel, by decide +kernel⟩
def i_law_draw_1 : List S := [(.asg (.var 2) (.mth .pop (.ix (.var 0) (.cst (.int 0))) [])), (.asg (.sub (.var 0) (.cst (.int 1))) (.ite (.cmp .Gt (.var 2) (.bin .Pow (.cst (.int 10)) (.cst (.int 9)))) (.var 2) (.cst (.int 0))))]
def i_law_draw_2 : List S := [(.ite (.cmp .Gt (.ix (.var 0) (.cst (.int 1))) (.cst (.int 0))) [(.asg (.var 3) (.bin .Mod (.bi .int [(.ix (.var 0) (.cst (.int 1)))]) (.var 1))), (.asg (.sub (.var 0) (.cst (.int 1))) (.bin .FloorDiv (.ix (.var 0) (.cst (.int 1))) (.var 1))), (.ret (.var 3))] []), (.asg (.sub (.var 0) (.cst (.int 2))) (.bin .Mod (.bi .int [(.bin .Add (.bin .Mult (.ix (.var 0) (.cst (.int 2))) (.cst (.int 48271))) (.cst (.int 13)))]) (.cst (.int 2147483647)))), (.ret (.bin .Mod (.bi .int [(.bin .FloorDiv (.bin .Mod (.bi .int [(.bin .Mult (.ix (.var 0) (.cst (.int 2))) (.ix (.var 0) (.cst (.int 2))))]) (.cst (.int 2147483629))) (.cst (.int 7)))]) (.var 1)))]
def i_law_draw : List S := ((.whl (.and (.cmp .Eq (.ix (.var 0) (.cst (.int 1))) (.cst (.int 0))) (.cmp .NotEq (.ix (.var 0) (.cst (.int 0))) (.lst []))) i_law_draw_1) :: i_law_draw_2)
theorem e_law_draw : cB 60 c_law_draw (defBody s_law_draw) = some i_law_draw := by kernel_rfl
theorem z_law_draw : FnScope c_law_draw.N ["bag", "below"] (defScope s_law_draw) := ⟨rfl, rfl, rfl, by decide +kernel, rfl, by decide +kernel, by decide +kernel⟩
def i_law_bands_2 : List S := [(.expr (.mth .append (.var 4) [(.tup [(.var 2), (.var 3)])])), (.par [(.var 2), (.var 3)] [(.bin .Add (.bin .Add (.var 2) (.cst (.int 1))) (.call "_law_draw" [(.var 0), (.cst (.int 2500))] [0, 1])), (.bin .Sub (.bin .Sub (.var 3) (.cst (.int 1))) (.call "_law_draw" [(.var 0), (.cst (.int 2500))] [0, 1]))]), (.ite (.or (.cmp .Gt (.var 2) (.cst (.int 10000))) (.cmp .Lt (.var 3) (.cst (.int 0)))) [.brk] [])]
def i_law_bands_3 : List S := [(.ite (.and (.cmp .Eq (.call "_law_draw" [(.var 0), (.cst (.int 3))] [0, 1]) (.cst (.int 0))) (.and (.cmp .Gt (.bi .len [(.var 4)]) (.cst (.int 1))) (.cmp .Gt (.ix (.ix (.var 4) (.un .USub (.cst (.int 1)))) (.cst (.int 1))) (.cst (.int 0))))) [(.asg (.sub (.var 4) (.un .USub (.cst (.int 1)))) (.tup [(.cst (.int 10000)), (.ix (.ix (.var 4) (.un .USub (.cst (.int 1)))) (.cst (.int 1)))]))] []), (.ret (.bi .tuple [(.var 4)]))]
def i_law_bands_1 : List S := ((.for_ (.var 5) (.rng (.cst (.int 0)) (.var 1)) i_law_bands_2) :: i_law_bands_3)
def i_law_bands : List S := ((.par [(.var 1), (.var 2), (.var 3), (.var 4)] [(.bin .Add (.cst (.int 1)) (.call "_law_draw" [(.var 0), (.cst (.int 8))] [0, 1])), (.cst (.int 0)), (.bin .Sub (.cst (.int 10000)) (.call "_law_draw" [(.var 0), (.cst (.int 3))] [0, 1])), (.new (.lst []))]) :: i_law_bands_1)
theorem e_law_bands : cB 60 c_law_bands (defBody s_law_bands) = some i_law_bands := by kernel_rfl
theorem z_law_bands : FnScope c_law_bands.N ["bag"] (defScope s_law_bands) := ⟨rfl, rfl, rfl, by decide +kernel, rfl, by decide +kernel, by decide +kernel⟩
def i_law_pick : List S := [(.ret (.ix (.var 1) (.call "_law_draw" [(.var 0), (.bi .len [(.var 1)])] [0, 1])))]
theorem e_law_pick : cB 60 c_law_pick (defBody s_law_pick) = some i_law_pick := by kernel_rfl
theorem z_law_pick : FnScope c_law_pick.N ["bag", "some"] (defScope s_law_pick) := ⟨rfl, rfl, rfl, by decide +kernel, rfl, by decide +kernel, by decide +kernel⟩
def i_law_odd : List S := [(.asg (.var 1) (.lst [(.cst .none), (.cst (.bool true)), (.cst (.bool false)), (.cst (.str "")), (.cst (.str "0")), (.cst (.str "way")), (.tup []), (.lst []), .dnew, (.tup [(.cst (.int 0))]), (.lst [(.cst (.int 0)), (.cst (.int 0))]), (.cst (.int 41)), (.un .USub (.cst (.int 1))), (.bin .Pow (.cst (.int 10)) (.cst (.int 59))), (.tup [(.cst .none), (.cst (.int 0))]), (.tup [(.tup [(.cst (.int 0))]), (.cst (.int 1))])])), (.ret (.call "_law_pick" [(.var 0), (.var 1)] [0, 1]))]
theorem e_law_odd : cB 60 c_law_odd (defBody s_law_odd) = some i_law_odd := by kernel_rfl
theorem z_law_odd : FnScope c_law_odd.N ["bag"] (defScope s_law_odd) := ⟨rfl, rfl, rfl, by decide +kernel, rfl, by decide +kernel, by decide +kernel⟩
def i_law_values : List S := [(.par [(.var 2), (.var 3)] [(.call "_law_odd" [(.var 0)] [0]), (.call "_law_draw" [(.var 0), (.bi .len [(.var 1)])] [0, 1])]), (.par [(.var 4), (.var 5)] [(.ix (.var 1) (.var 3)), (.lst [(.var 1), (.bi .list [(.var 1)]), (.rev (.var 1)), (.sl (.var 1) (some (.cst (.int 1))) none), (.bin .Add (.var 1) (.sl (.var 1) (some (.un .USub (.cst (.int 1)))) none)), (.tup []), (.cst .none), (.var 2), (.bin .Mult (.var 1) (.cst (.int 9)))])]), (.asg (.var 6) (.new (.lst [(.tup [(.bin .Add (.ix (.var 4) (.cst (.int 0))) (.cst (.int 1))), (.ix (.var 4) (.cst (.int 1)))]), (.tup [(.ix (.var 4) (.cst (.int 0))), (.bin .Add (.ix (.var 4) (.cst (.int 1))) (.cst (.int 1)))]), (.tup [(.ix (.var 4) (.cst (.int 0))), (.bin .Sub (.ix (.var 4) (.cst (.int 1))) (.cst (.int 1)))]), (.rev (.var 4)), (.bi .list [(.var 4)]), (.sl (.var 4) none (some (.cst (.int 1))))]))), (.expr (.mth .extend (.var 6) [(.lst [(.tup [(.cst (.int 10001)), (.cst (.int 0))]), (.tup [(.cst (.int 0)), (.cst (.int 10001))]), (.tup [(.un .USub (.cst (.int 1))), (.cst (.int 0))]), (.tup [(.cst (.int 0)), (.un .USub (.cst (.int 1)))]), (.tup [(.cst (.bool true)), (.cst (.int 0))]), (.tup [(.cst (.int 0)), (.cst (.bool false))]), (.tup [(.cst .none), (.cst (.int 0))]), (.var 2), (.bin .Add (.var 4) (.tup [(.cst (.int 0))]))])])), (.expr (.mth .append (.var 6) [(.tup [(.cst (.int 0)), (.cst (.int 10000))])])), (.ret (.bin .Add (.var 5) (.comp [7] (.var 7) (.seq (.var 6)) none (.bin .Add (.bin .Add (.sl (.var 1) none (some (.var 3))) (.tup [(.var 7)])) (.sl (.var 1) (some (.bin .Add (.var 3) (.cst (.int 1)))) none)))))]
theorem e_law_values : cB 60 c_law_values (defBody s_law_values) = some i_law_values := by kernel_rfl
theorem z_law_values : FnScope c_law_values.N ["bag", "bands"] (defScope s_law_values) := ⟨rfl, rfl, rfl, by decide +kernel, rfl, by decide +kernel, by decide +kernel⟩
def i_law_counts : List S := [(.par [(.var 2), (.var 3)] [(.call "_law_draw" [(.var 0), (.cst (.int 5))] [0, 1]), (.lst [(.call "_law_draw" [(.var 0), (.cst (.int 9))] [0, 1]), (.call "_law_draw" [(.var 0), (.cst (.int 200))] [0, 1]), (.call "_law_draw" [(.var 0), (.cst (.int 1000001))] [0, 1]), (.cst (.int 1000000))])]), (.asg (.var 4) (.call "_law_pick" [(.var 0), (.var 3)] [0, 1])), (.asg (.var 5) (.ix (.call "_law_pick" [(.var 0), (.var 1)] [0, 1]) (.cst (.int 0)))), (.asg (.var 6) (.bin .Sub (.bin .Add (.bin .FloorDiv (.bin .Mult (.var 4) (.var 5)) (.cst (.int 10000))) (.call "_law_draw" [(.var 0), (.cst (.int 3))] [0, 1])) (.cst (.int 1)))), (.asg (.var 7) (.ite (.cmp .Lt (.var 2) (.cst (.int 2))) (.bi .max2 [(.cst (.int 0)), (.bi .min2 [(.var 4), (.var 6)])]) (.call "_law_draw" [(.var 0), (.bin .Add (.var 4) (.cst (.int 1)))] [0, 1]))), (.ret (.ite (.cmp .Lt (.var 2) (.cst (.int 4))) (.tup [(.var 7), (.var 4)]) (.tup [(.var 4), (.var 4)])))]
theorem e_law_counts : cB 60 c_law_counts (defBody s_law_counts) = some i_law_counts := by kernel_rfl
theorem z_law_counts : FnScope c_law_counts.N ["bag", "bands"] (defScope s_law_counts) := ⟨rfl, rfl, rfl, by decide +kernel, rfl, by decide +kernel, by decide +kernel⟩
def i_law_band : List S := [(.ret (.bi .max [(.comp [3, 4, 5] (.tup [(.var 3), (.tup [(.var 4), (.var 5)])]) (.enum (.var 0)) (some (.cmp .LtE (.bin .Mult (.var 2) (.var 4)) (.bin .Mult (.cst (.int 10000)) (.var 1)))) (.var 3))]))]
theorem e_law_band : cB 60 c_law_band (defBody s_law_band) = some i_law_band := by kernel_rfl
theorem z_law_band : FnScope c_law_band.N ["bands", "kept", "total"] (defScope s_law_band) := ⟨rfl, rfl, rfl, by decide +kernel, rfl, by decide +kernel, by decide +kernel⟩
def i_law_is_whole : List S := [(.ret (.and (.isi (.var 0) "int") (.un .Not (.isi (.var 0) "bool"))))]
theorem e_law_is_whole : cB 60 c_law_is_whole (defBody s_law_is_whole) = some i_law_is_whole := by kernel_rfl
theorem z_law_is_whole : FnScope c_law_is_whole.N ["value"] (defScope s_law_is_whole) := ⟨rfl, rfl, rfl, by decide +kernel, rfl, by decide +kernel, by decide +kernel⟩
def i_law_due_2 : List S := [(.ite (.or (.un .Not (.isi (.var 2) "tuple")) (.cmp .NotEq (.bi .len [(.var 2)]) (.cst (.int 2)))) [(.ret (.tup [(.cst (.str "band")), (.var 1)]))] []), (.ite (.un .Not (.bi .all [(.comp [3] (.var 3) (.seq (.var 2)) none (.and (.call "_law_is_whole" [(.var 3)] [0]) (.chain .LtE .LtE (.cst (.int 0)) (.var 3) (.cst (.int 10000)))))])) [(.ret (.tup [(.cst (.str "band")), (.var 1)]))] [])]
def i_law_due_5 : List S := [(.ite (.or (.cmp .LtE (.ix (.ix (.var 0) (.var 1)) (.cst (.int 0))) (.ix (.ix (.var 0) (.bin .Sub (.var 1) (.cst (.int 1)))) (.cst (.int 0)))) (.cmp .GtE (.ix (.ix (.var 0) (.var 1)) (.cst (.int 1))) (.ix (.ix (.var 0) (.bin .Sub (.var 1) (.cst (.int 1)))) (.cst (.int 1))))) [(.ret (.tup [(.cst (.str "order")), (.var 1)]))] [])]
def i_law_due_6 : List S := [(.ret (.cst .none))]
def i_law_due_4 : List S := ((.for_ (.var 1) (.rng (.cst (.int 1)) (.bi .len [(.var 0)])) i_law_due_5) :: i_law_due_6)
def i_law_due_3 : List S := ((.ite (.cmp .NotEq (.ix (.ix (.var 0) (.cst (.int 0))) (.cst (.int 0))) (.cst (.int 0))) [(.ret (.cst (.str "begin")))] []) :: i_law_due_4)
def i_law_due_1 : List S := ((.for_ (.tup [(.var 1), (.var 2)]) (.enum (.var 0)) i_law_due_2) :: i_law_due_3)
def i_law_due : List S := ((.ite (.or (.un .Not (.isi (.var 0) "tuple")) (.un .Not (.chain .LtE .LtE (.cst (.int 1)) (.bi .len [(.var 0)]) (.cst (.int 8))))) [(.ret (.cst (.str "form")))] []) :: i_law_due_1)
theorem e_law_due : cB 60 c_law_due (defBody s_law_due) = some i_law_due := by kernel_rfl
theorem z_law_due : FnScope c_law_due.N ["value"] (defScope s_law_due) := ⟨rfl, rfl, rfl, by decide +kernel, rfl, by decide +kernel, by decide +kernel⟩
def i_law_least_more : List S := [(.asg (.var 3) (.call "_law_band" [(.var 0), (.var 1), (.var 2)] [0, 1, 2])), (.ite (.cmp .Eq (.bin .Add (.var 3) (.cst (.int 1))) (.bi .len [(.var 0)])) [(.ret (.cst .none))] []), (.asg (.var 4) (.ix (.ix (.var 0) (.bin .Add (.var 3) (.cst (.int 1)))) (.cst (.int 0)))), (.ite (.cmp .Eq (.var 4) (.cst (.int 10000))) [(.ret (.cst .none))] []), (.ret (.bin .Sub (.cst (.int 0)) (.bin .FloorDiv (.bin .Sub (.bin .Mult (.cst (.int 10000)) (.var 1)) (.bin .Mult (.var 4) (.var 2))) (.bin .Sub (.cst (.int 10000)) (.var 4)))))]
theorem e_law_least_more : cB 60 c_law_least_more (defBody s_law_least_more) = some i_law_least_more := by kernel_rfl
theorem z_law_least_more : FnScope c_law_least_more.N ["bands", "kept", "total"] (defScope s_law_least_more) := ⟨rfl, rfl, rfl, by decide +kernel, rfl, by decide +kernel, by decide +kernel⟩
def i_law_most_missed : List S := [(.asg (.var 3) (.ix (.ix (.var 0) (.call "_law_band" [(.var 0), (.var 1), (.var 2)] [0, 1, 2])) (.cst (.int 0)))), (.ret (.ite (.cmp .Eq (.var 3) (.cst (.int 0))) (.cst .none) (.bin .Sub (.bin .FloorDiv (.bin .Mult (.cst (.int 10000)) (.var 1)) (.var 3)) (.var 2))))]
theorem e_law_most_missed : cB 60 c_law_most_missed (defBody s_law_most_missed) = some i_law_most_missed := by kernel_rfl
theorem z_law_most_missed : FnScope c_law_most_missed.N ["bands", "kept", "total"] (defScope s_law_most_missed) := ⟨rfl, rfl, rfl, by decide +kernel, rfl, by decide +kernel, by decide +kernel⟩
def i_band_of : List S := [(.ret (.bi .max [(.comp [3, 4, 5] (.tup [(.var 3), (.tup [(.var 4), (.var 5)])]) (.enum (.var 0)) (some (.cmp .LtE (.bin .Mult (.var 2) (.var 4)) (.bin .Mult (.cst (.int 10000)) (.var 1)))) (.var 3))]))]
theorem e_band_of : cB 60 c_band_of (defBody s_band_of) = some i_band_of := by kernel_rfl
theorem z_band_of : FnScope c_band_of.N ["bands", "kept", "total"] (defScope s_band_of) := ⟨rfl, rfl, rfl, by decide +kernel, rfl, by decide +kernel, by decide +kernel⟩
def i_owed : List S := [(.asg (.var 4) (.ix (.ix (.var 0) (.call "band_of" [(.var 0), (.var 1), (.var 2)] [0, 1, 2])) (.cst (.int 1)))), (.ret (.bin .FloorDiv (.bin .Add (.bin .Mult (.bin .Mult (.cst (.int 2)) (.var 3)) (.var 4)) (.cst (.int 10000))) (.bin .Mult (.cst (.int 2)) (.cst (.int 10000)))))]
theorem e_owed : cB 60 c_owed (defBody s_owed) = some i_owed := by kernel_rfl
theorem z_owed : FnScope c_owed.N ["bands", "kept", "total", "price"] (defScope s_owed) := ⟨rfl, rfl, rfl, by decide +kernel, rfl, by decide +kernel, by decide +kernel⟩
def i_least_more : List S := [(.asg (.var 3) (.call "band_of" [(.var 0), (.var 1), (.var 2)] [0, 1, 2])), (.ite (.or (.cmp .Eq (.var 3) (.bin .Sub (.bi .len [(.var 0)]) (.cst (.int 1)))) (.cmp .Eq (.ix (.ix (.var 0) (.bin .Add (.var 3) (.cst (.int 1)))) (.cst (.int 0))) (.cst (.int 10000)))) [(.ret (.cst .none))] []), (.asg (.var 4) (.ix (.ix (.var 0) (.bin .Add (.var 3) (.cst (.int 1)))) (.cst (.int 0)))), (.ret (.un .USub (.bin .FloorDiv (.un .USub (.bin .Sub (.bin .Mult (.var 4) (.var 2)) (.bin .Mult (.cst (.int 10000)) (.var 1)))) (.bin .Sub (.cst (.int 10000)) (.var 4)))))]
theorem e_least_more : cB 60 c_least_more (defBody s_least_more) = some i_least_more := by kernel_rfl
theorem z_least_more : FnScope c_least_more.N ["bands", "kept", "total"] (defScope s_least_more) := ⟨rfl, rfl, rfl, by decide +kernel, rfl, by decide +kernel, by decide +kernel⟩
def i_most_missed : List S := [(.asg (.var 3) (.call "band_of" [(.var 0), (.var 1), (.var 2)] [0, 1, 2])), (.ret (.ite (.cmp .Eq (.var 3) (.cst (.int 0))) (.cst .none) (.bin .Sub (.bin .FloorDiv (.bin .Mult (.cst (.int 10000)) (.var 1)) (.ix (.ix (.var 0) (.var 3)) (.cst (.int 0)))) (.var 2))))]
theorem e_most_missed : cB 60 c_most_missed (defBody s_most_missed) = some i_most_missed := by kernel_rfl
theorem z_most_missed : FnScope c_most_missed.N ["bands", "kept", "total"] (defScope s_most_missed) := ⟨rfl, rfl, rfl, by decide +kernel, rfl, by decide +kernel, by decide +kernel⟩
def i_is_whole : List S := [(.ret (.and (.isi (.var 0) "int") (.and (.un .Not (.isi (.var 0) "bool")) (.chain .LtE .LtE (.var 1) (.var 0) (.var 2)))))]
theorem e_is_whole : cB 60 c_is_whole (defBody s_is_whole) = some i_is_whole := by kernel_rfl
theorem z_is_whole : FnScope c_is_whole.N ["value", "low", "high"] (defScope s_is_whole) := ⟨rfl, rfl, rfl, by decide +kernel, rfl, by decide +kernel, by decide +kernel⟩
def i_is_band : List S := [(.ret (.and (.isi (.var 0) "tuple") (.and (.cmp .Eq (.bi .len [(.var 0)]) (.cst (.int 2))) (.bi .all [(.comp [1] (.var 1) (.seq (.var 0)) none (.call "is_whole" [(.var 1), (.cst (.int 0)), (.cst (.int 10000))] [0, 1, 2]))]))))]
theorem e_is_band : cB 60 c_is_band (defBody s_is_band) = some i_is_band := by kernel_rfl
theorem z_is_band : FnScope c_is_band.N ["value"] (defScope s_is_band) := ⟨rfl, rfl, rfl, by decide +kernel, rfl, by decide +kernel, by decide +kernel⟩
def i_bands_error_2 : List S := [(.ite (.un .Not (.call "is_band" [(.var 2)] [0])) [(.ret (.tup [(.cst (.str "band")), (.var 1)]))] [])]
def i_bands_error_5 : List S := [(.ite (.or (.cmp .LtE (.ix (.ix (.var 0) (.var 1)) (.cst (.int 0))) (.ix (.ix (.var 0) (.bin .Sub (.var 1) (.cst (.int 1)))) (.cst (.int 0)))) (.cmp .GtE (.ix (.ix (.var 0) (.var 1)) (.cst (.int 1))) (.ix (.ix (.var 0) (.bin .Sub (.var 1) (.cst (.int 1)))) (.cst (.int 1))))) [(.ret (.tup [(.cst (.str "order")), (.var 1)]))] [])]
def i_bands_error_6 : List S := [(.ret (.cst .none))]
def i_bands_error_4 : List S := ((.for_ (.var 1) (.rng (.cst (.int 1)) (.bi .len [(.var 0)])) i_bands_error_5) :: i_bands_error_6)
def i_bands_error_3 : List S := ((.ite (.cmp .NotEq (.ix (.ix (.var 0) (.cst (.int 0))) (.cst (.int 0))) (.cst (.int 0))) [(.ret (.cst (.str "begin")))] []) :: i_bands_error_4)
def i_bands_error_1 : List S := ((.for_ (.tup [(.var 1), (.var 2)]) (.enum (.var 0)) i_bands_error_2) :: i_bands_error_3)
def i_bands_error : List S := ((.ite (.or (.un .Not (.isi (.var 0) "tuple")) (.un .Not (.chain .LtE .LtE (.cst (.int 1)) (.bi .len [(.var 0)]) (.cst (.int 8))))) [(.ret (.cst (.str "form")))] []) :: i_bands_error_1)
theorem e_bands_error : cB 60 c_bands_error (defBody s_bands_error) = some i_bands_error := by kernel_rfl
theorem z_bands_error : FnScope c_bands_error.N ["value"] (defScope s_bands_error) := ⟨rfl, rfl, rfl, by decide +kernel, rfl, by decide +kernel, by decide +kernel⟩
def i_law_2 : List S := [(.par [(.var 5), (.var 6)] [(.bi .repr [(.var 3)]), (.call "_law_due" [(.var 3)] [0])]), (.ite (.or (.cmp .NotEq (.bi .repr [(.lst [(.call "bands_error" [(.var 3)] [0]), (.call "bands_error" [(.var 3)] [0])])]) (.bi .repr [(.lst [(.var 6), (.var 6)])])) (.cmp .NotEq (.bi .repr [(.var 3)]) (.var 5))) [(.ret (.cst (.bool false)))] [])]
def i_law_6 : List S := [(.ite (.and (.cmp .Lt (.var 8) (.cst (.int 1000000))) (.un .Not (.chain .LtE .LtE (.call "band_of" [(.var 2), (.var 7), (.bin .Add (.var 8) (.cst (.int 1)))] [0, 1, 2]) (.var 11) (.call "band_of" [(.var 2), (.bin .Add (.var 7) (.cst (.int 1))), (.bin .Add (.var 8) (.cst (.int 1)))] [0, 1, 2])))) [(.ret (.cst (.bool false)))] [])]
def i_law_5 : List S := ((.ite (.and (.notN (.var 15)) (.cmp .Gt (.var 8) (.cst (.int 0)))) [(.ite (.or (.cmp .NotEq (.call "_law_band" [(.var 2), (.var 7), (.bin .Add (.var 8) (.var 15))] [0, 1, 2]) (.var 11)) (.cmp .Eq (.call "_law_band" [(.var 2), (.var 7), (.bin .Add (.bin .Add (.var 8) (.var 15)) (.cst (.int 1)))] [0, 1, 2]) (.var 11))) [(.ret (.cst (.bool false)))] [])] []) :: i_law_6)
def i_law_4 : List S := ((.asg (.tup [(.var 7), (.var 8)]) (.call "_law_counts" [(.var 1), (.var 2)] [0, 1])) :: (.par [(.var 9), (.var 10)] [(.call "_law_pick" [(.var 1), (.lst [(.call "_law_draw" [(.var 1), (.cst (.int 9))] [0, 1]), (.call "_law_draw" [(.var 1), (.cst (.int 1000001))] [0, 1]), (.cst (.int 1000000)), (.cst (.int 5000))])] [0, 1]), (.bi .repr [(.var 2)])]) :: (.asg (.var 11) (.call "_law_band" [(.var 2), (.var 7), (.var 8)] [0, 1, 2])) :: (.asg (.var 6) (.new (.lst [(.var 11), (.bin .FloorDiv (.bin .Add (.bin .Mult (.bin .Mult (.cst (.int 2)) (.var 9)) (.ix (.ix (.var 2) (.var 11)) (.cst (.int 1)))) (.cst (.int 10000))) (.cst (.int 20000))), (.call "_law_least_more" [(.var 2), (.var 7), (.var 8)] [0, 1, 2])]))) :: (.expr (.mth .append (.var 6) [(.call "_law_most_missed" [(.var 2), (.var 7), (.var 8)] [0, 1, 2])])) :: (.asg (.var 12) (.new (.lst [(.call "band_of" [(.var 2), (.var 7), (.var 8)] [0, 1, 2]), (.call "owed" [(.var 2), (.var 7), (.var 8), (.var 9)] [0, 1, 2, 3]), (.call "least_more" [(.var 2), (.var 7), (.var 8)] [0, 1, 2])]))) :: (.expr (.mth .append (.var 12) [(.call "most_missed" [(.var 2), (.var 7), (.var 8)] [0, 1, 2])])) :: (.asg (.var 13) (.new (.lst [(.call "band_of" [(.var 8), (.var 7), (.var 2)] [2, 1, 0]), (.call "owed" [(.var 9), (.var 8), (.var 7), (.var 2)] [3, 2, 1, 0])]))) :: (.expr (.mth .append (.var 13) [(.call "least_more" [(.var 8), (.var 7), (.var 2)] [2, 1, 0])])) :: (.expr (.mth .append (.var 13) [(.call "most_missed" [(.var 8), (.var 7), (.var 2)] [2, 1, 0])])) :: (.ite (.or (.cmp .NotEq (.bi .repr [(.new (.lst [(.var 12), (.var 13)]))]) (.bi .repr [(.new (.lst [(.var 6), (.var 6)]))])) (.cmp .NotEq (.bi .repr [(.var 2)]) (.var 10))) [(.ret (.cst (.bool false)))] []) :: (.par [(.var 14), (.var 15)] [(.ix (.var 6) (.cst (.int 2))), (.ix (.var 6) (.cst (.int 3)))]) :: (.ite (.notN (.var 14)) [(.ite (.cmp .LtE (.call "_law_band" [(.var 2), (.bin .Add (.var 7) (.var 14)), (.bin .Add (.var 8) (.var 14))] [0, 1, 2]) (.var 11)) [(.ret (.cst (.bool false)))] []), (.ite (.cmp .Gt (.call "_law_band" [(.var 2), (.bin .Sub (.bin .Add (.var 7) (.var 14)) (.cst (.int 1))), (.bin .Sub (.bin .Add (.var 8) (.var 14)) (.cst (.int 1)))] [0, 1, 2]) (.var 11)) [(.ret (.cst (.bool false)))] [])] [(.ite (.cmp .Gt (.call "_law_band" [(.var 2), (.bin .Add (.var 7) (.cst (.int 5000))), (.bin .Add (.var 8) (.cst (.int 5000)))] [0, 1, 2]) (.var 11)) [(.ret (.cst (.bool false)))] [])]) :: i_law_5)
def i_law_7 : List S := [(.ret (.cst (.bool true)))]
def i_law_3 : List S := ((.for_ (.var 4) (.rng (.cst (.int 0)) (.cst (.int 6))) i_law_4) :: i_law_7)
def i_law_1 : List S := ((.for_ (.var 3) (.seq (.call "_law_values" [(.var 1), (.var 2)] [0, 1])) i_law_2) :: i_law_3)
def i_law : List S := ((.asg (.var 1) (.call "_law_bag" [(.var 0)] [0])) :: (.asg (.var 2) (.call "_law_bands" [(.var 1)] [0])) :: i_law_1)
theorem e_law : cB 60 c_law (defBody s_law) = some i_law := by kernel_rfl
theorem z_law : FnScope c_law.N ["script"] (defScope s_law) := ⟨rfl, rfl, rfl, by decide +kernel, rfl, by decide +kernel, by decide +kernel⟩
end Lw

namespace Lw
open PySem L2 Pd PyProof.Rows
def num (lo hi : Int) : PyData → Bool
  | .int i => decide (lo ≤ i) && decide (i ≤ hi)
  | _ => false
def isBand : PyData → Bool
  | .tuple ps => decide (ps.length = 2) && ps.all (num 0 10000)
  | _ => false
def spNum : FS := fun ds M P _ => ∃ p lo hi, ds = [.v p, .v (.int lo), .v (.int hi)] ∧ P (.v (.bool (num lo hi p))) M
theorem ok_is_whole (T : Tb) : ∀ ds M P PX, spNum ds M P PX → fnW true T 3 3 i_is_whole ds M P PX := by
  rintro _ M P PX ⟨p, lo, hi, rfl, h⟩
  unfold i_is_whole
  cases p
  case int i =>
    simp only [evSs, evS, evR, evL, evO, evB, evT, evTs, evSrc, asVal_val, asVal_fl, asVal_flD, asVal_fd0, asNew_fl, List.getElem?_cons_zero, List.getElem?_cons_succ, List.getElem?_nil, Option.some.injEq, D.v.injEq, D.loc.injEq, Ob.lst.injEq, PyData.bool.injEq, PyData.int.injEq, PyData.str.injEq, PyData.tuple.injEq, PyData.list.injEq, exists_eq_left, exists_eq_left', exists_and_left, and_true, true_and, vw_v, dataOf_nil, dataOf_cons, dataOf_map, Option.map_some, if_true, Bool.false_eq_true, if_false, setE, List.set_cons_zero, List.set_cons_succ, exists_eq', exists_eq, isiW, bw_add, bw_sub, bw_mul, bw_fdiv, bw_mod, bw_pow, bw_adds, bw_addt, bw_addl, bw_addn, bw_mull, bw_mult, uw_neg, uw_not, cw_lt, cw_lte, cw_gt, cw_gte, cw_eq, cw_ne, eq_ss, eq_ii, eq_tt, eq_ll, eq_lo, eq_nn, eq_bb, cw_in, cw_nin, bi_len, lw_tup, lw_lst, lw_str, lw_loc, bi_abs, bi_sum, bi_alls, bi_any, bi_int, bi_intb, bi_tup, bi_lst, bi_srt, bi_rpr, bi_max2, bi_min2, bi_max, bi_min, sw_tup, sw_lst, sw_loc, rw_tup, rw_lst, rw_loc, mw_app, mw_pop, mw_ext, iw, stw, seqOf_tup, seqOf_lst, lstOf_lst, intsOf_map, eqv_int, lay_int, List.length_cons, List.length_nil, permute, List.filterMap_cons, List.filterMap_nil, gd_v, Its.ok, List.not_mem_nil, List.map_cons, List.map_nil, List.cons_append, List.nil_append, List.replicate, Nat.reduceAdd, Nat.reduceSub, Nat.zero_add, Nat.reduceLT, Nat.reduceLeDiff, false_implies, implies_true, isNone, wipeE, fnW, List.cons.injEq, and_assoc, eq_self, decide_true, decide_false, Bool.not_true, Bool.not_false, Bool.true_and, Bool.false_and, Bool.and_true, Bool.and_false, Bool.or_true, Bool.true_or, Bool.or_false, Bool.false_or, beq_self_eq_true, not_true_eq_false, not_false_eq_true, up_same, up_up, Option.isSome_some]
    have e : num lo hi (.int i) = (decide (lo ≤ i) && decide (i ≤ hi)) := rfl
    rw [e] at h
    by_cases c : lo ≤ i
    · simp only [c, evSs, evS, evR, evL, evO, evB, evT, evTs, evSrc, asVal_val, asVal_fl, asVal_flD, asVal_fd0, asNew_fl, List.getElem?_cons_zero, List.getElem?_cons_succ, List.getElem?_nil, Option.some.injEq, D.v.injEq, D.loc.injEq, Ob.lst.injEq, PyData.bool.injEq, PyData.int.injEq, PyData.str.injEq, PyData.tuple.injEq, PyData.list.injEq, exists_eq_left, exists_eq_left', exists_and_left, and_true, true_and, vw_v, dataOf_nil, dataOf_cons, dataOf_map, Option.map_some, if_true, Bool.false_eq_true, if_false, setE, List.set_cons_zero, List.set_cons_succ, exists_eq', exists_eq, isiW, bw_add, bw_sub, bw_mul, bw_fdiv, bw_mod, bw_pow, bw_adds, bw_addt, bw_addl, bw_addn, bw_mull, bw_mult, uw_neg, uw_not, cw_lt, cw_lte, cw_gt, cw_gte, cw_eq, cw_ne, eq_ss, eq_ii, eq_tt, eq_ll, eq_lo, eq_nn, eq_bb, cw_in, cw_nin, bi_len, lw_tup, lw_lst, lw_str, lw_loc, bi_abs, bi_sum, bi_alls, bi_any, bi_int, bi_intb, bi_tup, bi_lst, bi_srt, bi_rpr, bi_max2, bi_min2, bi_max, bi_min, sw_tup, sw_lst, sw_loc, rw_tup, rw_lst, rw_loc, mw_app, mw_pop, mw_ext, iw, stw, seqOf_tup, seqOf_lst, lstOf_lst, intsOf_map, eqv_int, lay_int, List.length_cons, List.length_nil, permute, List.filterMap_cons, List.filterMap_nil, gd_v, Its.ok, List.not_mem_nil, List.map_cons, List.map_nil, List.cons_append, List.nil_append, List.replicate, Nat.reduceAdd, Nat.reduceSub, Nat.zero_add, Nat.reduceLT, Nat.reduceLeDiff, false_implies, implies_true, isNone, wipeE, fnW, List.cons.injEq, and_assoc, eq_self, decide_true, decide_false, Bool.not_true, Bool.not_false, Bool.true_and, Bool.false_and, Bool.and_true, Bool.and_false, Bool.or_true, Bool.true_or, Bool.or_false, Bool.false_or, beq_self_eq_true, not_true_eq_false, not_false_eq_true, up_same, up_up, Option.isSome_some] at h ⊢; exact h
    · simp only [c, evSs, evS, evR, evL, evO, evB, evT, evTs, evSrc, asVal_val, asVal_fl, asVal_flD, asVal_fd0, asNew_fl, List.getElem?_cons_zero, List.getElem?_cons_succ, List.getElem?_nil, Option.some.injEq, D.v.injEq, D.loc.injEq, Ob.lst.injEq, PyData.bool.injEq, PyData.int.injEq, PyData.str.injEq, PyData.tuple.injEq, PyData.list.injEq, exists_eq_left, exists_eq_left', exists_and_left, and_true, true_and, vw_v, dataOf_nil, dataOf_cons, dataOf_map, Option.map_some, if_true, Bool.false_eq_true, if_false, setE, List.set_cons_zero, List.set_cons_succ, exists_eq', exists_eq, isiW, bw_add, bw_sub, bw_mul, bw_fdiv, bw_mod, bw_pow, bw_adds, bw_addt, bw_addl, bw_addn, bw_mull, bw_mult, uw_neg, uw_not, cw_lt, cw_lte, cw_gt, cw_gte, cw_eq, cw_ne, eq_ss, eq_ii, eq_tt, eq_ll, eq_lo, eq_nn, eq_bb, cw_in, cw_nin, bi_len, lw_tup, lw_lst, lw_str, lw_loc, bi_abs, bi_sum, bi_alls, bi_any, bi_int, bi_intb, bi_tup, bi_lst, bi_srt, bi_rpr, bi_max2, bi_min2, bi_max, bi_min, sw_tup, sw_lst, sw_loc, rw_tup, rw_lst, rw_loc, mw_app, mw_pop, mw_ext, iw, stw, seqOf_tup, seqOf_lst, lstOf_lst, intsOf_map, eqv_int, lay_int, List.length_cons, List.length_nil, permute, List.filterMap_cons, List.filterMap_nil, gd_v, Its.ok, List.not_mem_nil, List.map_cons, List.map_nil, List.cons_append, List.nil_append, List.replicate, Nat.reduceAdd, Nat.reduceSub, Nat.zero_add, Nat.reduceLT, Nat.reduceLeDiff, false_implies, implies_true, isNone, wipeE, fnW, List.cons.injEq, and_assoc, eq_self, decide_true, decide_false, Bool.not_true, Bool.not_false, Bool.true_and, Bool.false_and, Bool.and_true, Bool.and_false, Bool.or_true, Bool.true_or, Bool.or_false, Bool.false_or, beq_self_eq_true, not_true_eq_false, not_false_eq_true, up_same, up_up, Option.isSome_some] at h ⊢; exact h
  all_goals (simp only [evSs, evS, evR, evL, evO, evB, evT, evTs, evSrc, asVal_val, asVal_fl, asVal_flD, asVal_fd0, asNew_fl, List.getElem?_cons_zero, List.getElem?_cons_succ, List.getElem?_nil, Option.some.injEq, D.v.injEq, D.loc.injEq, Ob.lst.injEq, PyData.bool.injEq, PyData.int.injEq, PyData.str.injEq, PyData.tuple.injEq, PyData.list.injEq, exists_eq_left, exists_eq_left', exists_and_left, and_true, true_and, vw_v, dataOf_nil, dataOf_cons, dataOf_map, Option.map_some, if_true, Bool.false_eq_true, if_false, setE, List.set_cons_zero, List.set_cons_succ, exists_eq', exists_eq, isiW, bw_add, bw_sub, bw_mul, bw_fdiv, bw_mod, bw_pow, bw_adds, bw_addt, bw_addl, bw_addn, bw_mull, bw_mult, uw_neg, uw_not, cw_lt, cw_lte, cw_gt, cw_gte, cw_eq, cw_ne, eq_ss, eq_ii, eq_tt, eq_ll, eq_lo, eq_nn, eq_bb, cw_in, cw_nin, bi_len, lw_tup, lw_lst, lw_str, lw_loc, bi_abs, bi_sum, bi_alls, bi_any, bi_int, bi_intb, bi_tup, bi_lst, bi_srt, bi_rpr, bi_max2, bi_min2, bi_max, bi_min, sw_tup, sw_lst, sw_loc, rw_tup, rw_lst, rw_loc, mw_app, mw_pop, mw_ext, iw, stw, seqOf_tup, seqOf_lst, lstOf_lst, intsOf_map, eqv_int, lay_int, List.length_cons, List.length_nil, permute, List.filterMap_cons, List.filterMap_nil, gd_v, Its.ok, List.not_mem_nil, List.map_cons, List.map_nil, List.cons_append, List.nil_append, List.replicate, Nat.reduceAdd, Nat.reduceSub, Nat.zero_add, Nat.reduceLT, Nat.reduceLeDiff, false_implies, implies_true, isNone, wipeE, fnW, List.cons.injEq, and_assoc, eq_self, decide_true, decide_false, Bool.not_true, Bool.not_false, Bool.true_and, Bool.false_and, Bool.and_true, Bool.and_false, Bool.or_true, Bool.true_or, Bool.or_false, Bool.false_or, beq_self_eq_true, not_true_eq_false, not_false_eq_true, up_same, up_up, Option.isSome_some]; exact h)
def spIsBand : FS := fun ds M P _ => ∃ p n, ds = [.v p] ∧ Sm 5 n p ∧ n ≤ 100000 ∧ P (.v (.bool (isBand p))) M
theorem ok_is_band (T : Tb) (hT : T "is_whole" = spNum) : ∀ ds M P PX, spIsBand ds M P PX → fnW true T 2 1 i_is_band ds M P PX := by
  rintro _ M P PX ⟨p, n, rfl, hp, hn, h⟩
  unfold i_is_band
  have hz := sizeLine_eq
  cases p
  case tuple ps =>
    have hl := hp.tup.1
    simp only [evSs, evS, evR, evL, evO, evB, evT, evTs, evSrc, asVal_val, asVal_fl, asVal_flD, asVal_fd0, asNew_fl, List.getElem?_cons_zero, List.getElem?_cons_succ, List.getElem?_nil, Option.some.injEq, D.v.injEq, D.loc.injEq, Ob.lst.injEq, PyData.bool.injEq, PyData.int.injEq, PyData.str.injEq, PyData.tuple.injEq, PyData.list.injEq, exists_eq_left, exists_eq_left', exists_and_left, and_true, true_and, vw_v, dataOf_nil, dataOf_cons, dataOf_map, Option.map_some, if_true, Bool.false_eq_true, if_false, setE, List.set_cons_zero, List.set_cons_succ, exists_eq', exists_eq, isiW, bw_add, bw_sub, bw_mul, bw_fdiv, bw_mod, bw_pow, bw_adds, bw_addt, bw_addl, bw_addn, bw_mull, bw_mult, uw_neg, uw_not, cw_lt, cw_lte, cw_gt, cw_gte, cw_eq, cw_ne, eq_ss, eq_ii, eq_tt, eq_ll, eq_lo, eq_nn, eq_bb, cw_in, cw_nin, bi_len, lw_tup, lw_lst, lw_str, lw_loc, bi_abs, bi_sum, bi_alls, bi_any, bi_int, bi_intb, bi_tup, bi_lst, bi_srt, bi_rpr, bi_max2, bi_min2, bi_max, bi_min, sw_tup, sw_lst, sw_loc, rw_tup, rw_lst, rw_loc, mw_app, mw_pop, mw_ext, iw, stw, seqOf_tup, seqOf_lst, lstOf_lst, intsOf_map, eqv_int, lay_int, List.length_cons, List.length_nil, permute, List.filterMap_cons, List.filterMap_nil, gd_v, Its.ok, List.not_mem_nil, List.map_cons, List.map_nil, List.cons_append, List.nil_append, List.replicate, Nat.reduceAdd, Nat.reduceSub, Nat.zero_add, Nat.reduceLT, Nat.reduceLeDiff, false_implies, implies_true, isNone, wipeE, fnW, List.cons.injEq, and_assoc, eq_self, decide_true, decide_false, Bool.not_true, Bool.not_false, Bool.true_and, Bool.false_and, Bool.and_true, Bool.and_false, Bool.or_true, Bool.true_or, Bool.or_false, Bool.false_or, beq_self_eq_true, not_true_eq_false, not_false_eq_true, up_same, up_up, Option.isSome_some, List.length_map]
    have e : isBand (.tuple ps) = (decide (ps.length = 2) && ps.all (num 0 10000)) := rfl
    rw [e] at h
    by_cases q : ps.length = 2
    · have q' : (((ps.length : Nat) : Int) == 2) = true := by rw [q]; rfl
      simp only [q', evSs, evS, evR, evL, evO, evB, evT, evTs, evSrc, asVal_val, asVal_fl, asVal_flD, asVal_fd0, asNew_fl, List.getElem?_cons_zero, List.getElem?_cons_succ, List.getElem?_nil, Option.some.injEq, D.v.injEq, D.loc.injEq, Ob.lst.injEq, PyData.bool.injEq, PyData.int.injEq, PyData.str.injEq, PyData.tuple.injEq, PyData.list.injEq, exists_eq_left, exists_eq_left', exists_and_left, and_true, true_and, vw_v, dataOf_nil, dataOf_cons, dataOf_map, Option.map_some, if_true, Bool.false_eq_true, if_false, setE, List.set_cons_zero, List.set_cons_succ, exists_eq', exists_eq, isiW, bw_add, bw_sub, bw_mul, bw_fdiv, bw_mod, bw_pow, bw_adds, bw_addt, bw_addl, bw_addn, bw_mull, bw_mult, uw_neg, uw_not, cw_lt, cw_lte, cw_gt, cw_gte, cw_eq, cw_ne, eq_ss, eq_ii, eq_tt, eq_ll, eq_lo, eq_nn, eq_bb, cw_in, cw_nin, bi_len, lw_tup, lw_lst, lw_str, lw_loc, bi_abs, bi_sum, bi_alls, bi_any, bi_int, bi_intb, bi_tup, bi_lst, bi_srt, bi_rpr, bi_max2, bi_min2, bi_max, bi_min, sw_tup, sw_lst, sw_loc, rw_tup, rw_lst, rw_loc, mw_app, mw_pop, mw_ext, iw, stw, seqOf_tup, seqOf_lst, lstOf_lst, intsOf_map, eqv_int, lay_int, List.length_cons, List.length_nil, permute, List.filterMap_cons, List.filterMap_nil, gd_v, Its.ok, List.not_mem_nil, List.map_cons, List.map_nil, List.cons_append, List.nil_append, List.replicate, Nat.reduceAdd, Nat.reduceSub, Nat.zero_add, Nat.reduceLT, Nat.reduceLeDiff, false_implies, implies_true, isNone, wipeE, fnW, List.cons.injEq, and_assoc, eq_self, decide_true, decide_false, Bool.not_true, Bool.not_false, Bool.true_and, Bool.false_and, Bool.and_true, Bool.and_false, Bool.or_true, Bool.true_or, Bool.or_false, Bool.false_or, beq_self_eq_true, not_true_eq_false, not_false_eq_true, up_same, up_up, Option.isSome_some]
      refine compW_to D.v (fun p => .v (.bool (num 0 10000 p))) trivial (by omega) (fun x hx k k0 hk => ?_) ?_
      · simp only [evSs, evS, evR, evL, evO, evB, evT, evTs, evSrc, asVal_val, asVal_fl, asVal_flD, asVal_fd0, asNew_fl, List.getElem?_cons_zero, List.getElem?_cons_succ, List.getElem?_nil, Option.some.injEq, D.v.injEq, D.loc.injEq, Ob.lst.injEq, PyData.bool.injEq, PyData.int.injEq, PyData.str.injEq, PyData.tuple.injEq, PyData.list.injEq, exists_eq_left, exists_eq_left', exists_and_left, and_true, true_and, vw_v, dataOf_nil, dataOf_cons, dataOf_map, Option.map_some, if_true, Bool.false_eq_true, if_false, setE, List.set_cons_zero, List.set_cons_succ, exists_eq', exists_eq, isiW, bw_add, bw_sub, bw_mul, bw_fdiv, bw_mod, bw_pow, bw_adds, bw_addt, bw_addl, bw_addn, bw_mull, bw_mult, uw_neg, uw_not, cw_lt, cw_lte, cw_gt, cw_gte, cw_eq, cw_ne, eq_ss, eq_ii, eq_tt, eq_ll, eq_lo, eq_nn, eq_bb, cw_in, cw_nin, bi_len, lw_tup, lw_lst, lw_str, lw_loc, bi_abs, bi_sum, bi_alls, bi_any, bi_int, bi_intb, bi_tup, bi_lst, bi_srt, bi_rpr, bi_max2, bi_min2, bi_max, bi_min, sw_tup, sw_lst, sw_loc, rw_tup, rw_lst, rw_loc, mw_app, mw_pop, mw_ext, iw, stw, seqOf_tup, seqOf_lst, lstOf_lst, intsOf_map, eqv_int, lay_int, List.length_cons, List.length_nil, permute, List.filterMap_cons, List.filterMap_nil, gd_v, Its.ok, List.not_mem_nil, List.map_cons, List.map_nil, List.cons_append, List.nil_append, List.replicate, Nat.reduceAdd, Nat.reduceSub, Nat.zero_add, Nat.reduceLT, Nat.reduceLeDiff, false_implies, implies_true, isNone, wipeE, fnW, List.cons.injEq, and_assoc, eq_self, decide_true, decide_false, Bool.not_true, Bool.not_false, Bool.true_and, Bool.false_and, Bool.and_true, Bool.and_false, Bool.or_true, Bool.true_or, Bool.or_false, Bool.false_or, beq_self_eq_true, not_true_eq_false, not_false_eq_true, up_same, up_up, Option.isSome_some, hT]
        exact ⟨x, 0, 10000, rfl, hk⟩
      · have em : (ps.map fun p => D.v (.bool (num 0 10000 p))) = ((ps.map (num 0 10000)).map PyData.bool).map D.v := by simp only [List.map_map]; rfl
        rw [em]
        simp only [evSs, evS, evR, evL, evO, evB, evT, evTs, evSrc, asVal_val, asVal_fl, asVal_flD, asVal_fd0, asNew_fl, List.getElem?_cons_zero, List.getElem?_cons_succ, List.getElem?_nil, Option.some.injEq, D.v.injEq, D.loc.injEq, Ob.lst.injEq, PyData.bool.injEq, PyData.int.injEq, PyData.str.injEq, PyData.tuple.injEq, PyData.list.injEq, exists_eq_left, exists_eq_left', exists_and_left, and_true, true_and, vw_v, dataOf_nil, dataOf_cons, dataOf_map, Option.map_some, if_true, Bool.false_eq_true, if_false, setE, List.set_cons_zero, List.set_cons_succ, exists_eq', exists_eq, isiW, bw_add, bw_sub, bw_mul, bw_fdiv, bw_mod, bw_pow, bw_adds, bw_addt, bw_addl, bw_addn, bw_mull, bw_mult, uw_neg, uw_not, cw_lt, cw_lte, cw_gt, cw_gte, cw_eq, cw_ne, eq_ss, eq_ii, eq_tt, eq_ll, eq_lo, eq_nn, eq_bb, cw_in, cw_nin, bi_len, lw_tup, lw_lst, lw_str, lw_loc, bi_abs, bi_sum, bi_alls, bi_any, bi_int, bi_intb, bi_tup, bi_lst, bi_srt, bi_rpr, bi_max2, bi_min2, bi_max, bi_min, sw_tup, sw_lst, sw_loc, rw_tup, rw_lst, rw_loc, mw_app, mw_pop, mw_ext, iw, stw, seqOf_tup, seqOf_lst, lstOf_lst, intsOf_map, eqv_int, lay_int, List.length_cons, List.length_nil, permute, List.filterMap_cons, List.filterMap_nil, gd_v, Its.ok, List.not_mem_nil, List.map_cons, List.map_nil, List.cons_append, List.nil_append, List.replicate, Nat.reduceAdd, Nat.reduceSub, Nat.zero_add, Nat.reduceLT, Nat.reduceLeDiff, false_implies, implies_true, isNone, wipeE, fnW, List.cons.injEq, and_assoc, eq_self, decide_true, decide_false, Bool.not_true, Bool.not_false, Bool.true_and, Bool.false_and, Bool.and_true, Bool.and_false, Bool.or_true, Bool.true_or, Bool.or_false, Bool.false_or, beq_self_eq_true, not_true_eq_false, not_false_eq_true, up_same, up_up, Option.isSome_some, boolsOf_map]
        simp only [q, evSs, evS, evR, evL, evO, evB, evT, evTs, evSrc, asVal_val, asVal_fl, asVal_flD, asVal_fd0, asNew_fl, List.getElem?_cons_zero, List.getElem?_cons_succ, List.getElem?_nil, Option.some.injEq, D.v.injEq, D.loc.injEq, Ob.lst.injEq, PyData.bool.injEq, PyData.int.injEq, PyData.str.injEq, PyData.tuple.injEq, PyData.list.injEq, exists_eq_left, exists_eq_left', exists_and_left, and_true, true_and, vw_v, dataOf_nil, dataOf_cons, dataOf_map, Option.map_some, if_true, Bool.false_eq_true, if_false, setE, List.set_cons_zero, List.set_cons_succ, exists_eq', exists_eq, isiW, bw_add, bw_sub, bw_mul, bw_fdiv, bw_mod, bw_pow, bw_adds, bw_addt, bw_addl, bw_addn, bw_mull, bw_mult, uw_neg, uw_not, cw_lt, cw_lte, cw_gt, cw_gte, cw_eq, cw_ne, eq_ss, eq_ii, eq_tt, eq_ll, eq_lo, eq_nn, eq_bb, cw_in, cw_nin, bi_len, lw_tup, lw_lst, lw_str, lw_loc, bi_abs, bi_sum, bi_alls, bi_any, bi_int, bi_intb, bi_tup, bi_lst, bi_srt, bi_rpr, bi_max2, bi_min2, bi_max, bi_min, sw_tup, sw_lst, sw_loc, rw_tup, rw_lst, rw_loc, mw_app, mw_pop, mw_ext, iw, stw, seqOf_tup, seqOf_lst, lstOf_lst, intsOf_map, eqv_int, lay_int, List.length_cons, List.length_nil, permute, List.filterMap_cons, List.filterMap_nil, gd_v, Its.ok, List.not_mem_nil, List.map_cons, List.map_nil, List.cons_append, List.nil_append, List.replicate, Nat.reduceAdd, Nat.reduceSub, Nat.zero_add, Nat.reduceLT, Nat.reduceLeDiff, false_implies, implies_true, isNone, wipeE, fnW, List.cons.injEq, and_assoc, eq_self, decide_true, decide_false, Bool.not_true, Bool.not_false, Bool.true_and, Bool.false_and, Bool.and_true, Bool.and_false, Bool.or_true, Bool.true_or, Bool.or_false, Bool.false_or, beq_self_eq_true, not_true_eq_false, not_false_eq_true, up_same, up_up, Option.isSome_some] at h
        rw [show ((ps.map (num 0 10000)).all id) = ps.all (num 0 10000) by rw [List.all_map]; rfl]
        exact h
    · have q' : (((ps.length : Nat) : Int) == 2) = false := beq_eq_false_iff_ne.mpr (by omega)
      simp only [q', q, evSs, evS, evR, evL, evO, evB, evT, evTs, evSrc, asVal_val, asVal_fl, asVal_flD, asVal_fd0, asNew_fl, List.getElem?_cons_zero, List.getElem?_cons_succ, List.getElem?_nil, Option.some.injEq, D.v.injEq, D.loc.injEq, Ob.lst.injEq, PyData.bool.injEq, PyData.int.injEq, PyData.str.injEq, PyData.tuple.injEq, PyData.list.injEq, exists_eq_left, exists_eq_left', exists_and_left, and_true, true_and, vw_v, dataOf_nil, dataOf_cons, dataOf_map, Option.map_some, if_true, Bool.false_eq_true, if_false, setE, List.set_cons_zero, List.set_cons_succ, exists_eq', exists_eq, isiW, bw_add, bw_sub, bw_mul, bw_fdiv, bw_mod, bw_pow, bw_adds, bw_addt, bw_addl, bw_addn, bw_mull, bw_mult, uw_neg, uw_not, cw_lt, cw_lte, cw_gt, cw_gte, cw_eq, cw_ne, eq_ss, eq_ii, eq_tt, eq_ll, eq_lo, eq_nn, eq_bb, cw_in, cw_nin, bi_len, lw_tup, lw_lst, lw_str, lw_loc, bi_abs, bi_sum, bi_alls, bi_any, bi_int, bi_intb, bi_tup, bi_lst, bi_srt, bi_rpr, bi_max2, bi_min2, bi_max, bi_min, sw_tup, sw_lst, sw_loc, rw_tup, rw_lst, rw_loc, mw_app, mw_pop, mw_ext, iw, stw, seqOf_tup, seqOf_lst, lstOf_lst, intsOf_map, eqv_int, lay_int, List.length_cons, List.length_nil, permute, List.filterMap_cons, List.filterMap_nil, gd_v, Its.ok, List.not_mem_nil, List.map_cons, List.map_nil, List.cons_append, List.nil_append, List.replicate, Nat.reduceAdd, Nat.reduceSub, Nat.zero_add, Nat.reduceLT, Nat.reduceLeDiff, false_implies, implies_true, isNone, wipeE, fnW, List.cons.injEq, and_assoc, eq_self, decide_true, decide_false, Bool.not_true, Bool.not_false, Bool.true_and, Bool.false_and, Bool.and_true, Bool.and_false, Bool.or_true, Bool.true_or, Bool.or_false, Bool.false_or, beq_self_eq_true, not_true_eq_false, not_false_eq_true, up_same, up_up, Option.isSome_some] at h ⊢
      exact h
  all_goals (simp only [evSs, evS, evR, evL, evO, evB, evT, evTs, evSrc, asVal_val, asVal_fl, asVal_flD, asVal_fd0, asNew_fl, List.getElem?_cons_zero, List.getElem?_cons_succ, List.getElem?_nil, Option.some.injEq, D.v.injEq, D.loc.injEq, Ob.lst.injEq, PyData.bool.injEq, PyData.int.injEq, PyData.str.injEq, PyData.tuple.injEq, PyData.list.injEq, exists_eq_left, exists_eq_left', exists_and_left, and_true, true_and, vw_v, dataOf_nil, dataOf_cons, dataOf_map, Option.map_some, if_true, Bool.false_eq_true, if_false, setE, List.set_cons_zero, List.set_cons_succ, exists_eq', exists_eq, isiW, bw_add, bw_sub, bw_mul, bw_fdiv, bw_mod, bw_pow, bw_adds, bw_addt, bw_addl, bw_addn, bw_mull, bw_mult, uw_neg, uw_not, cw_lt, cw_lte, cw_gt, cw_gte, cw_eq, cw_ne, eq_ss, eq_ii, eq_tt, eq_ll, eq_lo, eq_nn, eq_bb, cw_in, cw_nin, bi_len, lw_tup, lw_lst, lw_str, lw_loc, bi_abs, bi_sum, bi_alls, bi_any, bi_int, bi_intb, bi_tup, bi_lst, bi_srt, bi_rpr, bi_max2, bi_min2, bi_max, bi_min, sw_tup, sw_lst, sw_loc, rw_tup, rw_lst, rw_loc, mw_app, mw_pop, mw_ext, iw, stw, seqOf_tup, seqOf_lst, lstOf_lst, intsOf_map, eqv_int, lay_int, List.length_cons, List.length_nil, permute, List.filterMap_cons, List.filterMap_nil, gd_v, Its.ok, List.not_mem_nil, List.map_cons, List.map_nil, List.cons_append, List.nil_append, List.replicate, Nat.reduceAdd, Nat.reduceSub, Nat.zero_add, Nat.reduceLT, Nat.reduceLeDiff, false_implies, implies_true, isNone, wipeE, fnW, List.cons.injEq, and_assoc, eq_self, decide_true, decide_false, Bool.not_true, Bool.not_false, Bool.true_and, Bool.false_and, Bool.and_true, Bool.and_false, Bool.or_true, Bool.true_or, Bool.or_false, Bool.false_or, beq_self_eq_true, not_true_eq_false, not_false_eq_true, up_same, up_up, Option.isSome_some]; exact h)
theorem num_int {lo hi : Int} {p : PyData} (h : num lo hi p = true) : ∃ i : Int, p = .int i ∧ lo ≤ i ∧ i ≤ hi := by
  cases p with
  | int i =>
    have h' : (decide (lo ≤ i) && decide (i ≤ hi)) = true := h
    rw [Bool.and_eq_true, decide_eq_true_eq, decide_eq_true_eq] at h'
    exact ⟨i, rfl, h'.1, h'.2⟩
  | _ => cases h
theorem band_pr {p : PyData} (h : isBand p = true) : ∃ q : Int × Int, p = pr q ∧ 0 ≤ q.1 ∧ q.1 ≤ 10000 ∧ 0 ≤ q.2 ∧ q.2 ≤ 10000 := by
  cases p with
  | tuple ps =>
    have h' : (decide (ps.length = 2) && ps.all (num 0 10000)) = true := h
    rw [Bool.and_eq_true, decide_eq_true_eq] at h'
    match ps, h' with
    | [a, b], h' =>
      simp only [List.all_cons, List.all_nil, Bool.and_true, Bool.and_eq_true] at h'
      obtain ⟨i, rfl, i0, i1⟩ := num_int h'.2.1
      obtain ⟨j, rfl, j0, j1⟩ := num_int h'.2.2
      exact ⟨(i, j), rfl, i0, i1, j0, j1⟩
    | [], h' => exact absurd h'.1 (by decide)
    | [_], h' => exact absurd h'.1 (by simp)
    | _ :: _ :: _ :: r, h' => exact absurd h'.1 (by simp)
  | _ => cases h
def toPs (ps : List PyData) : List (Int × Int) := ps.map fun
  | .tuple [.int a, .int b] => (a, b)
  | _ => (0, 0)
def dn (bs : List (Int × Int)) (k : Nat) : Bool := decide ((bs.getD (k + 1) (0, 0)).1 ≤ (bs.getD k (0, 0)).1) || decide ((bs.getD k (0, 0)).2 ≤ (bs.getD (k + 1) (0, 0)).2)
def g1 (q : PyData × Nat) : Option D := if isBand q.1 = true then none else some (.v (.tuple [.str "band", .int q.2]))
def g2 (bs : List (Int × Int)) (k : Nat) : Option D := if dn bs k = true then some (.v (.tuple [.str "order", .int (1 + k)])) else none
def bandsErr : PyData → D
  | .tuple ps => if 1 ≤ ps.length ∧ ps.length ≤ 8 then match ps.zipIdx.findSome? g1 with
      | some r => r
      | none => if ((toPs ps).getD 0 (0, 0)).1 = 0 then match (List.range (ps.length - 1)).findSome? (g2 (toPs ps)) with
          | some r => r
          | none => .v .none
        else .v (.str "begin")
    else .v (.str "form")
  | _ => .v (.str "form")
theorem all_pr : ∀ {ps : List PyData}, (∀ p, p ∈ ps → isBand p = true) → ∃ bs : List (Int × Int), ps = bs.map pr ∧ toPs ps = bs
  | [], _ => ⟨[], rfl, rfl⟩
  | p :: ps, h => by
    obtain ⟨bs, e1, e2⟩ := all_pr fun q hq => h q (List.mem_cons_of_mem _ hq)
    obtain ⟨q, rfl, hq⟩ := band_pr (h p (List.mem_cons_self ..))
    exact ⟨q :: bs, by rw [e1]; rfl, by rw [← e2]; rfl⟩
theorem found_none {ps : List PyData} (h : ps.zipIdx.findSome? g1 = none) : ∃ bs : List (Int × Int), ps = bs.map pr ∧ toPs ps = bs := all_pr fun p hp => by
  obtain ⟨i, hi, e⟩ := List.getElem_of_mem hp
  have := find_none h (p, i) (by rw [List.mem_zipIdx_iff_getElem?]; rw [← e]; exact List.getElem?_eq_getElem hi)
  unfold g1 at this
  split at this
  · assumption
  · cases this
def spBandsErr : FS := fun ds M P _ => ∃ p n, ds = [.v p] ∧ Sm 6 n p ∧ n ≤ 100000 ∧ P (bandsErr p) M
theorem tail_err {T : Tb} {X : XW} {M : Mem} {bs : List (Int × Int)} {po : Po} {d1 : Option D} {d2 : List (Option D)} (h : po.rt (if (bs.getD 0 (0, 0)).1 = 0 then match (List.range (bs.length - 1)).findSome? (g2 bs) with
          | some r => r
          | none => .v .none
        else .v (.str "begin")) M) (c1 : 1 ≤ bs.length) (c2 : bs.length ≤ 8) : evSs T X i_bands_error_3
      (some (.v (.tuple (bs.map pr))) :: d1 :: d2) M po := by
  have hz := sizeLine_eq
  have h00 := enc_atD (xs := bs) (enc := pr) (k := 0) (i := 0) (d := (0, 0)) (by omega) rfl
  unfold i_bands_error_3
  simp only [evSs, evS, evR, evL, evO, evB, evT, evTs, evSrc, asVal_val, asVal_fl, asVal_flD, asVal_fd0, asNew_fl, List.getElem?_cons_zero, List.getElem?_cons_succ, List.getElem?_nil, Option.some.injEq, D.v.injEq, D.loc.injEq, Ob.lst.injEq, PyData.bool.injEq, PyData.int.injEq, PyData.str.injEq, PyData.tuple.injEq, PyData.list.injEq, exists_eq_left, exists_eq_left', exists_and_left, and_true, true_and, vw_v, dataOf_nil, dataOf_cons, dataOf_map, Option.map_some, if_true, Bool.false_eq_true, if_false, setE, List.set_cons_zero, List.set_cons_succ, exists_eq', exists_eq, isiW, bw_add, bw_sub, bw_mul, bw_fdiv, bw_mod, bw_pow, bw_adds, bw_addt, bw_addl, bw_addn, bw_mull, bw_mult, uw_neg, uw_not, cw_lt, cw_lte, cw_gt, cw_gte, cw_eq, cw_ne, eq_ss, eq_ii, eq_tt, eq_ll, eq_lo, eq_nn, eq_bb, cw_in, cw_nin, bi_len, lw_tup, lw_lst, lw_str, lw_loc, bi_abs, bi_sum, bi_alls, bi_any, bi_int, bi_intb, bi_tup, bi_lst, bi_srt, bi_rpr, bi_max2, bi_min2, bi_max, bi_min, sw_tup, sw_lst, sw_loc, rw_tup, rw_lst, rw_loc, mw_app, mw_pop, mw_ext, iw, stw, seqOf_tup, seqOf_lst, lstOf_lst, intsOf_map, eqv_int, lay_int, List.length_cons, List.length_nil, permute, List.filterMap_cons, List.filterMap_nil, gd_v, Its.ok, List.not_mem_nil, List.map_cons, List.map_nil, List.cons_append, List.nil_append, List.replicate, Nat.reduceAdd, Nat.reduceSub, Nat.zero_add, Nat.reduceLT, Nat.reduceLeDiff, false_implies, implies_true, isNone, wipeE, fnW, List.cons.injEq, and_assoc, eq_self, decide_true, decide_false, Bool.not_true, Bool.not_false, Bool.true_and, Bool.false_and, Bool.and_true, Bool.and_false, Bool.or_true, Bool.true_or, Bool.or_false, Bool.false_or, beq_self_eq_true, not_true_eq_false, not_false_eq_true, up_same, up_up, Option.isSome_some, h00, pair0, pr]
  by_cases hb0 : (bs.getD 0 (0, 0)).1 = 0
  · unfold i_bands_error_4
    simp only [hb0, evSs, evS, evR, evL, evO, evB, evT, evTs, evSrc, asVal_val, asVal_fl, asVal_flD, asVal_fd0, asNew_fl, List.getElem?_cons_zero, List.getElem?_cons_succ, List.getElem?_nil, Option.some.injEq, D.v.injEq, D.loc.injEq, Ob.lst.injEq, PyData.bool.injEq, PyData.int.injEq, PyData.str.injEq, PyData.tuple.injEq, PyData.list.injEq, exists_eq_left, exists_eq_left', exists_and_left, and_true, true_and, vw_v, dataOf_nil, dataOf_cons, dataOf_map, Option.map_some, if_true, Bool.false_eq_true, if_false, setE, List.set_cons_zero, List.set_cons_succ, exists_eq', exists_eq, isiW, bw_add, bw_sub, bw_mul, bw_fdiv, bw_mod, bw_pow, bw_adds, bw_addt, bw_addl, bw_addn, bw_mull, bw_mult, uw_neg, uw_not, cw_lt, cw_lte, cw_gt, cw_gte, cw_eq, cw_ne, eq_ss, eq_ii, eq_tt, eq_ll, eq_lo, eq_nn, eq_bb, cw_in, cw_nin, bi_len, lw_tup, lw_lst, lw_str, lw_loc, bi_abs, bi_sum, bi_alls, bi_any, bi_int, bi_intb, bi_tup, bi_lst, bi_srt, bi_rpr, bi_max2, bi_min2, bi_max, bi_min, sw_tup, sw_lst, sw_loc, rw_tup, rw_lst, rw_loc, mw_app, mw_pop, mw_ext, iw, stw, seqOf_tup, seqOf_lst, lstOf_lst, intsOf_map, eqv_int, lay_int, List.length_cons, List.length_nil, permute, List.filterMap_cons, List.filterMap_nil, gd_v, Its.ok, List.not_mem_nil, List.map_cons, List.map_nil, List.cons_append, List.nil_append, List.replicate, Nat.reduceAdd, Nat.reduceSub, Nat.zero_add, Nat.reduceLT, Nat.reduceLeDiff, false_implies, implies_true, isNone, wipeE, fnW, List.cons.injEq, and_assoc, eq_self, decide_true, decide_false, Bool.not_true, Bool.not_false, Bool.true_and, Bool.false_and, Bool.and_true, Bool.and_false, Bool.or_true, Bool.true_or, Bool.or_false, Bool.false_or, beq_self_eq_true, not_true_eq_false, not_false_eq_true, up_same, up_up, Option.isSome_some, List.length_map] at h ⊢
    refine ⟨by omega, by omega, by omega, by omega, ?_⟩
    have hN : ((bs.length : Int) - 1).toNat = bs.length - 1 := by omega
    rw [hN]
    refine forW_find (S := Option D) (s := d1) (fun s => some (.v (.tuple (bs.map pr))) :: s :: d2) (fun (k : Nat) => D.v (.int (1 + k))) (g2 bs) trivial (fun k hk s K hK hr => ?_) (fun r q => ?_) fun s q => ?_
    · have hk' := List.mem_range.mp hk
      have a1 := enc_atD (xs := bs) (enc := pr) (k := k + 1) (i := 1 + k) (d := (0, 0)) (by omega) (by omega)
      have a2 := enc_atD (xs := bs) (enc := pr) (k := k) (i := 1 + k - 1) (d := (0, 0)) (by omega) (by omega)
      have e : g2 bs k = if (decide ((bs.getD (k + 1) (0, 0)).1 ≤ (bs.getD k (0, 0)).1) || decide ((bs.getD k (0, 0)).2 ≤ (bs.getD (k + 1) (0, 0)).2)) = true then some (.v (.tuple [.str "order", .int (1 + k)])) else none := rfl
      unfold i_bands_error_5
      simp only [evSs, evS, evR, evL, evO, evB, evT, evTs, evSrc, asVal_val, asVal_fl, asVal_flD, asVal_fd0, asNew_fl, List.getElem?_cons_zero, List.getElem?_cons_succ, List.getElem?_nil, Option.some.injEq, D.v.injEq, D.loc.injEq, Ob.lst.injEq, PyData.bool.injEq, PyData.int.injEq, PyData.str.injEq, PyData.tuple.injEq, PyData.list.injEq, exists_eq_left, exists_eq_left', exists_and_left, and_true, true_and, vw_v, dataOf_nil, dataOf_cons, dataOf_map, Option.map_some, if_true, Bool.false_eq_true, if_false, setE, List.set_cons_zero, List.set_cons_succ, exists_eq', exists_eq, isiW, bw_add, bw_sub, bw_mul, bw_fdiv, bw_mod, bw_pow, bw_adds, bw_addt, bw_addl, bw_addn, bw_mull, bw_mult, uw_neg, uw_not, cw_lt, cw_lte, cw_gt, cw_gte, cw_eq, cw_ne, eq_ss, eq_ii, eq_tt, eq_ll, eq_lo, eq_nn, eq_bb, cw_in, cw_nin, bi_len, lw_tup, lw_lst, lw_str, lw_loc, bi_abs, bi_sum, bi_alls, bi_any, bi_int, bi_intb, bi_tup, bi_lst, bi_srt, bi_rpr, bi_max2, bi_min2, bi_max, bi_min, sw_tup, sw_lst, sw_loc, rw_tup, rw_lst, rw_loc, mw_app, mw_pop, mw_ext, iw, stw, seqOf_tup, seqOf_lst, lstOf_lst, intsOf_map, eqv_int, lay_int, List.length_cons, List.length_nil, permute, List.filterMap_cons, List.filterMap_nil, gd_v, Its.ok, List.not_mem_nil, List.map_cons, List.map_nil, List.cons_append, List.nil_append, List.replicate, Nat.reduceAdd, Nat.reduceSub, Nat.zero_add, Nat.reduceLT, Nat.reduceLeDiff, false_implies, implies_true, isNone, wipeE, fnW, List.cons.injEq, and_assoc, eq_self, decide_true, decide_false, Bool.not_true, Bool.not_false, Bool.true_and, Bool.false_and, Bool.and_true, Bool.and_false, Bool.or_true, Bool.true_or, Bool.or_false, Bool.false_or, beq_self_eq_true, not_true_eq_false, not_false_eq_true, up_same, up_up, Option.isSome_some, a1, a2, pr, pair0, pair1]
      by_cases q1 : (bs.getD (k + 1) (0, 0)).1 ≤ (bs.getD k (0, 0)).1
      · simp only [q1, evSs, evS, evR, evL, evO, evB, evT, evTs, evSrc, asVal_val, asVal_fl, asVal_flD, asVal_fd0, asNew_fl, List.getElem?_cons_zero, List.getElem?_cons_succ, List.getElem?_nil, Option.some.injEq, D.v.injEq, D.loc.injEq, Ob.lst.injEq, PyData.bool.injEq, PyData.int.injEq, PyData.str.injEq, PyData.tuple.injEq, PyData.list.injEq, exists_eq_left, exists_eq_left', exists_and_left, and_true, true_and, vw_v, dataOf_nil, dataOf_cons, dataOf_map, Option.map_some, if_true, Bool.false_eq_true, if_false, setE, List.set_cons_zero, List.set_cons_succ, exists_eq', exists_eq, isiW, bw_add, bw_sub, bw_mul, bw_fdiv, bw_mod, bw_pow, bw_adds, bw_addt, bw_addl, bw_addn, bw_mull, bw_mult, uw_neg, uw_not, cw_lt, cw_lte, cw_gt, cw_gte, cw_eq, cw_ne, eq_ss, eq_ii, eq_tt, eq_ll, eq_lo, eq_nn, eq_bb, cw_in, cw_nin, bi_len, lw_tup, lw_lst, lw_str, lw_loc, bi_abs, bi_sum, bi_alls, bi_any, bi_int, bi_intb, bi_tup, bi_lst, bi_srt, bi_rpr, bi_max2, bi_min2, bi_max, bi_min, sw_tup, sw_lst, sw_loc, rw_tup, rw_lst, rw_loc, mw_app, mw_pop, mw_ext, iw, stw, seqOf_tup, seqOf_lst, lstOf_lst, intsOf_map, eqv_int, lay_int, List.length_cons, List.length_nil, permute, List.filterMap_cons, List.filterMap_nil, gd_v, Its.ok, List.not_mem_nil, List.map_cons, List.map_nil, List.cons_append, List.nil_append, List.replicate, Nat.reduceAdd, Nat.reduceSub, Nat.zero_add, Nat.reduceLT, Nat.reduceLeDiff, false_implies, implies_true, isNone, wipeE, fnW, List.cons.injEq, and_assoc, eq_self, decide_true, decide_false, Bool.not_true, Bool.not_false, Bool.true_and, Bool.false_and, Bool.and_true, Bool.and_false, Bool.or_true, Bool.true_or, Bool.or_false, Bool.false_or, beq_self_eq_true, not_true_eq_false, not_false_eq_true, up_same, up_up, Option.isSome_some] at e ⊢
        exact ⟨by omega, by omega, hr _ e⟩
      · by_cases q2 : (bs.getD k (0, 0)).2 ≤ (bs.getD (k + 1) (0, 0)).2
        · simp only [q1, q2, evSs, evS, evR, evL, evO, evB, evT, evTs, evSrc, asVal_val, asVal_fl, asVal_flD, asVal_fd0, asNew_fl, List.getElem?_cons_zero, List.getElem?_cons_succ, List.getElem?_nil, Option.some.injEq, D.v.injEq, D.loc.injEq, Ob.lst.injEq, PyData.bool.injEq, PyData.int.injEq, PyData.str.injEq, PyData.tuple.injEq, PyData.list.injEq, exists_eq_left, exists_eq_left', exists_and_left, and_true, true_and, vw_v, dataOf_nil, dataOf_cons, dataOf_map, Option.map_some, if_true, Bool.false_eq_true, if_false, setE, List.set_cons_zero, List.set_cons_succ, exists_eq', exists_eq, isiW, bw_add, bw_sub, bw_mul, bw_fdiv, bw_mod, bw_pow, bw_adds, bw_addt, bw_addl, bw_addn, bw_mull, bw_mult, uw_neg, uw_not, cw_lt, cw_lte, cw_gt, cw_gte, cw_eq, cw_ne, eq_ss, eq_ii, eq_tt, eq_ll, eq_lo, eq_nn, eq_bb, cw_in, cw_nin, bi_len, lw_tup, lw_lst, lw_str, lw_loc, bi_abs, bi_sum, bi_alls, bi_any, bi_int, bi_intb, bi_tup, bi_lst, bi_srt, bi_rpr, bi_max2, bi_min2, bi_max, bi_min, sw_tup, sw_lst, sw_loc, rw_tup, rw_lst, rw_loc, mw_app, mw_pop, mw_ext, iw, stw, seqOf_tup, seqOf_lst, lstOf_lst, intsOf_map, eqv_int, lay_int, List.length_cons, List.length_nil, permute, List.filterMap_cons, List.filterMap_nil, gd_v, Its.ok, List.not_mem_nil, List.map_cons, List.map_nil, List.cons_append, List.nil_append, List.replicate, Nat.reduceAdd, Nat.reduceSub, Nat.zero_add, Nat.reduceLT, Nat.reduceLeDiff, false_implies, implies_true, isNone, wipeE, fnW, List.cons.injEq, and_assoc, eq_self, decide_true, decide_false, Bool.not_true, Bool.not_false, Bool.true_and, Bool.false_and, Bool.and_true, Bool.and_false, Bool.or_true, Bool.true_or, Bool.or_false, Bool.false_or, beq_self_eq_true, not_true_eq_false, not_false_eq_true, up_same, up_up, Option.isSome_some] at e ⊢
          exact ⟨by omega, by omega, hr _ e⟩
        · simp only [q1, q2, evSs, evS, evR, evL, evO, evB, evT, evTs, evSrc, asVal_val, asVal_fl, asVal_flD, asVal_fd0, asNew_fl, List.getElem?_cons_zero, List.getElem?_cons_succ, List.getElem?_nil, Option.some.injEq, D.v.injEq, D.loc.injEq, Ob.lst.injEq, PyData.bool.injEq, PyData.int.injEq, PyData.str.injEq, PyData.tuple.injEq, PyData.list.injEq, exists_eq_left, exists_eq_left', exists_and_left, and_true, true_and, vw_v, dataOf_nil, dataOf_cons, dataOf_map, Option.map_some, if_true, Bool.false_eq_true, if_false, setE, List.set_cons_zero, List.set_cons_succ, exists_eq', exists_eq, isiW, bw_add, bw_sub, bw_mul, bw_fdiv, bw_mod, bw_pow, bw_adds, bw_addt, bw_addl, bw_addn, bw_mull, bw_mult, uw_neg, uw_not, cw_lt, cw_lte, cw_gt, cw_gte, cw_eq, cw_ne, eq_ss, eq_ii, eq_tt, eq_ll, eq_lo, eq_nn, eq_bb, cw_in, cw_nin, bi_len, lw_tup, lw_lst, lw_str, lw_loc, bi_abs, bi_sum, bi_alls, bi_any, bi_int, bi_intb, bi_tup, bi_lst, bi_srt, bi_rpr, bi_max2, bi_min2, bi_max, bi_min, sw_tup, sw_lst, sw_loc, rw_tup, rw_lst, rw_loc, mw_app, mw_pop, mw_ext, iw, stw, seqOf_tup, seqOf_lst, lstOf_lst, intsOf_map, eqv_int, lay_int, List.length_cons, List.length_nil, permute, List.filterMap_cons, List.filterMap_nil, gd_v, Its.ok, List.not_mem_nil, List.map_cons, List.map_nil, List.cons_append, List.nil_append, List.replicate, Nat.reduceAdd, Nat.reduceSub, Nat.zero_add, Nat.reduceLT, Nat.reduceLeDiff, false_implies, implies_true, isNone, wipeE, fnW, List.cons.injEq, and_assoc, eq_self, decide_true, decide_false, Bool.not_true, Bool.not_false, Bool.true_and, Bool.false_and, Bool.and_true, Bool.and_false, Bool.or_true, Bool.true_or, Bool.or_false, Bool.false_or, beq_self_eq_true, not_true_eq_false, not_false_eq_true, up_same, up_up, Option.isSome_some] at e ⊢
          exact ⟨by omega, hK _ e⟩
    · rw [q] at h; exact h
    · rw [q] at h; unfold i_bands_error_6; simp only [evSs, evS, evR, evL, evO, evB, evT, evTs, evSrc, asVal_val, asVal_fl, asVal_flD, asVal_fd0, asNew_fl, List.getElem?_cons_zero, List.getElem?_cons_succ, List.getElem?_nil, Option.some.injEq, D.v.injEq, D.loc.injEq, Ob.lst.injEq, PyData.bool.injEq, PyData.int.injEq, PyData.str.injEq, PyData.tuple.injEq, PyData.list.injEq, exists_eq_left, exists_eq_left', exists_and_left, and_true, true_and, vw_v, dataOf_nil, dataOf_cons, dataOf_map, Option.map_some, if_true, Bool.false_eq_true, if_false, setE, List.set_cons_zero, List.set_cons_succ, exists_eq', exists_eq, isiW, bw_add, bw_sub, bw_mul, bw_fdiv, bw_mod, bw_pow, bw_adds, bw_addt, bw_addl, bw_addn, bw_mull, bw_mult, uw_neg, uw_not, cw_lt, cw_lte, cw_gt, cw_gte, cw_eq, cw_ne, eq_ss, eq_ii, eq_tt, eq_ll, eq_lo, eq_nn, eq_bb, cw_in, cw_nin, bi_len, lw_tup, lw_lst, lw_str, lw_loc, bi_abs, bi_sum, bi_alls, bi_any, bi_int, bi_intb, bi_tup, bi_lst, bi_srt, bi_rpr, bi_max2, bi_min2, bi_max, bi_min, sw_tup, sw_lst, sw_loc, rw_tup, rw_lst, rw_loc, mw_app, mw_pop, mw_ext, iw, stw, seqOf_tup, seqOf_lst, lstOf_lst, intsOf_map, eqv_int, lay_int, List.length_cons, List.length_nil, permute, List.filterMap_cons, List.filterMap_nil, gd_v, Its.ok, List.not_mem_nil, List.map_cons, List.map_nil, List.cons_append, List.nil_append, List.replicate, Nat.reduceAdd, Nat.reduceSub, Nat.zero_add, Nat.reduceLT, Nat.reduceLeDiff, false_implies, implies_true, isNone, wipeE, fnW, List.cons.injEq, and_assoc, eq_self, decide_true, decide_false, Bool.not_true, Bool.not_false, Bool.true_and, Bool.false_and, Bool.and_true, Bool.and_false, Bool.or_true, Bool.true_or, Bool.or_false, Bool.false_or, beq_self_eq_true, not_true_eq_false, not_false_eq_true, up_same, up_up, Option.isSome_some]; exact h
  · have q : ((bs.getD 0 (0, 0)).1 == 0) = false := beq_eq_false_iff_ne.mpr hb0
    simp only [hb0, q, evSs, evS, evR, evL, evO, evB, evT, evTs, evSrc, asVal_val, asVal_fl, asVal_flD, asVal_fd0, asNew_fl, List.getElem?_cons_zero, List.getElem?_cons_succ, List.getElem?_nil, Option.some.injEq, D.v.injEq, D.loc.injEq, Ob.lst.injEq, PyData.bool.injEq, PyData.int.injEq, PyData.str.injEq, PyData.tuple.injEq, PyData.list.injEq, exists_eq_left, exists_eq_left', exists_and_left, and_true, true_and, vw_v, dataOf_nil, dataOf_cons, dataOf_map, Option.map_some, if_true, Bool.false_eq_true, if_false, setE, List.set_cons_zero, List.set_cons_succ, exists_eq', exists_eq, isiW, bw_add, bw_sub, bw_mul, bw_fdiv, bw_mod, bw_pow, bw_adds, bw_addt, bw_addl, bw_addn, bw_mull, bw_mult, uw_neg, uw_not, cw_lt, cw_lte, cw_gt, cw_gte, cw_eq, cw_ne, eq_ss, eq_ii, eq_tt, eq_ll, eq_lo, eq_nn, eq_bb, cw_in, cw_nin, bi_len, lw_tup, lw_lst, lw_str, lw_loc, bi_abs, bi_sum, bi_alls, bi_any, bi_int, bi_intb, bi_tup, bi_lst, bi_srt, bi_rpr, bi_max2, bi_min2, bi_max, bi_min, sw_tup, sw_lst, sw_loc, rw_tup, rw_lst, rw_loc, mw_app, mw_pop, mw_ext, iw, stw, seqOf_tup, seqOf_lst, lstOf_lst, intsOf_map, eqv_int, lay_int, List.length_cons, List.length_nil, permute, List.filterMap_cons, List.filterMap_nil, gd_v, Its.ok, List.not_mem_nil, List.map_cons, List.map_nil, List.cons_append, List.nil_append, List.replicate, Nat.reduceAdd, Nat.reduceSub, Nat.zero_add, Nat.reduceLT, Nat.reduceLeDiff, false_implies, implies_true, isNone, wipeE, fnW, List.cons.injEq, and_assoc, eq_self, decide_true, decide_false, Bool.not_true, Bool.not_false, Bool.true_and, Bool.false_and, Bool.and_true, Bool.and_false, Bool.or_true, Bool.true_or, Bool.or_false, Bool.false_or, beq_self_eq_true, not_true_eq_false, not_false_eq_true, up_same, up_up, Option.isSome_some] at h ⊢
    exact h
theorem ok_bands_error (T : Tb) (hT : T "is_band" = spIsBand) : ∀ ds M P PX, spBandsErr ds M P PX → fnW true T 3 1 i_bands_error ds M P PX := by
  rintro _ M P PX ⟨p, n, rfl, hp, hn, h⟩
  unfold i_bands_error
  have hz := sizeLine_eq
  cases p
  case tuple ps =>
    obtain ⟨hl, hl2⟩ := hp.tup
    simp only [evSs, evS, evR, evL, evO, evB, evT, evTs, evSrc, asVal_val, asVal_fl, asVal_flD, asVal_fd0, asNew_fl, List.getElem?_cons_zero, List.getElem?_cons_succ, List.getElem?_nil, Option.some.injEq, D.v.injEq, D.loc.injEq, Ob.lst.injEq, PyData.bool.injEq, PyData.int.injEq, PyData.str.injEq, PyData.tuple.injEq, PyData.list.injEq, exists_eq_left, exists_eq_left', exists_and_left, and_true, true_and, vw_v, dataOf_nil, dataOf_cons, dataOf_map, Option.map_some, if_true, Bool.false_eq_true, if_false, setE, List.set_cons_zero, List.set_cons_succ, exists_eq', exists_eq, isiW, bw_add, bw_sub, bw_mul, bw_fdiv, bw_mod, bw_pow, bw_adds, bw_addt, bw_addl, bw_addn, bw_mull, bw_mult, uw_neg, uw_not, cw_lt, cw_lte, cw_gt, cw_gte, cw_eq, cw_ne, eq_ss, eq_ii, eq_tt, eq_ll, eq_lo, eq_nn, eq_bb, cw_in, cw_nin, bi_len, lw_tup, lw_lst, lw_str, lw_loc, bi_abs, bi_sum, bi_alls, bi_any, bi_int, bi_intb, bi_tup, bi_lst, bi_srt, bi_rpr, bi_max2, bi_min2, bi_max, bi_min, sw_tup, sw_lst, sw_loc, rw_tup, rw_lst, rw_loc, mw_app, mw_pop, mw_ext, iw, stw, seqOf_tup, seqOf_lst, lstOf_lst, intsOf_map, eqv_int, lay_int, List.length_cons, List.length_nil, permute, List.filterMap_cons, List.filterMap_nil, gd_v, Its.ok, List.not_mem_nil, List.map_cons, List.map_nil, List.cons_append, List.nil_append, List.replicate, Nat.reduceAdd, Nat.reduceSub, Nat.zero_add, Nat.reduceLT, Nat.reduceLeDiff, false_implies, implies_true, isNone, wipeE, fnW, List.cons.injEq, and_assoc, eq_self, decide_true, decide_false, Bool.not_true, Bool.not_false, Bool.true_and, Bool.false_and, Bool.and_true, Bool.and_false, Bool.or_true, Bool.true_or, Bool.or_false, Bool.false_or, beq_self_eq_true, not_true_eq_false, not_false_eq_true, up_same, up_up, Option.isSome_some, List.length_map]
    unfold bandsErr at h
    dsimp only at h
    by_cases c1 : (1 : Int) ≤ ps.length
    · by_cases c2 : (ps.length : Int) ≤ 8
      · rw [if_pos (by omega)] at h
        unfold i_bands_error_1
        simp only [c1, c2, evSs, evS, evR, evL, evO, evB, evT, evTs, evSrc, asVal_val, asVal_fl, asVal_flD, asVal_fd0, asNew_fl, List.getElem?_cons_zero, List.getElem?_cons_succ, List.getElem?_nil, Option.some.injEq, D.v.injEq, D.loc.injEq, Ob.lst.injEq, PyData.bool.injEq, PyData.int.injEq, PyData.str.injEq, PyData.tuple.injEq, PyData.list.injEq, exists_eq_left, exists_eq_left', exists_and_left, and_true, true_and, vw_v, dataOf_nil, dataOf_cons, dataOf_map, Option.map_some, if_true, Bool.false_eq_true, if_false, setE, List.set_cons_zero, List.set_cons_succ, exists_eq', exists_eq, isiW, bw_add, bw_sub, bw_mul, bw_fdiv, bw_mod, bw_pow, bw_adds, bw_addt, bw_addl, bw_addn, bw_mull, bw_mult, uw_neg, uw_not, cw_lt, cw_lte, cw_gt, cw_gte, cw_eq, cw_ne, eq_ss, eq_ii, eq_tt, eq_ll, eq_lo, eq_nn, eq_bb, cw_in, cw_nin, bi_len, lw_tup, lw_lst, lw_str, lw_loc, bi_abs, bi_sum, bi_alls, bi_any, bi_int, bi_intb, bi_tup, bi_lst, bi_srt, bi_rpr, bi_max2, bi_min2, bi_max, bi_min, sw_tup, sw_lst, sw_loc, rw_tup, rw_lst, rw_loc, mw_app, mw_pop, mw_ext, iw, stw, seqOf_tup, seqOf_lst, lstOf_lst, intsOf_map, eqv_int, lay_int, List.length_cons, List.length_nil, permute, List.filterMap_cons, List.filterMap_nil, gd_v, Its.ok, List.not_mem_nil, List.map_cons, List.map_nil, List.cons_append, List.nil_append, List.replicate, Nat.reduceAdd, Nat.reduceSub, Nat.zero_add, Nat.reduceLT, Nat.reduceLeDiff, false_implies, implies_true, isNone, wipeE, fnW, List.cons.injEq, and_assoc, eq_self, decide_true, decide_false, Bool.not_true, Bool.not_false, Bool.true_and, Bool.false_and, Bool.and_true, Bool.and_false, Bool.or_true, Bool.true_or, Bool.or_false, Bool.false_or, beq_self_eq_true, not_true_eq_false, not_false_eq_true, up_same, up_up, Option.isSome_some, enum_data]
        rw [List.map_map]
        refine forW_find (S := Option D × Option D) (s := (none, none)) (fun s => [some (.v (.tuple ps)), s.1, s.2]) (fun (q : PyData × Nat) => D.v (.tuple [.int q.2, q.1])) g1 trivial (fun q hq s K hK hr => ?_) (fun r q => ?_) fun s q => ?_
        · unfold i_bands_error_2
          simp only [evSs, evS, evR, evL, evO, evB, evT, evTs, evSrc, asVal_val, asVal_fl, asVal_flD, asVal_fd0, asNew_fl, List.getElem?_cons_zero, List.getElem?_cons_succ, List.getElem?_nil, Option.some.injEq, D.v.injEq, D.loc.injEq, Ob.lst.injEq, PyData.bool.injEq, PyData.int.injEq, PyData.str.injEq, PyData.tuple.injEq, PyData.list.injEq, exists_eq_left, exists_eq_left', exists_and_left, and_true, true_and, vw_v, dataOf_nil, dataOf_cons, dataOf_map, Option.map_some, if_true, Bool.false_eq_true, if_false, setE, List.set_cons_zero, List.set_cons_succ, exists_eq', exists_eq, isiW, bw_add, bw_sub, bw_mul, bw_fdiv, bw_mod, bw_pow, bw_adds, bw_addt, bw_addl, bw_addn, bw_mull, bw_mult, uw_neg, uw_not, cw_lt, cw_lte, cw_gt, cw_gte, cw_eq, cw_ne, eq_ss, eq_ii, eq_tt, eq_ll, eq_lo, eq_nn, eq_bb, cw_in, cw_nin, bi_len, lw_tup, lw_lst, lw_str, lw_loc, bi_abs, bi_sum, bi_alls, bi_any, bi_int, bi_intb, bi_tup, bi_lst, bi_srt, bi_rpr, bi_max2, bi_min2, bi_max, bi_min, sw_tup, sw_lst, sw_loc, rw_tup, rw_lst, rw_loc, mw_app, mw_pop, mw_ext, iw, stw, seqOf_tup, seqOf_lst, lstOf_lst, intsOf_map, eqv_int, lay_int, List.length_cons, List.length_nil, permute, List.filterMap_cons, List.filterMap_nil, gd_v, Its.ok, List.not_mem_nil, List.map_cons, List.map_nil, List.cons_append, List.nil_append, List.replicate, Nat.reduceAdd, Nat.reduceSub, Nat.zero_add, Nat.reduceLT, Nat.reduceLeDiff, false_implies, implies_true, isNone, wipeE, fnW, List.cons.injEq, and_assoc, eq_self, decide_true, decide_false, Bool.not_true, Bool.not_false, Bool.true_and, Bool.false_and, Bool.and_true, Bool.and_false, Bool.or_true, Bool.true_or, Bool.or_false, Bool.false_or, beq_self_eq_true, not_true_eq_false, not_false_eq_true, up_same, up_up, Option.isSome_some, hT]
          have hm := List.fst_mem_of_mem_zipIdx hq
          refine ⟨q.1, n, rfl, hl2 _ hm, hn, ?_⟩
          simp only [evSs, evS, evR, evL, evO, evB, evT, evTs, evSrc, asVal_val, asVal_fl, asVal_flD, asVal_fd0, asNew_fl, List.getElem?_cons_zero, List.getElem?_cons_succ, List.getElem?_nil, Option.some.injEq, D.v.injEq, D.loc.injEq, Ob.lst.injEq, PyData.bool.injEq, PyData.int.injEq, PyData.str.injEq, PyData.tuple.injEq, PyData.list.injEq, exists_eq_left, exists_eq_left', exists_and_left, and_true, true_and, vw_v, dataOf_nil, dataOf_cons, dataOf_map, Option.map_some, if_true, Bool.false_eq_true, if_false, setE, List.set_cons_zero, List.set_cons_succ, exists_eq', exists_eq, isiW, bw_add, bw_sub, bw_mul, bw_fdiv, bw_mod, bw_pow, bw_adds, bw_addt, bw_addl, bw_addn, bw_mull, bw_mult, uw_neg, uw_not, cw_lt, cw_lte, cw_gt, cw_gte, cw_eq, cw_ne, eq_ss, eq_ii, eq_tt, eq_ll, eq_lo, eq_nn, eq_bb, cw_in, cw_nin, bi_len, lw_tup, lw_lst, lw_str, lw_loc, bi_abs, bi_sum, bi_alls, bi_any, bi_int, bi_intb, bi_tup, bi_lst, bi_srt, bi_rpr, bi_max2, bi_min2, bi_max, bi_min, sw_tup, sw_lst, sw_loc, rw_tup, rw_lst, rw_loc, mw_app, mw_pop, mw_ext, iw, stw, seqOf_tup, seqOf_lst, lstOf_lst, intsOf_map, eqv_int, lay_int, List.length_cons, List.length_nil, permute, List.filterMap_cons, List.filterMap_nil, gd_v, Its.ok, List.not_mem_nil, List.map_cons, List.map_nil, List.cons_append, List.nil_append, List.replicate, Nat.reduceAdd, Nat.reduceSub, Nat.zero_add, Nat.reduceLT, Nat.reduceLeDiff, false_implies, implies_true, isNone, wipeE, fnW, List.cons.injEq, and_assoc, eq_self, decide_true, decide_false, Bool.not_true, Bool.not_false, Bool.true_and, Bool.false_and, Bool.and_true, Bool.and_false, Bool.or_true, Bool.true_or, Bool.or_false, Bool.false_or, beq_self_eq_true, not_true_eq_false, not_false_eq_true, up_same, up_up, Option.isSome_some]
          have e : g1 q = if isBand q.1 = true then none else some (.v (.tuple [.str "band", .int q.2])) := rfl
          cases hB : isBand q.1 with
          | true =>
            simp only [hB, evSs, evS, evR, evL, evO, evB, evT, evTs, evSrc, asVal_val, asVal_fl, asVal_flD, asVal_fd0, asNew_fl, List.getElem?_cons_zero, List.getElem?_cons_succ, List.getElem?_nil, Option.some.injEq, D.v.injEq, D.loc.injEq, Ob.lst.injEq, PyData.bool.injEq, PyData.int.injEq, PyData.str.injEq, PyData.tuple.injEq, PyData.list.injEq, exists_eq_left, exists_eq_left', exists_and_left, and_true, true_and, vw_v, dataOf_nil, dataOf_cons, dataOf_map, Option.map_some, if_true, Bool.false_eq_true, if_false, setE, List.set_cons_zero, List.set_cons_succ, exists_eq', exists_eq, isiW, bw_add, bw_sub, bw_mul, bw_fdiv, bw_mod, bw_pow, bw_adds, bw_addt, bw_addl, bw_addn, bw_mull, bw_mult, uw_neg, uw_not, cw_lt, cw_lte, cw_gt, cw_gte, cw_eq, cw_ne, eq_ss, eq_ii, eq_tt, eq_ll, eq_lo, eq_nn, eq_bb, cw_in, cw_nin, bi_len, lw_tup, lw_lst, lw_str, lw_loc, bi_abs, bi_sum, bi_alls, bi_any, bi_int, bi_intb, bi_tup, bi_lst, bi_srt, bi_rpr, bi_max2, bi_min2, bi_max, bi_min, sw_tup, sw_lst, sw_loc, rw_tup, rw_lst, rw_loc, mw_app, mw_pop, mw_ext, iw, stw, seqOf_tup, seqOf_lst, lstOf_lst, intsOf_map, eqv_int, lay_int, List.length_cons, List.length_nil, permute, List.filterMap_cons, List.filterMap_nil, gd_v, Its.ok, List.not_mem_nil, List.map_cons, List.map_nil, List.cons_append, List.nil_append, List.replicate, Nat.reduceAdd, Nat.reduceSub, Nat.zero_add, Nat.reduceLT, Nat.reduceLeDiff, false_implies, implies_true, isNone, wipeE, fnW, List.cons.injEq, and_assoc, eq_self, decide_true, decide_false, Bool.not_true, Bool.not_false, Bool.true_and, Bool.false_and, Bool.and_true, Bool.and_false, Bool.or_true, Bool.true_or, Bool.or_false, Bool.false_or, beq_self_eq_true, not_true_eq_false, not_false_eq_true, up_same, up_up, Option.isSome_some] at e ⊢
            exact hK (_, _) e
          | false =>
            simp only [hB, evSs, evS, evR, evL, evO, evB, evT, evTs, evSrc, asVal_val, asVal_fl, asVal_flD, asVal_fd0, asNew_fl, List.getElem?_cons_zero, List.getElem?_cons_succ, List.getElem?_nil, Option.some.injEq, D.v.injEq, D.loc.injEq, Ob.lst.injEq, PyData.bool.injEq, PyData.int.injEq, PyData.str.injEq, PyData.tuple.injEq, PyData.list.injEq, exists_eq_left, exists_eq_left', exists_and_left, and_true, true_and, vw_v, dataOf_nil, dataOf_cons, dataOf_map, Option.map_some, if_true, Bool.false_eq_true, if_false, setE, List.set_cons_zero, List.set_cons_succ, exists_eq', exists_eq, isiW, bw_add, bw_sub, bw_mul, bw_fdiv, bw_mod, bw_pow, bw_adds, bw_addt, bw_addl, bw_addn, bw_mull, bw_mult, uw_neg, uw_not, cw_lt, cw_lte, cw_gt, cw_gte, cw_eq, cw_ne, eq_ss, eq_ii, eq_tt, eq_ll, eq_lo, eq_nn, eq_bb, cw_in, cw_nin, bi_len, lw_tup, lw_lst, lw_str, lw_loc, bi_abs, bi_sum, bi_alls, bi_any, bi_int, bi_intb, bi_tup, bi_lst, bi_srt, bi_rpr, bi_max2, bi_min2, bi_max, bi_min, sw_tup, sw_lst, sw_loc, rw_tup, rw_lst, rw_loc, mw_app, mw_pop, mw_ext, iw, stw, seqOf_tup, seqOf_lst, lstOf_lst, intsOf_map, eqv_int, lay_int, List.length_cons, List.length_nil, permute, List.filterMap_cons, List.filterMap_nil, gd_v, Its.ok, List.not_mem_nil, List.map_cons, List.map_nil, List.cons_append, List.nil_append, List.replicate, Nat.reduceAdd, Nat.reduceSub, Nat.zero_add, Nat.reduceLT, Nat.reduceLeDiff, false_implies, implies_true, isNone, wipeE, fnW, List.cons.injEq, and_assoc, eq_self, decide_true, decide_false, Bool.not_true, Bool.not_false, Bool.true_and, Bool.false_and, Bool.and_true, Bool.and_false, Bool.or_true, Bool.true_or, Bool.or_false, Bool.false_or, beq_self_eq_true, not_true_eq_false, not_false_eq_true, up_same, up_up, Option.isSome_some] at e ⊢
            exact ⟨by omega, hr _ e⟩
        · rw [q] at h; exact h
        · rw [q] at h
          obtain ⟨bs, rfl, e2⟩ := found_none q
          rw [e2, List.length_map] at h
          rw [List.length_map] at c1 c2
          refine tail_err (bs := bs) ?_ (by omega) (by omega)
          exact h
      · rw [if_neg (by omega)] at h
        simp only [c1, c2, evSs, evS, evR, evL, evO, evB, evT, evTs, evSrc, asVal_val, asVal_fl, asVal_flD, asVal_fd0, asNew_fl, List.getElem?_cons_zero, List.getElem?_cons_succ, List.getElem?_nil, Option.some.injEq, D.v.injEq, D.loc.injEq, Ob.lst.injEq, PyData.bool.injEq, PyData.int.injEq, PyData.str.injEq, PyData.tuple.injEq, PyData.list.injEq, exists_eq_left, exists_eq_left', exists_and_left, and_true, true_and, vw_v, dataOf_nil, dataOf_cons, dataOf_map, Option.map_some, if_true, Bool.false_eq_true, if_false, setE, List.set_cons_zero, List.set_cons_succ, exists_eq', exists_eq, isiW, bw_add, bw_sub, bw_mul, bw_fdiv, bw_mod, bw_pow, bw_adds, bw_addt, bw_addl, bw_addn, bw_mull, bw_mult, uw_neg, uw_not, cw_lt, cw_lte, cw_gt, cw_gte, cw_eq, cw_ne, eq_ss, eq_ii, eq_tt, eq_ll, eq_lo, eq_nn, eq_bb, cw_in, cw_nin, bi_len, lw_tup, lw_lst, lw_str, lw_loc, bi_abs, bi_sum, bi_alls, bi_any, bi_int, bi_intb, bi_tup, bi_lst, bi_srt, bi_rpr, bi_max2, bi_min2, bi_max, bi_min, sw_tup, sw_lst, sw_loc, rw_tup, rw_lst, rw_loc, mw_app, mw_pop, mw_ext, iw, stw, seqOf_tup, seqOf_lst, lstOf_lst, intsOf_map, eqv_int, lay_int, List.length_cons, List.length_nil, permute, List.filterMap_cons, List.filterMap_nil, gd_v, Its.ok, List.not_mem_nil, List.map_cons, List.map_nil, List.cons_append, List.nil_append, List.replicate, Nat.reduceAdd, Nat.reduceSub, Nat.zero_add, Nat.reduceLT, Nat.reduceLeDiff, false_implies, implies_true, isNone, wipeE, fnW, List.cons.injEq, and_assoc, eq_self, decide_true, decide_false, Bool.not_true, Bool.not_false, Bool.true_and, Bool.false_and, Bool.and_true, Bool.and_false, Bool.or_true, Bool.true_or, Bool.or_false, Bool.false_or, beq_self_eq_true, not_true_eq_false, not_false_eq_true, up_same, up_up, Option.isSome_some]
        exact h
    · rw [if_neg (by omega)] at h
      simp only [c1, evSs, evS, evR, evL, evO, evB, evT, evTs, evSrc, asVal_val, asVal_fl, asVal_flD, asVal_fd0, asNew_fl, List.getElem?_cons_zero, List.getElem?_cons_succ, List.getElem?_nil, Option.some.injEq, D.v.injEq, D.loc.injEq, Ob.lst.injEq, PyData.bool.injEq, PyData.int.injEq, PyData.str.injEq, PyData.tuple.injEq, PyData.list.injEq, exists_eq_left, exists_eq_left', exists_and_left, and_true, true_and, vw_v, dataOf_nil, dataOf_cons, dataOf_map, Option.map_some, if_true, Bool.false_eq_true, if_false, setE, List.set_cons_zero, List.set_cons_succ, exists_eq', exists_eq, isiW, bw_add, bw_sub, bw_mul, bw_fdiv, bw_mod, bw_pow, bw_adds, bw_addt, bw_addl, bw_addn, bw_mull, bw_mult, uw_neg, uw_not, cw_lt, cw_lte, cw_gt, cw_gte, cw_eq, cw_ne, eq_ss, eq_ii, eq_tt, eq_ll, eq_lo, eq_nn, eq_bb, cw_in, cw_nin, bi_len, lw_tup, lw_lst, lw_str, lw_loc, bi_abs, bi_sum, bi_alls, bi_any, bi_int, bi_intb, bi_tup, bi_lst, bi_srt, bi_rpr, bi_max2, bi_min2, bi_max, bi_min, sw_tup, sw_lst, sw_loc, rw_tup, rw_lst, rw_loc, mw_app, mw_pop, mw_ext, iw, stw, seqOf_tup, seqOf_lst, lstOf_lst, intsOf_map, eqv_int, lay_int, List.length_cons, List.length_nil, permute, List.filterMap_cons, List.filterMap_nil, gd_v, Its.ok, List.not_mem_nil, List.map_cons, List.map_nil, List.cons_append, List.nil_append, List.replicate, Nat.reduceAdd, Nat.reduceSub, Nat.zero_add, Nat.reduceLT, Nat.reduceLeDiff, false_implies, implies_true, isNone, wipeE, fnW, List.cons.injEq, and_assoc, eq_self, decide_true, decide_false, Bool.not_true, Bool.not_false, Bool.true_and, Bool.false_and, Bool.and_true, Bool.and_false, Bool.or_true, Bool.true_or, Bool.or_false, Bool.false_or, beq_self_eq_true, not_true_eq_false, not_false_eq_true, up_same, up_up, Option.isSome_some]
      exact h
  all_goals (simp only [evSs, evS, evR, evL, evO, evB, evT, evTs, evSrc, asVal_val, asVal_fl, asVal_flD, asVal_fd0, asNew_fl, List.getElem?_cons_zero, List.getElem?_cons_succ, List.getElem?_nil, Option.some.injEq, D.v.injEq, D.loc.injEq, Ob.lst.injEq, PyData.bool.injEq, PyData.int.injEq, PyData.str.injEq, PyData.tuple.injEq, PyData.list.injEq, exists_eq_left, exists_eq_left', exists_and_left, and_true, true_and, vw_v, dataOf_nil, dataOf_cons, dataOf_map, Option.map_some, if_true, Bool.false_eq_true, if_false, setE, List.set_cons_zero, List.set_cons_succ, exists_eq', exists_eq, isiW, bw_add, bw_sub, bw_mul, bw_fdiv, bw_mod, bw_pow, bw_adds, bw_addt, bw_addl, bw_addn, bw_mull, bw_mult, uw_neg, uw_not, cw_lt, cw_lte, cw_gt, cw_gte, cw_eq, cw_ne, eq_ss, eq_ii, eq_tt, eq_ll, eq_lo, eq_nn, eq_bb, cw_in, cw_nin, bi_len, lw_tup, lw_lst, lw_str, lw_loc, bi_abs, bi_sum, bi_alls, bi_any, bi_int, bi_intb, bi_tup, bi_lst, bi_srt, bi_rpr, bi_max2, bi_min2, bi_max, bi_min, sw_tup, sw_lst, sw_loc, rw_tup, rw_lst, rw_loc, mw_app, mw_pop, mw_ext, iw, stw, seqOf_tup, seqOf_lst, lstOf_lst, intsOf_map, eqv_int, lay_int, List.length_cons, List.length_nil, permute, List.filterMap_cons, List.filterMap_nil, gd_v, Its.ok, List.not_mem_nil, List.map_cons, List.map_nil, List.cons_append, List.nil_append, List.replicate, Nat.reduceAdd, Nat.reduceSub, Nat.zero_add, Nat.reduceLT, Nat.reduceLeDiff, false_implies, implies_true, isNone, wipeE, fnW, List.cons.injEq, and_assoc, eq_self, decide_true, decide_false, Bool.not_true, Bool.not_false, Bool.true_and, Bool.false_and, Bool.and_true, Bool.and_false, Bool.or_true, Bool.true_or, Bool.or_false, Bool.false_or, beq_self_eq_true, not_true_eq_false, not_false_eq_true, up_same, up_up, Option.isSome_some]; exact h)
def isW : PyData → Bool
  | .int _ => true
  | _ => false
def spIsW : FS := fun ds M P _ => ∃ p, ds = [.v p] ∧ P (.v (.bool (isW p))) M
theorem ok_law_is_whole (T : Tb) : ∀ ds M P PX, spIsW ds M P PX → fnW true T 1 1 i_law_is_whole ds M P PX := by
  rintro _ M P PX ⟨p, rfl, h⟩
  unfold i_law_is_whole
  cases p <;> (simp only [evSs, evS, evR, evL, evO, evB, evT, evTs, evSrc, asVal_val, asVal_fl, asVal_flD, asVal_fd0, asNew_fl, List.getElem?_cons_zero, List.getElem?_cons_succ, List.getElem?_nil, Option.some.injEq, D.v.injEq, D.loc.injEq, Ob.lst.injEq, PyData.bool.injEq, PyData.int.injEq, PyData.str.injEq, PyData.tuple.injEq, PyData.list.injEq, exists_eq_left, exists_eq_left', exists_and_left, and_true, true_and, vw_v, dataOf_nil, dataOf_cons, dataOf_map, Option.map_some, if_true, Bool.false_eq_true, if_false, setE, List.set_cons_zero, List.set_cons_succ, exists_eq', exists_eq, isiW, bw_add, bw_sub, bw_mul, bw_fdiv, bw_mod, bw_pow, bw_adds, bw_addt, bw_addl, bw_addn, bw_mull, bw_mult, uw_neg, uw_not, cw_lt, cw_lte, cw_gt, cw_gte, cw_eq, cw_ne, eq_ss, eq_ii, eq_tt, eq_ll, eq_lo, eq_nn, eq_bb, cw_in, cw_nin, bi_len, lw_tup, lw_lst, lw_str, lw_loc, bi_abs, bi_sum, bi_alls, bi_any, bi_int, bi_intb, bi_tup, bi_lst, bi_srt, bi_rpr, bi_max2, bi_min2, bi_max, bi_min, sw_tup, sw_lst, sw_loc, rw_tup, rw_lst, rw_loc, mw_app, mw_pop, mw_ext, iw, stw, seqOf_tup, seqOf_lst, lstOf_lst, intsOf_map, eqv_int, lay_int, List.length_cons, List.length_nil, permute, List.filterMap_cons, List.filterMap_nil, gd_v, Its.ok, List.not_mem_nil, List.map_cons, List.map_nil, List.cons_append, List.nil_append, List.replicate, Nat.reduceAdd, Nat.reduceSub, Nat.zero_add, Nat.reduceLT, Nat.reduceLeDiff, false_implies, implies_true, isNone, wipeE, fnW, List.cons.injEq, and_assoc, eq_self, decide_true, decide_false, Bool.not_true, Bool.not_false, Bool.true_and, Bool.false_and, Bool.and_true, Bool.and_false, Bool.or_true, Bool.true_or, Bool.or_false, Bool.false_or, beq_self_eq_true, not_true_eq_false, not_false_eq_true, up_same, up_up, Option.isSome_some]; exact h)
theorem ok_law_due (T : Tb) (hT : T "_law_is_whole" = spIsW) : ∀ ds M P PX, spBandsErr ds M P PX → fnW true T 4 1 i_law_due ds M P PX := by
  rintro _ M P PX ⟨p, n, rfl, hp, hn, h⟩
  unfold i_law_due
  have hz := sizeLine_eq
  cases p
  case tuple ps =>
    obtain ⟨hl, hl2⟩ := hp.tup
    simp only [evSs, evS, evR, evL, evO, evB, evT, evTs, evSrc, asVal_val, asVal_fl, asVal_flD, asVal_fd0, asNew_fl, List.getElem?_cons_zero, List.getElem?_cons_succ, List.getElem?_nil, Option.some.injEq, D.v.injEq, D.loc.injEq, Ob.lst.injEq, PyData.bool.injEq, PyData.int.injEq, PyData.str.injEq, PyData.tuple.injEq, PyData.list.injEq, exists_eq_left, exists_eq_left', exists_and_left, and_true, true_and, vw_v, dataOf_nil, dataOf_cons, dataOf_map, Option.map_some, if_true, Bool.false_eq_true, if_false, setE, List.set_cons_zero, List.set_cons_succ, exists_eq', exists_eq, isiW, bw_add, bw_sub, bw_mul, bw_fdiv, bw_mod, bw_pow, bw_adds, bw_addt, bw_addl, bw_addn, bw_mull, bw_mult, uw_neg, uw_not, cw_lt, cw_lte, cw_gt, cw_gte, cw_eq, cw_ne, eq_ss, eq_ii, eq_tt, eq_ll, eq_lo, eq_nn, eq_bb, cw_in, cw_nin, bi_len, lw_tup, lw_lst, lw_str, lw_loc, bi_abs, bi_sum, bi_alls, bi_any, bi_int, bi_intb, bi_tup, bi_lst, bi_srt, bi_rpr, bi_max2, bi_min2, bi_max, bi_min, sw_tup, sw_lst, sw_loc, rw_tup, rw_lst, rw_loc, mw_app, mw_pop, mw_ext, iw, stw, seqOf_tup, seqOf_lst, lstOf_lst, intsOf_map, eqv_int, lay_int, List.length_cons, List.length_nil, permute, List.filterMap_cons, List.filterMap_nil, gd_v, Its.ok, List.not_mem_nil, List.map_cons, List.map_nil, List.cons_append, List.nil_append, List.replicate, Nat.reduceAdd, Nat.reduceSub, Nat.zero_add, Nat.reduceLT, Nat.reduceLeDiff, false_implies, implies_true, isNone, wipeE, fnW, List.cons.injEq, and_assoc, eq_self, decide_true, decide_false, Bool.not_true, Bool.not_false, Bool.true_and, Bool.false_and, Bool.and_true, Bool.and_false, Bool.or_true, Bool.true_or, Bool.or_false, Bool.false_or, beq_self_eq_true, not_true_eq_false, not_false_eq_true, up_same, up_up, Option.isSome_some, List.length_map]
    unfold bandsErr at h
    dsimp only at h
    by_cases c1 : (1 : Int) ≤ ps.length
    · by_cases c2 : (ps.length : Int) ≤ 8
      · rw [if_pos (by omega)] at h
        unfold i_law_due_1
        simp only [c1, c2, evSs, evS, evR, evL, evO, evB, evT, evTs, evSrc, asVal_val, asVal_fl, asVal_flD, asVal_fd0, asNew_fl, List.getElem?_cons_zero, List.getElem?_cons_succ, List.getElem?_nil, Option.some.injEq, D.v.injEq, D.loc.injEq, Ob.lst.injEq, PyData.bool.injEq, PyData.int.injEq, PyData.str.injEq, PyData.tuple.injEq, PyData.list.injEq, exists_eq_left, exists_eq_left', exists_and_left, and_true, true_and, vw_v, dataOf_nil, dataOf_cons, dataOf_map, Option.map_some, if_true, Bool.false_eq_true, if_false, setE, List.set_cons_zero, List.set_cons_succ, exists_eq', exists_eq, isiW, bw_add, bw_sub, bw_mul, bw_fdiv, bw_mod, bw_pow, bw_adds, bw_addt, bw_addl, bw_addn, bw_mull, bw_mult, uw_neg, uw_not, cw_lt, cw_lte, cw_gt, cw_gte, cw_eq, cw_ne, eq_ss, eq_ii, eq_tt, eq_ll, eq_lo, eq_nn, eq_bb, cw_in, cw_nin, bi_len, lw_tup, lw_lst, lw_str, lw_loc, bi_abs, bi_sum, bi_alls, bi_any, bi_int, bi_intb, bi_tup, bi_lst, bi_srt, bi_rpr, bi_max2, bi_min2, bi_max, bi_min, sw_tup, sw_lst, sw_loc, rw_tup, rw_lst, rw_loc, mw_app, mw_pop, mw_ext, iw, stw, seqOf_tup, seqOf_lst, lstOf_lst, intsOf_map, eqv_int, lay_int, List.length_cons, List.length_nil, permute, List.filterMap_cons, List.filterMap_nil, gd_v, Its.ok, List.not_mem_nil, List.map_cons, List.map_nil, List.cons_append, List.nil_append, List.replicate, Nat.reduceAdd, Nat.reduceSub, Nat.zero_add, Nat.reduceLT, Nat.reduceLeDiff, false_implies, implies_true, isNone, wipeE, fnW, List.cons.injEq, and_assoc, eq_self, decide_true, decide_false, Bool.not_true, Bool.not_false, Bool.true_and, Bool.false_and, Bool.and_true, Bool.and_false, Bool.or_true, Bool.true_or, Bool.or_false, Bool.false_or, beq_self_eq_true, not_true_eq_false, not_false_eq_true, up_same, up_up, Option.isSome_some, enum_data]
        rw [List.map_map]
        refine forW_find (S := Option D × Option D) (s := (none, none)) (fun s => [some (.v (.tuple ps)), s.1, s.2, none]) (fun (q : PyData × Nat) => D.v (.tuple [.int q.2, q.1])) g1 trivial (fun q hmem s K hK hr => ?_) (fun r q => ?_) fun s q => ?_
        · obtain ⟨q, j⟩ := q
          have hm : q ∈ ps := List.fst_mem_of_mem_zipIdx hmem
          clear hmem
          have hq := hl2 _ hm
          dsimp only at hK hr ⊢
          unfold i_law_due_2
          cases q
          case tuple qs =>
            have hql := hq.tup.1
            simp only [evSs, evS, evR, evL, evO, evB, evT, evTs, evSrc, asVal_val, asVal_fl, asVal_flD, asVal_fd0, asNew_fl, List.getElem?_cons_zero, List.getElem?_cons_succ, List.getElem?_nil, Option.some.injEq, D.v.injEq, D.loc.injEq, Ob.lst.injEq, PyData.bool.injEq, PyData.int.injEq, PyData.str.injEq, PyData.tuple.injEq, PyData.list.injEq, exists_eq_left, exists_eq_left', exists_and_left, and_true, true_and, vw_v, dataOf_nil, dataOf_cons, dataOf_map, Option.map_some, if_true, Bool.false_eq_true, if_false, setE, List.set_cons_zero, List.set_cons_succ, exists_eq', exists_eq, isiW, bw_add, bw_sub, bw_mul, bw_fdiv, bw_mod, bw_pow, bw_adds, bw_addt, bw_addl, bw_addn, bw_mull, bw_mult, uw_neg, uw_not, cw_lt, cw_lte, cw_gt, cw_gte, cw_eq, cw_ne, eq_ss, eq_ii, eq_tt, eq_ll, eq_lo, eq_nn, eq_bb, cw_in, cw_nin, bi_len, lw_tup, lw_lst, lw_str, lw_loc, bi_abs, bi_sum, bi_alls, bi_any, bi_int, bi_intb, bi_tup, bi_lst, bi_srt, bi_rpr, bi_max2, bi_min2, bi_max, bi_min, sw_tup, sw_lst, sw_loc, rw_tup, rw_lst, rw_loc, mw_app, mw_pop, mw_ext, iw, stw, seqOf_tup, seqOf_lst, lstOf_lst, intsOf_map, eqv_int, lay_int, List.length_cons, List.length_nil, permute, List.filterMap_cons, List.filterMap_nil, gd_v, Its.ok, List.not_mem_nil, List.map_cons, List.map_nil, List.cons_append, List.nil_append, List.replicate, Nat.reduceAdd, Nat.reduceSub, Nat.zero_add, Nat.reduceLT, Nat.reduceLeDiff, false_implies, implies_true, isNone, wipeE, fnW, List.cons.injEq, and_assoc, eq_self, decide_true, decide_false, Bool.not_true, Bool.not_false, Bool.true_and, Bool.false_and, Bool.and_true, Bool.and_false, Bool.or_true, Bool.true_or, Bool.or_false, Bool.false_or, beq_self_eq_true, not_true_eq_false, not_false_eq_true, up_same, up_up, Option.isSome_some, List.length_map]
            have e : g1 (.tuple qs, j) = if (decide (qs.length = 2) && qs.all (num 0 10000)) = true then none else some (.v (.tuple [.str "band", .int j])) := rfl
            by_cases c3 : qs.length = 2
            · have c3' : (((qs.length : Nat) : Int) == 2) = true := by rw [c3]; rfl
              simp only [c3', evSs, evS, evR, evL, evO, evB, evT, evTs, evSrc, asVal_val, asVal_fl, asVal_flD, asVal_fd0, asNew_fl, List.getElem?_cons_zero, List.getElem?_cons_succ, List.getElem?_nil, Option.some.injEq, D.v.injEq, D.loc.injEq, Ob.lst.injEq, PyData.bool.injEq, PyData.int.injEq, PyData.str.injEq, PyData.tuple.injEq, PyData.list.injEq, exists_eq_left, exists_eq_left', exists_and_left, and_true, true_and, vw_v, dataOf_nil, dataOf_cons, dataOf_map, Option.map_some, if_true, Bool.false_eq_true, if_false, setE, List.set_cons_zero, List.set_cons_succ, exists_eq', exists_eq, isiW, bw_add, bw_sub, bw_mul, bw_fdiv, bw_mod, bw_pow, bw_adds, bw_addt, bw_addl, bw_addn, bw_mull, bw_mult, uw_neg, uw_not, cw_lt, cw_lte, cw_gt, cw_gte, cw_eq, cw_ne, eq_ss, eq_ii, eq_tt, eq_ll, eq_lo, eq_nn, eq_bb, cw_in, cw_nin, bi_len, lw_tup, lw_lst, lw_str, lw_loc, bi_abs, bi_sum, bi_alls, bi_any, bi_int, bi_intb, bi_tup, bi_lst, bi_srt, bi_rpr, bi_max2, bi_min2, bi_max, bi_min, sw_tup, sw_lst, sw_loc, rw_tup, rw_lst, rw_loc, mw_app, mw_pop, mw_ext, iw, stw, seqOf_tup, seqOf_lst, lstOf_lst, intsOf_map, eqv_int, lay_int, List.length_cons, List.length_nil, permute, List.filterMap_cons, List.filterMap_nil, gd_v, Its.ok, List.not_mem_nil, List.map_cons, List.map_nil, List.cons_append, List.nil_append, List.replicate, Nat.reduceAdd, Nat.reduceSub, Nat.zero_add, Nat.reduceLT, Nat.reduceLeDiff, false_implies, implies_true, isNone, wipeE, fnW, List.cons.injEq, and_assoc, eq_self, decide_true, decide_false, Bool.not_true, Bool.not_false, Bool.true_and, Bool.false_and, Bool.and_true, Bool.and_false, Bool.or_true, Bool.true_or, Bool.or_false, Bool.false_or, beq_self_eq_true, not_true_eq_false, not_false_eq_true, up_same, up_up, Option.isSome_some]
              refine compW_to D.v (fun p => .v (.bool (num 0 10000 p))) trivial (by omega) (fun x hx k k0 hk => ?_) ?_
              · simp only [evSs, evS, evR, evL, evO, evB, evT, evTs, evSrc, asVal_val, asVal_fl, asVal_flD, asVal_fd0, asNew_fl, List.getElem?_cons_zero, List.getElem?_cons_succ, List.getElem?_nil, Option.some.injEq, D.v.injEq, D.loc.injEq, Ob.lst.injEq, PyData.bool.injEq, PyData.int.injEq, PyData.str.injEq, PyData.tuple.injEq, PyData.list.injEq, exists_eq_left, exists_eq_left', exists_and_left, and_true, true_and, vw_v, dataOf_nil, dataOf_cons, dataOf_map, Option.map_some, if_true, Bool.false_eq_true, if_false, setE, List.set_cons_zero, List.set_cons_succ, exists_eq', exists_eq, isiW, bw_add, bw_sub, bw_mul, bw_fdiv, bw_mod, bw_pow, bw_adds, bw_addt, bw_addl, bw_addn, bw_mull, bw_mult, uw_neg, uw_not, cw_lt, cw_lte, cw_gt, cw_gte, cw_eq, cw_ne, eq_ss, eq_ii, eq_tt, eq_ll, eq_lo, eq_nn, eq_bb, cw_in, cw_nin, bi_len, lw_tup, lw_lst, lw_str, lw_loc, bi_abs, bi_sum, bi_alls, bi_any, bi_int, bi_intb, bi_tup, bi_lst, bi_srt, bi_rpr, bi_max2, bi_min2, bi_max, bi_min, sw_tup, sw_lst, sw_loc, rw_tup, rw_lst, rw_loc, mw_app, mw_pop, mw_ext, iw, stw, seqOf_tup, seqOf_lst, lstOf_lst, intsOf_map, eqv_int, lay_int, List.length_cons, List.length_nil, permute, List.filterMap_cons, List.filterMap_nil, gd_v, Its.ok, List.not_mem_nil, List.map_cons, List.map_nil, List.cons_append, List.nil_append, List.replicate, Nat.reduceAdd, Nat.reduceSub, Nat.zero_add, Nat.reduceLT, Nat.reduceLeDiff, false_implies, implies_true, isNone, wipeE, fnW, List.cons.injEq, and_assoc, eq_self, decide_true, decide_false, Bool.not_true, Bool.not_false, Bool.true_and, Bool.false_and, Bool.and_true, Bool.and_false, Bool.or_true, Bool.true_or, Bool.or_false, Bool.false_or, beq_self_eq_true, not_true_eq_false, not_false_eq_true, up_same, up_up, Option.isSome_some, hT]
                refine ⟨x, rfl, ?_⟩
                cases x
                case int i =>
                  have e : num 0 10000 (.int i) = (decide (0 ≤ i) && decide (i ≤ 10000)) := rfl
                  simp only [evSs, evS, evR, evL, evO, evB, evT, evTs, evSrc, asVal_val, asVal_fl, asVal_flD, asVal_fd0, asNew_fl, List.getElem?_cons_zero, List.getElem?_cons_succ, List.getElem?_nil, Option.some.injEq, D.v.injEq, D.loc.injEq, Ob.lst.injEq, PyData.bool.injEq, PyData.int.injEq, PyData.str.injEq, PyData.tuple.injEq, PyData.list.injEq, exists_eq_left, exists_eq_left', exists_and_left, and_true, true_and, vw_v, dataOf_nil, dataOf_cons, dataOf_map, Option.map_some, if_true, Bool.false_eq_true, if_false, setE, List.set_cons_zero, List.set_cons_succ, exists_eq', exists_eq, isiW, bw_add, bw_sub, bw_mul, bw_fdiv, bw_mod, bw_pow, bw_adds, bw_addt, bw_addl, bw_addn, bw_mull, bw_mult, uw_neg, uw_not, cw_lt, cw_lte, cw_gt, cw_gte, cw_eq, cw_ne, eq_ss, eq_ii, eq_tt, eq_ll, eq_lo, eq_nn, eq_bb, cw_in, cw_nin, bi_len, lw_tup, lw_lst, lw_str, lw_loc, bi_abs, bi_sum, bi_alls, bi_any, bi_int, bi_intb, bi_tup, bi_lst, bi_srt, bi_rpr, bi_max2, bi_min2, bi_max, bi_min, sw_tup, sw_lst, sw_loc, rw_tup, rw_lst, rw_loc, mw_app, mw_pop, mw_ext, iw, stw, seqOf_tup, seqOf_lst, lstOf_lst, intsOf_map, eqv_int, lay_int, List.length_cons, List.length_nil, permute, List.filterMap_cons, List.filterMap_nil, gd_v, Its.ok, List.not_mem_nil, List.map_cons, List.map_nil, List.cons_append, List.nil_append, List.replicate, Nat.reduceAdd, Nat.reduceSub, Nat.zero_add, Nat.reduceLT, Nat.reduceLeDiff, false_implies, implies_true, isNone, wipeE, fnW, List.cons.injEq, and_assoc, eq_self, decide_true, decide_false, Bool.not_true, Bool.not_false, Bool.true_and, Bool.false_and, Bool.and_true, Bool.and_false, Bool.or_true, Bool.true_or, Bool.or_false, Bool.false_or, beq_self_eq_true, not_true_eq_false, not_false_eq_true, up_same, up_up, Option.isSome_some, isW]
                  rw [e] at hk
                  by_cases c4 : 0 ≤ i
                  · simp only [c4, evSs, evS, evR, evL, evO, evB, evT, evTs, evSrc, asVal_val, asVal_fl, asVal_flD, asVal_fd0, asNew_fl, List.getElem?_cons_zero, List.getElem?_cons_succ, List.getElem?_nil, Option.some.injEq, D.v.injEq, D.loc.injEq, Ob.lst.injEq, PyData.bool.injEq, PyData.int.injEq, PyData.str.injEq, PyData.tuple.injEq, PyData.list.injEq, exists_eq_left, exists_eq_left', exists_and_left, and_true, true_and, vw_v, dataOf_nil, dataOf_cons, dataOf_map, Option.map_some, if_true, Bool.false_eq_true, if_false, setE, List.set_cons_zero, List.set_cons_succ, exists_eq', exists_eq, isiW, bw_add, bw_sub, bw_mul, bw_fdiv, bw_mod, bw_pow, bw_adds, bw_addt, bw_addl, bw_addn, bw_mull, bw_mult, uw_neg, uw_not, cw_lt, cw_lte, cw_gt, cw_gte, cw_eq, cw_ne, eq_ss, eq_ii, eq_tt, eq_ll, eq_lo, eq_nn, eq_bb, cw_in, cw_nin, bi_len, lw_tup, lw_lst, lw_str, lw_loc, bi_abs, bi_sum, bi_alls, bi_any, bi_int, bi_intb, bi_tup, bi_lst, bi_srt, bi_rpr, bi_max2, bi_min2, bi_max, bi_min, sw_tup, sw_lst, sw_loc, rw_tup, rw_lst, rw_loc, mw_app, mw_pop, mw_ext, iw, stw, seqOf_tup, seqOf_lst, lstOf_lst, intsOf_map, eqv_int, lay_int, List.length_cons, List.length_nil, permute, List.filterMap_cons, List.filterMap_nil, gd_v, Its.ok, List.not_mem_nil, List.map_cons, List.map_nil, List.cons_append, List.nil_append, List.replicate, Nat.reduceAdd, Nat.reduceSub, Nat.zero_add, Nat.reduceLT, Nat.reduceLeDiff, false_implies, implies_true, isNone, wipeE, fnW, List.cons.injEq, and_assoc, eq_self, decide_true, decide_false, Bool.not_true, Bool.not_false, Bool.true_and, Bool.false_and, Bool.and_true, Bool.and_false, Bool.or_true, Bool.true_or, Bool.or_false, Bool.false_or, beq_self_eq_true, not_true_eq_false, not_false_eq_true, up_same, up_up, Option.isSome_some] at hk ⊢; exact hk
                  · simp only [c4, evSs, evS, evR, evL, evO, evB, evT, evTs, evSrc, asVal_val, asVal_fl, asVal_flD, asVal_fd0, asNew_fl, List.getElem?_cons_zero, List.getElem?_cons_succ, List.getElem?_nil, Option.some.injEq, D.v.injEq, D.loc.injEq, Ob.lst.injEq, PyData.bool.injEq, PyData.int.injEq, PyData.str.injEq, PyData.tuple.injEq, PyData.list.injEq, exists_eq_left, exists_eq_left', exists_and_left, and_true, true_and, vw_v, dataOf_nil, dataOf_cons, dataOf_map, Option.map_some, if_true, Bool.false_eq_true, if_false, setE, List.set_cons_zero, List.set_cons_succ, exists_eq', exists_eq, isiW, bw_add, bw_sub, bw_mul, bw_fdiv, bw_mod, bw_pow, bw_adds, bw_addt, bw_addl, bw_addn, bw_mull, bw_mult, uw_neg, uw_not, cw_lt, cw_lte, cw_gt, cw_gte, cw_eq, cw_ne, eq_ss, eq_ii, eq_tt, eq_ll, eq_lo, eq_nn, eq_bb, cw_in, cw_nin, bi_len, lw_tup, lw_lst, lw_str, lw_loc, bi_abs, bi_sum, bi_alls, bi_any, bi_int, bi_intb, bi_tup, bi_lst, bi_srt, bi_rpr, bi_max2, bi_min2, bi_max, bi_min, sw_tup, sw_lst, sw_loc, rw_tup, rw_lst, rw_loc, mw_app, mw_pop, mw_ext, iw, stw, seqOf_tup, seqOf_lst, lstOf_lst, intsOf_map, eqv_int, lay_int, List.length_cons, List.length_nil, permute, List.filterMap_cons, List.filterMap_nil, gd_v, Its.ok, List.not_mem_nil, List.map_cons, List.map_nil, List.cons_append, List.nil_append, List.replicate, Nat.reduceAdd, Nat.reduceSub, Nat.zero_add, Nat.reduceLT, Nat.reduceLeDiff, false_implies, implies_true, isNone, wipeE, fnW, List.cons.injEq, and_assoc, eq_self, decide_true, decide_false, Bool.not_true, Bool.not_false, Bool.true_and, Bool.false_and, Bool.and_true, Bool.and_false, Bool.or_true, Bool.true_or, Bool.or_false, Bool.false_or, beq_self_eq_true, not_true_eq_false, not_false_eq_true, up_same, up_up, Option.isSome_some] at hk ⊢; exact hk
                all_goals (simp only [evSs, evS, evR, evL, evO, evB, evT, evTs, evSrc, asVal_val, asVal_fl, asVal_flD, asVal_fd0, asNew_fl, List.getElem?_cons_zero, List.getElem?_cons_succ, List.getElem?_nil, Option.some.injEq, D.v.injEq, D.loc.injEq, Ob.lst.injEq, PyData.bool.injEq, PyData.int.injEq, PyData.str.injEq, PyData.tuple.injEq, PyData.list.injEq, exists_eq_left, exists_eq_left', exists_and_left, and_true, true_and, vw_v, dataOf_nil, dataOf_cons, dataOf_map, Option.map_some, if_true, Bool.false_eq_true, if_false, setE, List.set_cons_zero, List.set_cons_succ, exists_eq', exists_eq, isiW, bw_add, bw_sub, bw_mul, bw_fdiv, bw_mod, bw_pow, bw_adds, bw_addt, bw_addl, bw_addn, bw_mull, bw_mult, uw_neg, uw_not, cw_lt, cw_lte, cw_gt, cw_gte, cw_eq, cw_ne, eq_ss, eq_ii, eq_tt, eq_ll, eq_lo, eq_nn, eq_bb, cw_in, cw_nin, bi_len, lw_tup, lw_lst, lw_str, lw_loc, bi_abs, bi_sum, bi_alls, bi_any, bi_int, bi_intb, bi_tup, bi_lst, bi_srt, bi_rpr, bi_max2, bi_min2, bi_max, bi_min, sw_tup, sw_lst, sw_loc, rw_tup, rw_lst, rw_loc, mw_app, mw_pop, mw_ext, iw, stw, seqOf_tup, seqOf_lst, lstOf_lst, intsOf_map, eqv_int, lay_int, List.length_cons, List.length_nil, permute, List.filterMap_cons, List.filterMap_nil, gd_v, Its.ok, List.not_mem_nil, List.map_cons, List.map_nil, List.cons_append, List.nil_append, List.replicate, Nat.reduceAdd, Nat.reduceSub, Nat.zero_add, Nat.reduceLT, Nat.reduceLeDiff, false_implies, implies_true, isNone, wipeE, fnW, List.cons.injEq, and_assoc, eq_self, decide_true, decide_false, Bool.not_true, Bool.not_false, Bool.true_and, Bool.false_and, Bool.and_true, Bool.and_false, Bool.or_true, Bool.true_or, Bool.or_false, Bool.false_or, beq_self_eq_true, not_true_eq_false, not_false_eq_true, up_same, up_up, Option.isSome_some, isW]; exact hk)
              · have em : (qs.map fun p => D.v (.bool (num 0 10000 p))) = ((qs.map (num 0 10000)).map PyData.bool).map D.v := by simp only [List.map_map]; rfl
                rw [em]
                simp only [evSs, evS, evR, evL, evO, evB, evT, evTs, evSrc, asVal_val, asVal_fl, asVal_flD, asVal_fd0, asNew_fl, List.getElem?_cons_zero, List.getElem?_cons_succ, List.getElem?_nil, Option.some.injEq, D.v.injEq, D.loc.injEq, Ob.lst.injEq, PyData.bool.injEq, PyData.int.injEq, PyData.str.injEq, PyData.tuple.injEq, PyData.list.injEq, exists_eq_left, exists_eq_left', exists_and_left, and_true, true_and, vw_v, dataOf_nil, dataOf_cons, dataOf_map, Option.map_some, if_true, Bool.false_eq_true, if_false, setE, List.set_cons_zero, List.set_cons_succ, exists_eq', exists_eq, isiW, bw_add, bw_sub, bw_mul, bw_fdiv, bw_mod, bw_pow, bw_adds, bw_addt, bw_addl, bw_addn, bw_mull, bw_mult, uw_neg, uw_not, cw_lt, cw_lte, cw_gt, cw_gte, cw_eq, cw_ne, eq_ss, eq_ii, eq_tt, eq_ll, eq_lo, eq_nn, eq_bb, cw_in, cw_nin, bi_len, lw_tup, lw_lst, lw_str, lw_loc, bi_abs, bi_sum, bi_alls, bi_any, bi_int, bi_intb, bi_tup, bi_lst, bi_srt, bi_rpr, bi_max2, bi_min2, bi_max, bi_min, sw_tup, sw_lst, sw_loc, rw_tup, rw_lst, rw_loc, mw_app, mw_pop, mw_ext, iw, stw, seqOf_tup, seqOf_lst, lstOf_lst, intsOf_map, eqv_int, lay_int, List.length_cons, List.length_nil, permute, List.filterMap_cons, List.filterMap_nil, gd_v, Its.ok, List.not_mem_nil, List.map_cons, List.map_nil, List.cons_append, List.nil_append, List.replicate, Nat.reduceAdd, Nat.reduceSub, Nat.zero_add, Nat.reduceLT, Nat.reduceLeDiff, false_implies, implies_true, isNone, wipeE, fnW, List.cons.injEq, and_assoc, eq_self, decide_true, decide_false, Bool.not_true, Bool.not_false, Bool.true_and, Bool.false_and, Bool.and_true, Bool.and_false, Bool.or_true, Bool.true_or, Bool.or_false, Bool.false_or, beq_self_eq_true, not_true_eq_false, not_false_eq_true, up_same, up_up, Option.isSome_some, boolsOf_map]
                rw [show ((qs.map (num 0 10000)).all id) = qs.all (num 0 10000) by rw [List.all_map]; rfl]
                cases hB : qs.all (num 0 10000) with
                | true =>
                  simp only [hB, c3, evSs, evS, evR, evL, evO, evB, evT, evTs, evSrc, asVal_val, asVal_fl, asVal_flD, asVal_fd0, asNew_fl, List.getElem?_cons_zero, List.getElem?_cons_succ, List.getElem?_nil, Option.some.injEq, D.v.injEq, D.loc.injEq, Ob.lst.injEq, PyData.bool.injEq, PyData.int.injEq, PyData.str.injEq, PyData.tuple.injEq, PyData.list.injEq, exists_eq_left, exists_eq_left', exists_and_left, and_true, true_and, vw_v, dataOf_nil, dataOf_cons, dataOf_map, Option.map_some, if_true, Bool.false_eq_true, if_false, setE, List.set_cons_zero, List.set_cons_succ, exists_eq', exists_eq, isiW, bw_add, bw_sub, bw_mul, bw_fdiv, bw_mod, bw_pow, bw_adds, bw_addt, bw_addl, bw_addn, bw_mull, bw_mult, uw_neg, uw_not, cw_lt, cw_lte, cw_gt, cw_gte, cw_eq, cw_ne, eq_ss, eq_ii, eq_tt, eq_ll, eq_lo, eq_nn, eq_bb, cw_in, cw_nin, bi_len, lw_tup, lw_lst, lw_str, lw_loc, bi_abs, bi_sum, bi_alls, bi_any, bi_int, bi_intb, bi_tup, bi_lst, bi_srt, bi_rpr, bi_max2, bi_min2, bi_max, bi_min, sw_tup, sw_lst, sw_loc, rw_tup, rw_lst, rw_loc, mw_app, mw_pop, mw_ext, iw, stw, seqOf_tup, seqOf_lst, lstOf_lst, intsOf_map, eqv_int, lay_int, List.length_cons, List.length_nil, permute, List.filterMap_cons, List.filterMap_nil, gd_v, Its.ok, List.not_mem_nil, List.map_cons, List.map_nil, List.cons_append, List.nil_append, List.replicate, Nat.reduceAdd, Nat.reduceSub, Nat.zero_add, Nat.reduceLT, Nat.reduceLeDiff, false_implies, implies_true, isNone, wipeE, fnW, List.cons.injEq, and_assoc, eq_self, decide_true, decide_false, Bool.not_true, Bool.not_false, Bool.true_and, Bool.false_and, Bool.and_true, Bool.and_false, Bool.or_true, Bool.true_or, Bool.or_false, Bool.false_or, beq_self_eq_true, not_true_eq_false, not_false_eq_true, up_same, up_up, Option.isSome_some] at e ⊢
                  exact hK (_, _) e
                | false =>
                  simp only [hB, evSs, evS, evR, evL, evO, evB, evT, evTs, evSrc, asVal_val, asVal_fl, asVal_flD, asVal_fd0, asNew_fl, List.getElem?_cons_zero, List.getElem?_cons_succ, List.getElem?_nil, Option.some.injEq, D.v.injEq, D.loc.injEq, Ob.lst.injEq, PyData.bool.injEq, PyData.int.injEq, PyData.str.injEq, PyData.tuple.injEq, PyData.list.injEq, exists_eq_left, exists_eq_left', exists_and_left, and_true, true_and, vw_v, dataOf_nil, dataOf_cons, dataOf_map, Option.map_some, if_true, Bool.false_eq_true, if_false, setE, List.set_cons_zero, List.set_cons_succ, exists_eq', exists_eq, isiW, bw_add, bw_sub, bw_mul, bw_fdiv, bw_mod, bw_pow, bw_adds, bw_addt, bw_addl, bw_addn, bw_mull, bw_mult, uw_neg, uw_not, cw_lt, cw_lte, cw_gt, cw_gte, cw_eq, cw_ne, eq_ss, eq_ii, eq_tt, eq_ll, eq_lo, eq_nn, eq_bb, cw_in, cw_nin, bi_len, lw_tup, lw_lst, lw_str, lw_loc, bi_abs, bi_sum, bi_alls, bi_any, bi_int, bi_intb, bi_tup, bi_lst, bi_srt, bi_rpr, bi_max2, bi_min2, bi_max, bi_min, sw_tup, sw_lst, sw_loc, rw_tup, rw_lst, rw_loc, mw_app, mw_pop, mw_ext, iw, stw, seqOf_tup, seqOf_lst, lstOf_lst, intsOf_map, eqv_int, lay_int, List.length_cons, List.length_nil, permute, List.filterMap_cons, List.filterMap_nil, gd_v, Its.ok, List.not_mem_nil, List.map_cons, List.map_nil, List.cons_append, List.nil_append, List.replicate, Nat.reduceAdd, Nat.reduceSub, Nat.zero_add, Nat.reduceLT, Nat.reduceLeDiff, false_implies, implies_true, isNone, wipeE, fnW, List.cons.injEq, and_assoc, eq_self, decide_true, decide_false, Bool.not_true, Bool.not_false, Bool.true_and, Bool.false_and, Bool.and_true, Bool.and_false, Bool.or_true, Bool.true_or, Bool.or_false, Bool.false_or, beq_self_eq_true, not_true_eq_false, not_false_eq_true, up_same, up_up, Option.isSome_some] at e ⊢
                  exact ⟨by omega, hr _ e⟩
            · have c3' : (((qs.length : Nat) : Int) == 2) = false := beq_eq_false_iff_ne.mpr (by omega)
              simp only [c3', c3, evSs, evS, evR, evL, evO, evB, evT, evTs, evSrc, asVal_val, asVal_fl, asVal_flD, asVal_fd0, asNew_fl, List.getElem?_cons_zero, List.getElem?_cons_succ, List.getElem?_nil, Option.some.injEq, D.v.injEq, D.loc.injEq, Ob.lst.injEq, PyData.bool.injEq, PyData.int.injEq, PyData.str.injEq, PyData.tuple.injEq, PyData.list.injEq, exists_eq_left, exists_eq_left', exists_and_left, and_true, true_and, vw_v, dataOf_nil, dataOf_cons, dataOf_map, Option.map_some, if_true, Bool.false_eq_true, if_false, setE, List.set_cons_zero, List.set_cons_succ, exists_eq', exists_eq, isiW, bw_add, bw_sub, bw_mul, bw_fdiv, bw_mod, bw_pow, bw_adds, bw_addt, bw_addl, bw_addn, bw_mull, bw_mult, uw_neg, uw_not, cw_lt, cw_lte, cw_gt, cw_gte, cw_eq, cw_ne, eq_ss, eq_ii, eq_tt, eq_ll, eq_lo, eq_nn, eq_bb, cw_in, cw_nin, bi_len, lw_tup, lw_lst, lw_str, lw_loc, bi_abs, bi_sum, bi_alls, bi_any, bi_int, bi_intb, bi_tup, bi_lst, bi_srt, bi_rpr, bi_max2, bi_min2, bi_max, bi_min, sw_tup, sw_lst, sw_loc, rw_tup, rw_lst, rw_loc, mw_app, mw_pop, mw_ext, iw, stw, seqOf_tup, seqOf_lst, lstOf_lst, intsOf_map, eqv_int, lay_int, List.length_cons, List.length_nil, permute, List.filterMap_cons, List.filterMap_nil, gd_v, Its.ok, List.not_mem_nil, List.map_cons, List.map_nil, List.cons_append, List.nil_append, List.replicate, Nat.reduceAdd, Nat.reduceSub, Nat.zero_add, Nat.reduceLT, Nat.reduceLeDiff, false_implies, implies_true, isNone, wipeE, fnW, List.cons.injEq, and_assoc, eq_self, decide_true, decide_false, Bool.not_true, Bool.not_false, Bool.true_and, Bool.false_and, Bool.and_true, Bool.and_false, Bool.or_true, Bool.true_or, Bool.or_false, Bool.false_or, beq_self_eq_true, not_true_eq_false, not_false_eq_true, up_same, up_up, Option.isSome_some] at e ⊢
              exact ⟨by omega, hr _ e⟩
          all_goals
            simp only [evSs, evS, evR, evL, evO, evB, evT, evTs, evSrc, asVal_val, asVal_fl, asVal_flD, asVal_fd0, asNew_fl, List.getElem?_cons_zero, List.getElem?_cons_succ, List.getElem?_nil, Option.some.injEq, D.v.injEq, D.loc.injEq, Ob.lst.injEq, PyData.bool.injEq, PyData.int.injEq, PyData.str.injEq, PyData.tuple.injEq, PyData.list.injEq, exists_eq_left, exists_eq_left', exists_and_left, and_true, true_and, vw_v, dataOf_nil, dataOf_cons, dataOf_map, Option.map_some, if_true, Bool.false_eq_true, if_false, setE, List.set_cons_zero, List.set_cons_succ, exists_eq', exists_eq, isiW, bw_add, bw_sub, bw_mul, bw_fdiv, bw_mod, bw_pow, bw_adds, bw_addt, bw_addl, bw_addn, bw_mull, bw_mult, uw_neg, uw_not, cw_lt, cw_lte, cw_gt, cw_gte, cw_eq, cw_ne, eq_ss, eq_ii, eq_tt, eq_ll, eq_lo, eq_nn, eq_bb, cw_in, cw_nin, bi_len, lw_tup, lw_lst, lw_str, lw_loc, bi_abs, bi_sum, bi_alls, bi_any, bi_int, bi_intb, bi_tup, bi_lst, bi_srt, bi_rpr, bi_max2, bi_min2, bi_max, bi_min, sw_tup, sw_lst, sw_loc, rw_tup, rw_lst, rw_loc, mw_app, mw_pop, mw_ext, iw, stw, seqOf_tup, seqOf_lst, lstOf_lst, intsOf_map, eqv_int, lay_int, List.length_cons, List.length_nil, permute, List.filterMap_cons, List.filterMap_nil, gd_v, Its.ok, List.not_mem_nil, List.map_cons, List.map_nil, List.cons_append, List.nil_append, List.replicate, Nat.reduceAdd, Nat.reduceSub, Nat.zero_add, Nat.reduceLT, Nat.reduceLeDiff, false_implies, implies_true, isNone, wipeE, fnW, List.cons.injEq, and_assoc, eq_self, decide_true, decide_false, Bool.not_true, Bool.not_false, Bool.true_and, Bool.false_and, Bool.and_true, Bool.and_false, Bool.or_true, Bool.true_or, Bool.or_false, Bool.false_or, beq_self_eq_true, not_true_eq_false, not_false_eq_true, up_same, up_up, Option.isSome_some]
            exact ⟨by omega, hr _ rfl⟩
        · rw [q] at h; exact h
        · rw [q] at h
          obtain ⟨bs, rfl, e2⟩ := found_none q
          rw [e2, List.length_map] at h
          rw [List.length_map] at c1 c2
          refine tail_err (bs := bs) ?_ (by omega) (by omega)
          exact h
      · rw [if_neg (by omega)] at h
        simp only [c1, c2, evSs, evS, evR, evL, evO, evB, evT, evTs, evSrc, asVal_val, asVal_fl, asVal_flD, asVal_fd0, asNew_fl, List.getElem?_cons_zero, List.getElem?_cons_succ, List.getElem?_nil, Option.some.injEq, D.v.injEq, D.loc.injEq, Ob.lst.injEq, PyData.bool.injEq, PyData.int.injEq, PyData.str.injEq, PyData.tuple.injEq, PyData.list.injEq, exists_eq_left, exists_eq_left', exists_and_left, and_true, true_and, vw_v, dataOf_nil, dataOf_cons, dataOf_map, Option.map_some, if_true, Bool.false_eq_true, if_false, setE, List.set_cons_zero, List.set_cons_succ, exists_eq', exists_eq, isiW, bw_add, bw_sub, bw_mul, bw_fdiv, bw_mod, bw_pow, bw_adds, bw_addt, bw_addl, bw_addn, bw_mull, bw_mult, uw_neg, uw_not, cw_lt, cw_lte, cw_gt, cw_gte, cw_eq, cw_ne, eq_ss, eq_ii, eq_tt, eq_ll, eq_lo, eq_nn, eq_bb, cw_in, cw_nin, bi_len, lw_tup, lw_lst, lw_str, lw_loc, bi_abs, bi_sum, bi_alls, bi_any, bi_int, bi_intb, bi_tup, bi_lst, bi_srt, bi_rpr, bi_max2, bi_min2, bi_max, bi_min, sw_tup, sw_lst, sw_loc, rw_tup, rw_lst, rw_loc, mw_app, mw_pop, mw_ext, iw, stw, seqOf_tup, seqOf_lst, lstOf_lst, intsOf_map, eqv_int, lay_int, List.length_cons, List.length_nil, permute, List.filterMap_cons, List.filterMap_nil, gd_v, Its.ok, List.not_mem_nil, List.map_cons, List.map_nil, List.cons_append, List.nil_append, List.replicate, Nat.reduceAdd, Nat.reduceSub, Nat.zero_add, Nat.reduceLT, Nat.reduceLeDiff, false_implies, implies_true, isNone, wipeE, fnW, List.cons.injEq, and_assoc, eq_self, decide_true, decide_false, Bool.not_true, Bool.not_false, Bool.true_and, Bool.false_and, Bool.and_true, Bool.and_false, Bool.or_true, Bool.true_or, Bool.or_false, Bool.false_or, beq_self_eq_true, not_true_eq_false, not_false_eq_true, up_same, up_up, Option.isSome_some]
        exact h
    · rw [if_neg (by omega)] at h
      simp only [c1, evSs, evS, evR, evL, evO, evB, evT, evTs, evSrc, asVal_val, asVal_fl, asVal_flD, asVal_fd0, asNew_fl, List.getElem?_cons_zero, List.getElem?_cons_succ, List.getElem?_nil, Option.some.injEq, D.v.injEq, D.loc.injEq, Ob.lst.injEq, PyData.bool.injEq, PyData.int.injEq, PyData.str.injEq, PyData.tuple.injEq, PyData.list.injEq, exists_eq_left, exists_eq_left', exists_and_left, and_true, true_and, vw_v, dataOf_nil, dataOf_cons, dataOf_map, Option.map_some, if_true, Bool.false_eq_true, if_false, setE, List.set_cons_zero, List.set_cons_succ, exists_eq', exists_eq, isiW, bw_add, bw_sub, bw_mul, bw_fdiv, bw_mod, bw_pow, bw_adds, bw_addt, bw_addl, bw_addn, bw_mull, bw_mult, uw_neg, uw_not, cw_lt, cw_lte, cw_gt, cw_gte, cw_eq, cw_ne, eq_ss, eq_ii, eq_tt, eq_ll, eq_lo, eq_nn, eq_bb, cw_in, cw_nin, bi_len, lw_tup, lw_lst, lw_str, lw_loc, bi_abs, bi_sum, bi_alls, bi_any, bi_int, bi_intb, bi_tup, bi_lst, bi_srt, bi_rpr, bi_max2, bi_min2, bi_max, bi_min, sw_tup, sw_lst, sw_loc, rw_tup, rw_lst, rw_loc, mw_app, mw_pop, mw_ext, iw, stw, seqOf_tup, seqOf_lst, lstOf_lst, intsOf_map, eqv_int, lay_int, List.length_cons, List.length_nil, permute, List.filterMap_cons, List.filterMap_nil, gd_v, Its.ok, List.not_mem_nil, List.map_cons, List.map_nil, List.cons_append, List.nil_append, List.replicate, Nat.reduceAdd, Nat.reduceSub, Nat.zero_add, Nat.reduceLT, Nat.reduceLeDiff, false_implies, implies_true, isNone, wipeE, fnW, List.cons.injEq, and_assoc, eq_self, decide_true, decide_false, Bool.not_true, Bool.not_false, Bool.true_and, Bool.false_and, Bool.and_true, Bool.and_false, Bool.or_true, Bool.true_or, Bool.or_false, Bool.false_or, beq_self_eq_true, not_true_eq_false, not_false_eq_true, up_same, up_up, Option.isSome_some]
      exact h
  all_goals (simp only [evSs, evS, evR, evL, evO, evB, evT, evTs, evSrc, asVal_val, asVal_fl, asVal_flD, asVal_fd0, asNew_fl, List.getElem?_cons_zero, List.getElem?_cons_succ, List.getElem?_nil, Option.some.injEq, D.v.injEq, D.loc.injEq, Ob.lst.injEq, PyData.bool.injEq, PyData.int.injEq, PyData.str.injEq, PyData.tuple.injEq, PyData.list.injEq, exists_eq_left, exists_eq_left', exists_and_left, and_true, true_and, vw_v, dataOf_nil, dataOf_cons, dataOf_map, Option.map_some, if_true, Bool.false_eq_true, if_false, setE, List.set_cons_zero, List.set_cons_succ, exists_eq', exists_eq, isiW, bw_add, bw_sub, bw_mul, bw_fdiv, bw_mod, bw_pow, bw_adds, bw_addt, bw_addl, bw_addn, bw_mull, bw_mult, uw_neg, uw_not, cw_lt, cw_lte, cw_gt, cw_gte, cw_eq, cw_ne, eq_ss, eq_ii, eq_tt, eq_ll, eq_lo, eq_nn, eq_bb, cw_in, cw_nin, bi_len, lw_tup, lw_lst, lw_str, lw_loc, bi_abs, bi_sum, bi_alls, bi_any, bi_int, bi_intb, bi_tup, bi_lst, bi_srt, bi_rpr, bi_max2, bi_min2, bi_max, bi_min, sw_tup, sw_lst, sw_loc, rw_tup, rw_lst, rw_loc, mw_app, mw_pop, mw_ext, iw, stw, seqOf_tup, seqOf_lst, lstOf_lst, intsOf_map, eqv_int, lay_int, List.length_cons, List.length_nil, permute, List.filterMap_cons, List.filterMap_nil, gd_v, Its.ok, List.not_mem_nil, List.map_cons, List.map_nil, List.cons_append, List.nil_append, List.replicate, Nat.reduceAdd, Nat.reduceSub, Nat.zero_add, Nat.reduceLT, Nat.reduceLeDiff, false_implies, implies_true, isNone, wipeE, fnW, List.cons.injEq, and_assoc, eq_self, decide_true, decide_false, Bool.not_true, Bool.not_false, Bool.true_and, Bool.false_and, Bool.and_true, Bool.and_false, Bool.or_true, Bool.true_or, Bool.or_false, Bool.false_or, beq_self_eq_true, not_true_eq_false, not_false_eq_true, up_same, up_up, Option.isSome_some]; exact h)
end Lw

namespace Lw
open PySem L2 Pd PyProof.Rows
structure Good (bs : List (Int × Int)) : Prop where
  ne : 0 < bs.length
  len : bs.length ≤ 8
  h0 : (bs.getD 0 (0, 0)).1 = 0
  rng : ∀ q, q ∈ bs → 0 ≤ q.1 ∧ q.1 ≤ 10000 ∧ 0 ≤ q.2 ∧ q.2 ≤ 10000
  mono : bs.Pairwise fun a c => a.1 < c.1
theorem Good.get {bs : List (Int × Int)} (g : Good bs) {k : Nat} (h : k < bs.length) : 0 ≤ (bs.getD k (0, 0)).1 ∧ (bs.getD k (0, 0)).1 ≤ 10000 ∧ 0 ≤ (bs.getD k (0, 0)).2 ∧ (bs.getD k (0, 0)).2 ≤ 10000 := by
  rw [Pd.getD_at h]; exact g.rng _ (List.getElem_mem h)
theorem Good.lt {bs : List (Int × Int)} (g : Good bs) {i j : Nat} (h : i < j) (h2 : j < bs.length) : (bs.getD i (0, 0)).1 < (bs.getD j (0, 0)).1 := by
  rw [Pd.getD_at h2, Pd.getD_at (by omega)]
  exact List.pairwise_iff_getElem.mp g.mono i j (by omega) h2 h
def dprs (bs : List (Int × Int)) : List D := (bs.map pr).map D.v
structure Bnd (fs : List (Int × Int)) (least back : Int) : Prop where
  h0 : fs = [] ∧ least = 0 ∨ fs ≠ [] ∧ (fs.getD 0 (0, 0)).1 = 0
  rng : ∀ q, q ∈ fs → 0 ≤ q.1 ∧ q.1 ≤ 10000 ∧ 0 ≤ q.2 ∧ q.2 ≤ 10000
  low : ∀ q, q ∈ fs → q.1 < least
  mono : fs.Pairwise fun a c => a.1 < c.1
  l0 : 0 ≤ least
  b1 : back ≤ 10000
theorem Bnd.push {fs : List (Int × Int)} {least back l2 b2 : Int} (h : Bnd fs least back) (h1 : least ≤ 10000) (h2 : 0 ≤ back) (h3 : least < l2) (h4 : b2 ≤ back) : Bnd (fs ++ [(least, back)]) l2 b2 where
  h0 := .inr ⟨by simp, by
    rcases h.h0 with ⟨e, e2⟩ | ⟨e, e2⟩
    · rw [e, e2]; rfl
    · cases fs with
      | nil => exact absurd rfl e
      | cons q r => exact e2⟩
  rng := fun q hq => by
    rcases List.mem_append.mp hq with hq | hq
    · exact h.rng q hq
    · have e : q = (least, back) := by simpa using hq
      have := h.l0; have := h.b1
      rw [e]; exact ⟨by omega, by omega, by omega, by omega⟩
  low := fun q hq => by
    rcases List.mem_append.mp hq with hq | hq
    · have := h.low q hq; omega
    · have e : q = (least, back) := by simpa using hq
      rw [e]; exact h3
  mono := List.pairwise_append.mpr ⟨h.mono, by simp, fun a ha c hc => by
    have e : c = (least, back) := by simpa using hc
    rw [e]; exact h.low a ha⟩
  l0 := by have := h.l0; omega
  b1 := by have := h.b1; omega
theorem Bnd.good {fs : List (Int × Int)} {least back : Int} (h : Bnd fs least back) (h1 : fs ≠ []) (h2 : fs.length ≤ 8) : Good fs := ⟨List.length_pos_iff.mpr h1, h2, by
  rcases h.h0 with ⟨e, _⟩ | ⟨_, e⟩
  · exact absurd e h1
  · exact e, h.rng, h.mono⟩
theorem good_last {gs : List (Int × Int)} {q : Int × Int} (h : Good (gs ++ [q])) (hl : gs ≠ []) : Good (gs ++ [(10000, q.2)]) where
  ne := by simp
  len := by have := h.len; simpa using this
  h0 := by
    have := h.h0
    cases gs with
    | nil => exact absurd rfl hl
    | cons z r => exact this
  rng := fun z hz => by
    rcases List.mem_append.mp hz with hz | hz
    · exact h.rng z (List.mem_append_left _ hz)
    · have e : z = (10000, q.2) := by simpa using hz
      have := h.rng q (by simp)
      rw [e]; exact ⟨by omega, by omega, this.2.2⟩
  mono := by
    have m := List.pairwise_append.mp h.mono
    refine List.pairwise_append.mpr ⟨m.1, by simp, fun a ha c hc => ?_⟩
    have e : c = (10000, q.2) := by simpa using hc
    have h1 := m.2.2 a ha q (by simp)
    have h2 := h.rng q (by simp)
    rw [e]; show a.1 < 10000; omega
def spBands : FS := fun ds M P _ => ∃ b m, ds = [.loc b] ∧ Bag M b m ∧ ∀ bs M', Good bs → Bag M' b m → SameBut M M' b m → P (.v (.tuple (bs.map pr))) M'
theorem dataOf_dprs (fs : List (Int × Int)) : Pd.dataOf (dprs fs) = some (fs.map pr) := dataOf_map
theorem ok_law_bands (T : Tb) (hT : T "_law_draw" = spDraw) : ∀ ds M P PX, spBands ds M P PX → fnW false T 6 1 i_law_bands ds M P PX := by
  rintro _ M P PX ⟨b, m, rfl, B, h⟩
  unfold i_law_bands
  have hz := sizeLine_eq
  simp only [evSs, evS, evR, evL, evO, evB, evT, evTs, evSrc, asVal_val, asVal_fl, asVal_flD, asVal_fd0, asNew_fl, List.getElem?_cons_zero, List.getElem?_cons_succ, List.getElem?_nil, Option.some.injEq, D.v.injEq, D.loc.injEq, Ob.lst.injEq, PyData.bool.injEq, PyData.int.injEq, PyData.str.injEq, PyData.tuple.injEq, PyData.list.injEq, exists_eq_left, exists_eq_left', exists_and_left, and_true, true_and, vw_v, dataOf_nil, dataOf_cons, dataOf_map, Option.map_some, if_true, Bool.false_eq_true, if_false, setE, List.set_cons_zero, List.set_cons_succ, exists_eq', exists_eq, isiW, bw_add, bw_sub, bw_mul, bw_fdiv, bw_mod, bw_pow, bw_adds, bw_addt, bw_addl, bw_addn, bw_mull, bw_mult, uw_neg, uw_not, cw_lt, cw_lte, cw_gt, cw_gte, cw_eq, cw_ne, eq_ss, eq_ii, eq_tt, eq_ll, eq_lo, eq_nn, eq_bb, cw_in, cw_nin, bi_len, lw_tup, lw_lst, lw_str, lw_loc, bi_abs, bi_sum, bi_alls, bi_any, bi_int, bi_intb, bi_tup, bi_lst, bi_srt, bi_rpr, bi_max2, bi_min2, bi_max, bi_min, sw_tup, sw_lst, sw_loc, rw_tup, rw_lst, rw_loc, mw_app, mw_pop, mw_ext, iw, stw, seqOf_tup, seqOf_lst, lstOf_lst, intsOf_map, eqv_int, lay_int, List.length_cons, List.length_nil, permute, List.filterMap_cons, List.filterMap_nil, gd_v, Its.ok, List.not_mem_nil, List.map_cons, List.map_nil, List.cons_append, List.nil_append, List.replicate, Nat.reduceAdd, Nat.reduceSub, Nat.zero_add, Nat.reduceLT, Nat.reduceLeDiff, false_implies, implies_true, isNone, wipeE, fnW, List.cons.injEq, and_assoc, eq_self, decide_true, decide_false, Bool.not_true, Bool.not_false, Bool.true_and, Bool.false_and, Bool.and_true, Bool.and_false, Bool.or_true, Bool.true_or, Bool.or_false, Bool.false_or, beq_self_eq_true, not_true_eq_false, not_false_eq_true, up_same, up_up, Option.isSome_some, hT]
  refine ⟨b, m, 8, rfl, by omega, by omega, B, fun r M1 r0 r1 B1 S1 => ?_⟩
  simp only [evSs, evS, evR, evL, evO, evB, evT, evTs, evSrc, asVal_val, asVal_fl, asVal_flD, asVal_fd0, asNew_fl, List.getElem?_cons_zero, List.getElem?_cons_succ, List.getElem?_nil, Option.some.injEq, D.v.injEq, D.loc.injEq, Ob.lst.injEq, PyData.bool.injEq, PyData.int.injEq, PyData.str.injEq, PyData.tuple.injEq, PyData.list.injEq, exists_eq_left, exists_eq_left', exists_and_left, and_true, true_and, vw_v, dataOf_nil, dataOf_cons, dataOf_map, Option.map_some, if_true, Bool.false_eq_true, if_false, setE, List.set_cons_zero, List.set_cons_succ, exists_eq', exists_eq, isiW, bw_add, bw_sub, bw_mul, bw_fdiv, bw_mod, bw_pow, bw_adds, bw_addt, bw_addl, bw_addn, bw_mull, bw_mult, uw_neg, uw_not, cw_lt, cw_lte, cw_gt, cw_gte, cw_eq, cw_ne, eq_ss, eq_ii, eq_tt, eq_ll, eq_lo, eq_nn, eq_bb, cw_in, cw_nin, bi_len, lw_tup, lw_lst, lw_str, lw_loc, bi_abs, bi_sum, bi_alls, bi_any, bi_int, bi_intb, bi_tup, bi_lst, bi_srt, bi_rpr, bi_max2, bi_min2, bi_max, bi_min, sw_tup, sw_lst, sw_loc, rw_tup, rw_lst, rw_loc, mw_app, mw_pop, mw_ext, iw, stw, seqOf_tup, seqOf_lst, lstOf_lst, intsOf_map, eqv_int, lay_int, List.length_cons, List.length_nil, permute, List.filterMap_cons, List.filterMap_nil, gd_v, Its.ok, List.not_mem_nil, List.map_cons, List.map_nil, List.cons_append, List.nil_append, List.replicate, Nat.reduceAdd, Nat.reduceSub, Nat.zero_add, Nat.reduceLT, Nat.reduceLeDiff, false_implies, implies_true, isNone, wipeE, fnW, List.cons.injEq, and_assoc, eq_self, decide_true, decide_false, Bool.not_true, Bool.not_false, Bool.true_and, Bool.false_and, Bool.and_true, Bool.and_false, Bool.or_true, Bool.true_or, Bool.or_false, Bool.false_or, beq_self_eq_true, not_true_eq_false, not_false_eq_true, up_same, up_up, Option.isSome_some, hT]
  refine ⟨b, m, 3, rfl, by omega, by omega, B1, fun r2 M2 r20 r21 B2 S2 => ?_⟩
  simp only [evSs, evS, evR, evL, evO, evB, evT, evTs, evSrc, asVal_val, asVal_fl, asVal_flD, asVal_fd0, asNew_fl, List.getElem?_cons_zero, List.getElem?_cons_succ, List.getElem?_nil, Option.some.injEq, D.v.injEq, D.loc.injEq, Ob.lst.injEq, PyData.bool.injEq, PyData.int.injEq, PyData.str.injEq, PyData.tuple.injEq, PyData.list.injEq, exists_eq_left, exists_eq_left', exists_and_left, and_true, true_and, vw_v, dataOf_nil, dataOf_cons, dataOf_map, Option.map_some, if_true, Bool.false_eq_true, if_false, setE, List.set_cons_zero, List.set_cons_succ, exists_eq', exists_eq, isiW, bw_add, bw_sub, bw_mul, bw_fdiv, bw_mod, bw_pow, bw_adds, bw_addt, bw_addl, bw_addn, bw_mull, bw_mult, uw_neg, uw_not, cw_lt, cw_lte, cw_gt, cw_gte, cw_eq, cw_ne, eq_ss, eq_ii, eq_tt, eq_ll, eq_lo, eq_nn, eq_bb, cw_in, cw_nin, bi_len, lw_tup, lw_lst, lw_str, lw_loc, bi_abs, bi_sum, bi_alls, bi_any, bi_int, bi_intb, bi_tup, bi_lst, bi_srt, bi_rpr, bi_max2, bi_min2, bi_max, bi_min, sw_tup, sw_lst, sw_loc, rw_tup, rw_lst, rw_loc, mw_app, mw_pop, mw_ext, iw, stw, seqOf_tup, seqOf_lst, lstOf_lst, intsOf_map, eqv_int, lay_int, List.length_cons, List.length_nil, permute, List.filterMap_cons, List.filterMap_nil, gd_v, Its.ok, List.not_mem_nil, List.map_cons, List.map_nil, List.cons_append, List.nil_append, List.replicate, Nat.reduceAdd, Nat.reduceSub, Nat.zero_add, Nat.reduceLT, Nat.reduceLeDiff, false_implies, implies_true, isNone, wipeE, fnW, List.cons.injEq, and_assoc, eq_self, decide_true, decide_false, Bool.not_true, Bool.not_false, Bool.true_and, Bool.false_and, Bool.and_true, Bool.and_false, Bool.or_true, Bool.true_or, Bool.or_false, Bool.false_or, beq_self_eq_true, not_true_eq_false, not_false_eq_true, up_same, up_up, Option.isSome_some]
  refine ⟨by omega, fun n hn => ⟨by omega, ?_⟩⟩
  have hnb := B2.some hn
  have hMn : M n = none := by rw [← S1 n hnb.1 hnb.2, ← S2 n hnb.1 hnb.2]; exact hn
  unfold i_law_bands_1
  simp only [evSs, evS, evR, evL, evO, evB, evT, evTs, evSrc, asVal_val, asVal_fl, asVal_flD, asVal_fd0, asNew_fl, List.getElem?_cons_zero, List.getElem?_cons_succ, List.getElem?_nil, Option.some.injEq, D.v.injEq, D.loc.injEq, Ob.lst.injEq, PyData.bool.injEq, PyData.int.injEq, PyData.str.injEq, PyData.tuple.injEq, PyData.list.injEq, exists_eq_left, exists_eq_left', exists_and_left, and_true, true_and, vw_v, dataOf_nil, dataOf_cons, dataOf_map, Option.map_some, if_true, Bool.false_eq_true, if_false, setE, List.set_cons_zero, List.set_cons_succ, exists_eq', exists_eq, isiW, bw_add, bw_sub, bw_mul, bw_fdiv, bw_mod, bw_pow, bw_adds, bw_addt, bw_addl, bw_addn, bw_mull, bw_mult, uw_neg, uw_not, cw_lt, cw_lte, cw_gt, cw_gte, cw_eq, cw_ne, eq_ss, eq_ii, eq_tt, eq_ll, eq_lo, eq_nn, eq_bb, cw_in, cw_nin, bi_len, lw_tup, lw_lst, lw_str, lw_loc, bi_abs, bi_sum, bi_alls, bi_any, bi_int, bi_intb, bi_tup, bi_lst, bi_srt, bi_rpr, bi_max2, bi_min2, bi_max, bi_min, sw_tup, sw_lst, sw_loc, rw_tup, rw_lst, rw_loc, mw_app, mw_pop, mw_ext, iw, stw, seqOf_tup, seqOf_lst, lstOf_lst, intsOf_map, eqv_int, lay_int, List.length_cons, List.length_nil, permute, List.filterMap_cons, List.filterMap_nil, gd_v, Its.ok, List.not_mem_nil, List.map_cons, List.map_nil, List.cons_append, List.nil_append, List.replicate, Nat.reduceAdd, Nat.reduceSub, Nat.zero_add, Nat.reduceLT, Nat.reduceLeDiff, false_implies, implies_true, isNone, wipeE, fnW, List.cons.injEq, and_assoc, eq_self, decide_true, decide_false, Bool.not_true, Bool.not_false, Bool.true_and, Bool.false_and, Bool.and_true, Bool.and_false, Bool.or_true, Bool.true_or, Bool.or_false, Bool.false_or, beq_self_eq_true, not_true_eq_false, not_false_eq_true, up_same, up_up, Option.isSome_some]
  refine ⟨by omega, by omega, by omega, by omega, ?_⟩
  generalize hxs : ((List.range ((1 + r) - 0).toNat).map fun (k : Nat) => D.v (.int (0 + k))) = xs
  have hlen : xs.length = (1 + r).toNat := by rw [← hxs]; simp
  have fin : ∀ (fs : List (Int × Int)) (M' : Mem), Good fs → M' n = some (.lst (dprs fs)) → Bag M' b m → (∀ k, k ≠ n → k ≠ b → k ≠ m → M' k = M k) → exitW false M P (.v (.tuple (fs.map pr))) M' := fun fs M' g hM hB hS => by
    refine exit_v (h fs _ g ?_ fun k k1 k2 => ?_)
    · obtain ⟨cells, x, y, hb⟩ := hB
      obtain ⟨c0, x0, y0, hb0⟩ := B
      have e1 : restr M M' b = M' b := by unfold restr; rw [hb0.hb]
      have e2 : restr M M' m = M' m := by unfold restr; rw [hb0.hm]
      exact disc_bag.st M' _ b m e1 e2 ⟨cells, x, y, hb⟩
    · unfold restr
      cases e : M k with
      | none => rfl
      | some o =>
        have : k ≠ n := fun q => by rw [q, hMn] at e; cases e
        show M' k = some o
        rw [hS k this k1 k2, e]
  have last : ∀ (env : Pd.Env) (M' : Mem) (fs : List (Int × Int)) (d1 d2 d3 d5 : Option D), fs ≠ [] → (∃ least back, Bnd fs least back) → fs.length ≤ 8 → M' n = some (.lst (dprs fs)) → Bag M' b m → (∀ k, k ≠ n → k ≠ b → k ≠ m → M' k = M k) → env = [some (.loc b), d1, d2, d3, some (.loc n), d5] → evSs T (fun x _ M' => PX x (restr M M')) i_law_bands_3 env M' ⟨fun _ M' => exitW false M P (.v .none) M', fun d M' => exitW false M P d M', fun _ _ => False, fun _ _ => False⟩ := by
    rintro env M' fs d1 d2 d3 d5 hne ⟨least, back, hb⟩ hl hM hB hS rfl
    have g := hb.good hne hl
    unfold i_law_bands_3
    simp only [evSs, evS, evR, evL, evO, evB, evT, evTs, evSrc, asVal_val, asVal_fl, asVal_flD, asVal_fd0, asNew_fl, List.getElem?_cons_zero, List.getElem?_cons_succ, List.getElem?_nil, Option.some.injEq, D.v.injEq, D.loc.injEq, Ob.lst.injEq, PyData.bool.injEq, PyData.int.injEq, PyData.str.injEq, PyData.tuple.injEq, PyData.list.injEq, exists_eq_left, exists_eq_left', exists_and_left, and_true, true_and, vw_v, dataOf_nil, dataOf_cons, dataOf_map, Option.map_some, if_true, Bool.false_eq_true, if_false, setE, List.set_cons_zero, List.set_cons_succ, exists_eq', exists_eq, isiW, bw_add, bw_sub, bw_mul, bw_fdiv, bw_mod, bw_pow, bw_adds, bw_addt, bw_addl, bw_addn, bw_mull, bw_mult, uw_neg, uw_not, cw_lt, cw_lte, cw_gt, cw_gte, cw_eq, cw_ne, eq_ss, eq_ii, eq_tt, eq_ll, eq_lo, eq_nn, eq_bb, cw_in, cw_nin, bi_len, lw_tup, lw_lst, lw_str, lw_loc, bi_abs, bi_sum, bi_alls, bi_any, bi_int, bi_intb, bi_tup, bi_lst, bi_srt, bi_rpr, bi_max2, bi_min2, bi_max, bi_min, sw_tup, sw_lst, sw_loc, rw_tup, rw_lst, rw_loc, mw_app, mw_pop, mw_ext, iw, stw, seqOf_tup, seqOf_lst, lstOf_lst, intsOf_map, eqv_int, lay_int, List.length_cons, List.length_nil, permute, List.filterMap_cons, List.filterMap_nil, gd_v, Its.ok, List.not_mem_nil, List.map_cons, List.map_nil, List.cons_append, List.nil_append, List.replicate, Nat.reduceAdd, Nat.reduceSub, Nat.zero_add, Nat.reduceLT, Nat.reduceLeDiff, false_implies, implies_true, isNone, wipeE, fnW, List.cons.injEq, and_assoc, eq_self, decide_true, decide_false, Bool.not_true, Bool.not_false, Bool.true_and, Bool.false_and, Bool.and_true, Bool.and_false, Bool.or_true, Bool.true_or, Bool.or_false, Bool.false_or, beq_self_eq_true, not_true_eq_false, not_false_eq_true, up_same, up_up, Option.isSome_some, hT]
    refine ⟨b, m, 3, rfl, by omega, by omega, hB, fun r3 M3 r30 r31 B3 S3 => ?_⟩
    have hM3 : M3 n = some (.lst (dprs fs)) := by rw [S3 n hnb.1 hnb.2]; exact hM
    have hS3 : ∀ k, k ≠ n → k ≠ b → k ≠ m → M3 k = M k := fun k k1 k2 k3 => by rw [S3 k k2 k3, hS k k1 k2 k3]
    have hq := seqOf_loc hM3
    have hll : (dprs fs).length = fs.length := by unfold dprs; simp
    simp only [evSs, evS, evR, evL, evO, evB, evT, evTs, evSrc, asVal_val, asVal_fl, asVal_flD, asVal_fd0, asNew_fl, List.getElem?_cons_zero, List.getElem?_cons_succ, List.getElem?_nil, Option.some.injEq, D.v.injEq, D.loc.injEq, Ob.lst.injEq, PyData.bool.injEq, PyData.int.injEq, PyData.str.injEq, PyData.tuple.injEq, PyData.list.injEq, exists_eq_left, exists_eq_left', exists_and_left, and_true, true_and, vw_v, dataOf_nil, dataOf_cons, dataOf_map, Option.map_some, if_true, Bool.false_eq_true, if_false, setE, List.set_cons_zero, List.set_cons_succ, exists_eq', exists_eq, isiW, bw_add, bw_sub, bw_mul, bw_fdiv, bw_mod, bw_pow, bw_adds, bw_addt, bw_addl, bw_addn, bw_mull, bw_mult, uw_neg, uw_not, cw_lt, cw_lte, cw_gt, cw_gte, cw_eq, cw_ne, eq_ss, eq_ii, eq_tt, eq_ll, eq_lo, eq_nn, eq_bb, cw_in, cw_nin, bi_len, lw_tup, lw_lst, lw_str, lw_loc, bi_abs, bi_sum, bi_alls, bi_any, bi_int, bi_intb, bi_tup, bi_lst, bi_srt, bi_rpr, bi_max2, bi_min2, bi_max, bi_min, sw_tup, sw_lst, sw_loc, rw_tup, rw_lst, rw_loc, mw_app, mw_pop, mw_ext, iw, stw, seqOf_tup, seqOf_lst, lstOf_lst, intsOf_map, eqv_int, lay_int, List.length_cons, List.length_nil, permute, List.filterMap_cons, List.filterMap_nil, gd_v, Its.ok, List.not_mem_nil, List.map_cons, List.map_nil, List.cons_append, List.nil_append, List.replicate, Nat.reduceAdd, Nat.reduceSub, Nat.zero_add, Nat.reduceLT, Nat.reduceLeDiff, false_implies, implies_true, isNone, wipeE, fnW, List.cons.injEq, and_assoc, eq_self, decide_true, decide_false, Bool.not_true, Bool.not_false, Bool.true_and, Bool.false_and, Bool.and_true, Bool.and_false, Bool.or_true, Bool.true_or, Bool.or_false, Bool.false_or, beq_self_eq_true, not_true_eq_false, not_false_eq_true, up_same, up_up, Option.isSome_some, hq, hll]
    have plain := fin fs M3 g hM3 B3 hS3
    by_cases c1 : (r3 == 0) = true
    · simp only [c1, evSs, evS, evR, evL, evO, evB, evT, evTs, evSrc, asVal_val, asVal_fl, asVal_flD, asVal_fd0, asNew_fl, List.getElem?_cons_zero, List.getElem?_cons_succ, List.getElem?_nil, Option.some.injEq, D.v.injEq, D.loc.injEq, Ob.lst.injEq, PyData.bool.injEq, PyData.int.injEq, PyData.str.injEq, PyData.tuple.injEq, PyData.list.injEq, exists_eq_left, exists_eq_left', exists_and_left, and_true, true_and, vw_v, dataOf_nil, dataOf_cons, dataOf_map, Option.map_some, if_true, Bool.false_eq_true, if_false, setE, List.set_cons_zero, List.set_cons_succ, exists_eq', exists_eq, isiW, bw_add, bw_sub, bw_mul, bw_fdiv, bw_mod, bw_pow, bw_adds, bw_addt, bw_addl, bw_addn, bw_mull, bw_mult, uw_neg, uw_not, cw_lt, cw_lte, cw_gt, cw_gte, cw_eq, cw_ne, eq_ss, eq_ii, eq_tt, eq_ll, eq_lo, eq_nn, eq_bb, cw_in, cw_nin, bi_len, lw_tup, lw_lst, lw_str, lw_loc, bi_abs, bi_sum, bi_alls, bi_any, bi_int, bi_intb, bi_tup, bi_lst, bi_srt, bi_rpr, bi_max2, bi_min2, bi_max, bi_min, sw_tup, sw_lst, sw_loc, rw_tup, rw_lst, rw_loc, mw_app, mw_pop, mw_ext, iw, stw, seqOf_tup, seqOf_lst, lstOf_lst, intsOf_map, eqv_int, lay_int, List.length_cons, List.length_nil, permute, List.filterMap_cons, List.filterMap_nil, gd_v, Its.ok, List.not_mem_nil, List.map_cons, List.map_nil, List.cons_append, List.nil_append, List.replicate, Nat.reduceAdd, Nat.reduceSub, Nat.zero_add, Nat.reduceLT, Nat.reduceLeDiff, false_implies, implies_true, isNone, wipeE, fnW, List.cons.injEq, and_assoc, eq_self, decide_true, decide_false, Bool.not_true, Bool.not_false, Bool.true_and, Bool.false_and, Bool.and_true, Bool.and_false, Bool.or_true, Bool.true_or, Bool.or_false, Bool.false_or, beq_self_eq_true, not_true_eq_false, not_false_eq_true, up_same, up_up, Option.isSome_some]
      by_cases c2 : (1 : Int) < (fs.length : Int)
      · obtain ⟨gs, q, rfl⟩ : ∃ gs q, fs = gs ++ [q] := ⟨_, _, (List.dropLast_concat_getLast hne).symm⟩
        have hgs : gs ≠ [] := fun e => by rw [e] at c2; simp at c2
        have ed : dprs (gs ++ [q]) = dprs gs ++ [D.v (pr q)] := by unfold dprs; simp
        rw [ed] at hM3 hq
        have hx : ixN ((dprs gs).length + 1) (-1) = some (dprs gs).length := ixN_last
        have c2' : (1 : Int) < ((gs.length + 1 : Nat) : Int) := by rw [List.length_append] at c2; exact c2
        simp only [c2', evSs, evS, evR, evL, evO, evB, evT, evTs, evSrc, asVal_val, asVal_fl, asVal_flD, asVal_fd0, asNew_fl, List.getElem?_cons_zero, List.getElem?_cons_succ, List.getElem?_nil, Option.some.injEq, D.v.injEq, D.loc.injEq, Ob.lst.injEq, PyData.bool.injEq, PyData.int.injEq, PyData.str.injEq, PyData.tuple.injEq, PyData.list.injEq, exists_eq_left, exists_eq_left', exists_and_left, and_true, true_and, vw_v, dataOf_nil, dataOf_cons, dataOf_map, Option.map_some, if_true, Bool.false_eq_true, if_false, setE, List.set_cons_zero, List.set_cons_succ, exists_eq', exists_eq, isiW, bw_add, bw_sub, bw_mul, bw_fdiv, bw_mod, bw_pow, bw_adds, bw_addt, bw_addl, bw_addn, bw_mull, bw_mult, uw_neg, uw_not, cw_lt, cw_lte, cw_gt, cw_gte, cw_eq, cw_ne, eq_ss, eq_ii, eq_tt, eq_ll, eq_lo, eq_nn, eq_bb, cw_in, cw_nin, bi_len, lw_tup, lw_lst, lw_str, lw_loc, bi_abs, bi_sum, bi_alls, bi_any, bi_int, bi_intb, bi_tup, bi_lst, bi_srt, bi_rpr, bi_max2, bi_min2, bi_max, bi_min, sw_tup, sw_lst, sw_loc, rw_tup, rw_lst, rw_loc, mw_app, mw_pop, mw_ext, iw, stw, seqOf_tup, seqOf_lst, lstOf_lst, intsOf_map, eqv_int, lay_int, List.length_cons, List.length_nil, permute, List.filterMap_cons, List.filterMap_nil, gd_v, Its.ok, List.not_mem_nil, List.map_cons, List.map_nil, List.cons_append, List.nil_append, List.replicate, Nat.reduceAdd, Nat.reduceSub, Nat.zero_add, Nat.reduceLT, Nat.reduceLeDiff, false_implies, implies_true, isNone, wipeE, fnW, List.cons.injEq, and_assoc, eq_self, decide_true, decide_false, Bool.not_true, Bool.not_false, Bool.true_and, Bool.false_and, Bool.and_true, Bool.and_false, Bool.or_true, Bool.true_or, Bool.or_false, Bool.false_or, beq_self_eq_true, not_true_eq_false, not_false_eq_true, up_same, up_up, Option.isSome_some, ed, atI_last, pr, pair1, hM3, List.length_append, hx, up_same]
        by_cases c3 : (0 : Int) < q.2
        · simp only [c3, evSs, evS, evR, evL, evO, evB, evT, evTs, evSrc, asVal_val, asVal_fl, asVal_flD, asVal_fd0, asNew_fl, List.getElem?_cons_zero, List.getElem?_cons_succ, List.getElem?_nil, Option.some.injEq, D.v.injEq, D.loc.injEq, Ob.lst.injEq, PyData.bool.injEq, PyData.int.injEq, PyData.str.injEq, PyData.tuple.injEq, PyData.list.injEq, exists_eq_left, exists_eq_left', exists_and_left, and_true, true_and, vw_v, dataOf_nil, dataOf_cons, dataOf_map, Option.map_some, if_true, Bool.false_eq_true, if_false, setE, List.set_cons_zero, List.set_cons_succ, exists_eq', exists_eq, isiW, bw_add, bw_sub, bw_mul, bw_fdiv, bw_mod, bw_pow, bw_adds, bw_addt, bw_addl, bw_addn, bw_mull, bw_mult, uw_neg, uw_not, cw_lt, cw_lte, cw_gt, cw_gte, cw_eq, cw_ne, eq_ss, eq_ii, eq_tt, eq_ll, eq_lo, eq_nn, eq_bb, cw_in, cw_nin, bi_len, lw_tup, lw_lst, lw_str, lw_loc, bi_abs, bi_sum, bi_alls, bi_any, bi_int, bi_intb, bi_tup, bi_lst, bi_srt, bi_rpr, bi_max2, bi_min2, bi_max, bi_min, sw_tup, sw_lst, sw_loc, rw_tup, rw_lst, rw_loc, mw_app, mw_pop, mw_ext, iw, stw, seqOf_tup, seqOf_lst, lstOf_lst, intsOf_map, eqv_int, lay_int, List.length_cons, List.length_nil, permute, List.filterMap_cons, List.filterMap_nil, gd_v, Its.ok, List.not_mem_nil, List.map_cons, List.map_nil, List.cons_append, List.nil_append, List.replicate, Nat.reduceAdd, Nat.reduceSub, Nat.zero_add, Nat.reduceLT, Nat.reduceLeDiff, false_implies, implies_true, isNone, wipeE, fnW, List.cons.injEq, and_assoc, eq_self, decide_true, decide_false, Bool.not_true, Bool.not_false, Bool.true_and, Bool.false_and, Bool.and_true, Bool.and_false, Bool.or_true, Bool.true_or, Bool.or_false, Bool.false_or, beq_self_eq_true, not_true_eq_false, not_false_eq_true, up_same, up_up, Option.isSome_some]
          have hl' : (dprs gs ++ [D.v (.tuple [.int q.1, .int q.2])]).set (dprs gs).length (D.v (.tuple [.int 10000, .int q.2])) = dprs (gs ++ [(10000, q.2)]) := by rw [set_last]; unfold dprs; simp [pr]
          have hq2 : seqOf (up M3 n (Ob.lst (dprs (gs ++ [(10000, q.2)])))) (.loc n) = some (dprs (gs ++ [(10000, q.2)])) := seqOf_loc (up_same _ _ _)
          simp only [hl', hq2, dataOf_dprs, evSs, evS, evR, evL, evO, evB, evT, evTs, evSrc, asVal_val, asVal_fl, asVal_flD, asVal_fd0, asNew_fl, List.getElem?_cons_zero, List.getElem?_cons_succ, List.getElem?_nil, Option.some.injEq, D.v.injEq, D.loc.injEq, Ob.lst.injEq, PyData.bool.injEq, PyData.int.injEq, PyData.str.injEq, PyData.tuple.injEq, PyData.list.injEq, exists_eq_left, exists_eq_left', exists_and_left, and_true, true_and, vw_v, dataOf_nil, dataOf_cons, dataOf_map, Option.map_some, if_true, Bool.false_eq_true, if_false, setE, List.set_cons_zero, List.set_cons_succ, exists_eq', exists_eq, isiW, bw_add, bw_sub, bw_mul, bw_fdiv, bw_mod, bw_pow, bw_adds, bw_addt, bw_addl, bw_addn, bw_mull, bw_mult, uw_neg, uw_not, cw_lt, cw_lte, cw_gt, cw_gte, cw_eq, cw_ne, eq_ss, eq_ii, eq_tt, eq_ll, eq_lo, eq_nn, eq_bb, cw_in, cw_nin, bi_len, lw_tup, lw_lst, lw_str, lw_loc, bi_abs, bi_sum, bi_alls, bi_any, bi_int, bi_intb, bi_tup, bi_lst, bi_srt, bi_rpr, bi_max2, bi_min2, bi_max, bi_min, sw_tup, sw_lst, sw_loc, rw_tup, rw_lst, rw_loc, mw_app, mw_pop, mw_ext, iw, stw, seqOf_tup, seqOf_lst, lstOf_lst, intsOf_map, eqv_int, lay_int, List.length_cons, List.length_nil, permute, List.filterMap_cons, List.filterMap_nil, gd_v, Its.ok, List.not_mem_nil, List.map_cons, List.map_nil, List.cons_append, List.nil_append, List.replicate, Nat.reduceAdd, Nat.reduceSub, Nat.zero_add, Nat.reduceLT, Nat.reduceLeDiff, false_implies, implies_true, isNone, wipeE, fnW, List.cons.injEq, and_assoc, eq_self, decide_true, decide_false, Bool.not_true, Bool.not_false, Bool.true_and, Bool.false_and, Bool.and_true, Bool.and_false, Bool.or_true, Bool.true_or, Bool.or_false, Bool.false_or, beq_self_eq_true, not_true_eq_false, not_false_eq_true, up_same, up_up, Option.isSome_some]
          refine ⟨by omega, fin _ _ (good_last g hgs) (up_same _ _ _) (B3.up hnb.1 hnb.2) fun k k1 k2 k3 => ?_⟩
          rw [up_ne k1]; exact hS3 k k1 k2 k3
        · have e2 : (dprs gs ++ [D.v (.tuple [.int q.1, .int q.2])]) = dprs (gs ++ [q]) := by unfold dprs; simp [pr]
          simp only [c3, evSs, evS, evR, evL, evO, evB, evT, evTs, evSrc, asVal_val, asVal_fl, asVal_flD, asVal_fd0, asNew_fl, List.getElem?_cons_zero, List.getElem?_cons_succ, List.getElem?_nil, Option.some.injEq, D.v.injEq, D.loc.injEq, Ob.lst.injEq, PyData.bool.injEq, PyData.int.injEq, PyData.str.injEq, PyData.tuple.injEq, PyData.list.injEq, exists_eq_left, exists_eq_left', exists_and_left, and_true, true_and, vw_v, dataOf_nil, dataOf_cons, dataOf_map, Option.map_some, if_true, Bool.false_eq_true, if_false, setE, List.set_cons_zero, List.set_cons_succ, exists_eq', exists_eq, isiW, bw_add, bw_sub, bw_mul, bw_fdiv, bw_mod, bw_pow, bw_adds, bw_addt, bw_addl, bw_addn, bw_mull, bw_mult, uw_neg, uw_not, cw_lt, cw_lte, cw_gt, cw_gte, cw_eq, cw_ne, eq_ss, eq_ii, eq_tt, eq_ll, eq_lo, eq_nn, eq_bb, cw_in, cw_nin, bi_len, lw_tup, lw_lst, lw_str, lw_loc, bi_abs, bi_sum, bi_alls, bi_any, bi_int, bi_intb, bi_tup, bi_lst, bi_srt, bi_rpr, bi_max2, bi_min2, bi_max, bi_min, sw_tup, sw_lst, sw_loc, rw_tup, rw_lst, rw_loc, mw_app, mw_pop, mw_ext, iw, stw, seqOf_tup, seqOf_lst, lstOf_lst, intsOf_map, eqv_int, lay_int, List.length_cons, List.length_nil, permute, List.filterMap_cons, List.filterMap_nil, gd_v, Its.ok, List.not_mem_nil, List.map_cons, List.map_nil, List.cons_append, List.nil_append, List.replicate, Nat.reduceAdd, Nat.reduceSub, Nat.zero_add, Nat.reduceLT, Nat.reduceLeDiff, false_implies, implies_true, isNone, wipeE, fnW, List.cons.injEq, and_assoc, eq_self, decide_true, decide_false, Bool.not_true, Bool.not_false, Bool.true_and, Bool.false_and, Bool.and_true, Bool.and_false, Bool.or_true, Bool.true_or, Bool.or_false, Bool.false_or, beq_self_eq_true, not_true_eq_false, not_false_eq_true, up_same, up_up, Option.isSome_some, e2, dataOf_dprs]
          exact plain
      · simp only [c2, evSs, evS, evR, evL, evO, evB, evT, evTs, evSrc, asVal_val, asVal_fl, asVal_flD, asVal_fd0, asNew_fl, List.getElem?_cons_zero, List.getElem?_cons_succ, List.getElem?_nil, Option.some.injEq, D.v.injEq, D.loc.injEq, Ob.lst.injEq, PyData.bool.injEq, PyData.int.injEq, PyData.str.injEq, PyData.tuple.injEq, PyData.list.injEq, exists_eq_left, exists_eq_left', exists_and_left, and_true, true_and, vw_v, dataOf_nil, dataOf_cons, dataOf_map, Option.map_some, if_true, Bool.false_eq_true, if_false, setE, List.set_cons_zero, List.set_cons_succ, exists_eq', exists_eq, isiW, bw_add, bw_sub, bw_mul, bw_fdiv, bw_mod, bw_pow, bw_adds, bw_addt, bw_addl, bw_addn, bw_mull, bw_mult, uw_neg, uw_not, cw_lt, cw_lte, cw_gt, cw_gte, cw_eq, cw_ne, eq_ss, eq_ii, eq_tt, eq_ll, eq_lo, eq_nn, eq_bb, cw_in, cw_nin, bi_len, lw_tup, lw_lst, lw_str, lw_loc, bi_abs, bi_sum, bi_alls, bi_any, bi_int, bi_intb, bi_tup, bi_lst, bi_srt, bi_rpr, bi_max2, bi_min2, bi_max, bi_min, sw_tup, sw_lst, sw_loc, rw_tup, rw_lst, rw_loc, mw_app, mw_pop, mw_ext, iw, stw, seqOf_tup, seqOf_lst, lstOf_lst, intsOf_map, eqv_int, lay_int, List.length_cons, List.length_nil, permute, List.filterMap_cons, List.filterMap_nil, gd_v, Its.ok, List.not_mem_nil, List.map_cons, List.map_nil, List.cons_append, List.nil_append, List.replicate, Nat.reduceAdd, Nat.reduceSub, Nat.zero_add, Nat.reduceLT, Nat.reduceLeDiff, false_implies, implies_true, isNone, wipeE, fnW, List.cons.injEq, and_assoc, eq_self, decide_true, decide_false, Bool.not_true, Bool.not_false, Bool.true_and, Bool.false_and, Bool.and_true, Bool.and_false, Bool.or_true, Bool.true_or, Bool.or_false, Bool.false_or, beq_self_eq_true, not_true_eq_false, not_false_eq_true, up_same, up_up, Option.isSome_some, hq, dataOf_dprs]
        exact plain
    · have c1' : (r3 == 0) = false := by simpa using c1
      simp only [c1', evSs, evS, evR, evL, evO, evB, evT, evTs, evSrc, asVal_val, asVal_fl, asVal_flD, asVal_fd0, asNew_fl, List.getElem?_cons_zero, List.getElem?_cons_succ, List.getElem?_nil, Option.some.injEq, D.v.injEq, D.loc.injEq, Ob.lst.injEq, PyData.bool.injEq, PyData.int.injEq, PyData.str.injEq, PyData.tuple.injEq, PyData.list.injEq, exists_eq_left, exists_eq_left', exists_and_left, and_true, true_and, vw_v, dataOf_nil, dataOf_cons, dataOf_map, Option.map_some, if_true, Bool.false_eq_true, if_false, setE, List.set_cons_zero, List.set_cons_succ, exists_eq', exists_eq, isiW, bw_add, bw_sub, bw_mul, bw_fdiv, bw_mod, bw_pow, bw_adds, bw_addt, bw_addl, bw_addn, bw_mull, bw_mult, uw_neg, uw_not, cw_lt, cw_lte, cw_gt, cw_gte, cw_eq, cw_ne, eq_ss, eq_ii, eq_tt, eq_ll, eq_lo, eq_nn, eq_bb, cw_in, cw_nin, bi_len, lw_tup, lw_lst, lw_str, lw_loc, bi_abs, bi_sum, bi_alls, bi_any, bi_int, bi_intb, bi_tup, bi_lst, bi_srt, bi_rpr, bi_max2, bi_min2, bi_max, bi_min, sw_tup, sw_lst, sw_loc, rw_tup, rw_lst, rw_loc, mw_app, mw_pop, mw_ext, iw, stw, seqOf_tup, seqOf_lst, lstOf_lst, intsOf_map, eqv_int, lay_int, List.length_cons, List.length_nil, permute, List.filterMap_cons, List.filterMap_nil, gd_v, Its.ok, List.not_mem_nil, List.map_cons, List.map_nil, List.cons_append, List.nil_append, List.replicate, Nat.reduceAdd, Nat.reduceSub, Nat.zero_add, Nat.reduceLT, Nat.reduceLeDiff, false_implies, implies_true, isNone, wipeE, fnW, List.cons.injEq, and_assoc, eq_self, decide_true, decide_false, Bool.not_true, Bool.not_false, Bool.true_and, Bool.false_and, Bool.and_true, Bool.and_false, Bool.or_true, Bool.true_or, Bool.or_false, Bool.false_or, beq_self_eq_true, not_true_eq_false, not_false_eq_true, up_same, up_up, Option.isSome_some, hq, dataOf_dprs]
      exact plain
  refine forW_inv (fun rest env M' => ∃ (fs : List (Int × Int)) (least back : Int) (d5 : Option D), env = [some (.loc b), some (.v (.int (1 + r))), some (.v (.int least)), some (.v (.int back)), some (.loc n), d5] ∧ Bnd fs least back ∧ least ≤ 10000 ∧ 0 ≤ back ∧ fs.length + rest.length = xs.length ∧ (rest = [] → fs ≠ []) ∧
      M' n = some (.lst (dprs fs)) ∧ Bag M' b m ∧ ∀ k, k ≠ n → k ≠ b → k ≠ m → M' k = M k) ?_ ?_ ⟨[], 0, 10000 - r2, none, rfl, ⟨.inl ⟨rfl, rfl⟩, by simp, by simp, .nil, by omega, by omega⟩, by omega, by omega, by simp, fun e => ?_, up_same _ _ _, B2.up hnb.1 hnb.2, fun k k1 k2 k3 => ?_⟩
  · rintro x rest env M' K ⟨fs, least, back, d5, rfl, hb, hl, hb0, hc, _, hM, hB, hS⟩ hK
    rw [List.length_cons] at hc
    unfold i_law_bands_2
    have hlo : lstOf M' (.loc n) = some (dprs fs) := lstOf_loc hM
    have hll : (dprs fs).length = fs.length := by unfold dprs; simp
    have hap : dprs fs ++ [D.v (.tuple [.int least, .int back])] = dprs (fs ++ [(least, back)]) := by unfold dprs; simp [pr]
    have hB' : Bag (up M' n (.lst (dprs (fs ++ [(least, back)])))) b m := hB.up hnb.1 hnb.2
    simp only [evSs, evS, evR, evL, evO, evB, evT, evTs, evSrc, asVal_val, asVal_fl, asVal_flD, asVal_fd0, asNew_fl, List.getElem?_cons_zero, List.getElem?_cons_succ, List.getElem?_nil, Option.some.injEq, D.v.injEq, D.loc.injEq, Ob.lst.injEq, PyData.bool.injEq, PyData.int.injEq, PyData.str.injEq, PyData.tuple.injEq, PyData.list.injEq, exists_eq_left, exists_eq_left', exists_and_left, and_true, true_and, vw_v, dataOf_nil, dataOf_cons, dataOf_map, Option.map_some, if_true, Bool.false_eq_true, if_false, setE, List.set_cons_zero, List.set_cons_succ, exists_eq', exists_eq, isiW, bw_add, bw_sub, bw_mul, bw_fdiv, bw_mod, bw_pow, bw_adds, bw_addt, bw_addl, bw_addn, bw_mull, bw_mult, uw_neg, uw_not, cw_lt, cw_lte, cw_gt, cw_gte, cw_eq, cw_ne, eq_ss, eq_ii, eq_tt, eq_ll, eq_lo, eq_nn, eq_bb, cw_in, cw_nin, bi_len, lw_tup, lw_lst, lw_str, lw_loc, bi_abs, bi_sum, bi_alls, bi_any, bi_int, bi_intb, bi_tup, bi_lst, bi_srt, bi_rpr, bi_max2, bi_min2, bi_max, bi_min, sw_tup, sw_lst, sw_loc, rw_tup, rw_lst, rw_loc, mw_app, mw_pop, mw_ext, iw, stw, seqOf_tup, seqOf_lst, lstOf_lst, intsOf_map, eqv_int, lay_int, List.length_cons, List.length_nil, permute, List.filterMap_cons, List.filterMap_nil, gd_v, Its.ok, List.not_mem_nil, List.map_cons, List.map_nil, List.cons_append, List.nil_append, List.replicate, Nat.reduceAdd, Nat.reduceSub, Nat.zero_add, Nat.reduceLT, Nat.reduceLeDiff, false_implies, implies_true, isNone, wipeE, fnW, List.cons.injEq, and_assoc, eq_self, decide_true, decide_false, Bool.not_true, Bool.not_false, Bool.true_and, Bool.false_and, Bool.and_true, Bool.and_false, Bool.or_true, Bool.true_or, Bool.or_false, Bool.false_or, beq_self_eq_true, not_true_eq_false, not_false_eq_true, up_same, up_up, Option.isSome_some, hlo, Option.isSome_some, hM, hll, hT, hap]
    refine ⟨by omega, by omega, b, m, 2500, rfl, by omega, by omega, hB', fun r4 M4 r40 r41 B4 S4 => ?_⟩
    simp only [evSs, evS, evR, evL, evO, evB, evT, evTs, evSrc, asVal_val, asVal_fl, asVal_flD, asVal_fd0, asNew_fl, List.getElem?_cons_zero, List.getElem?_cons_succ, List.getElem?_nil, Option.some.injEq, D.v.injEq, D.loc.injEq, Ob.lst.injEq, PyData.bool.injEq, PyData.int.injEq, PyData.str.injEq, PyData.tuple.injEq, PyData.list.injEq, exists_eq_left, exists_eq_left', exists_and_left, and_true, true_and, vw_v, dataOf_nil, dataOf_cons, dataOf_map, Option.map_some, if_true, Bool.false_eq_true, if_false, setE, List.set_cons_zero, List.set_cons_succ, exists_eq', exists_eq, isiW, bw_add, bw_sub, bw_mul, bw_fdiv, bw_mod, bw_pow, bw_adds, bw_addt, bw_addl, bw_addn, bw_mull, bw_mult, uw_neg, uw_not, cw_lt, cw_lte, cw_gt, cw_gte, cw_eq, cw_ne, eq_ss, eq_ii, eq_tt, eq_ll, eq_lo, eq_nn, eq_bb, cw_in, cw_nin, bi_len, lw_tup, lw_lst, lw_str, lw_loc, bi_abs, bi_sum, bi_alls, bi_any, bi_int, bi_intb, bi_tup, bi_lst, bi_srt, bi_rpr, bi_max2, bi_min2, bi_max, bi_min, sw_tup, sw_lst, sw_loc, rw_tup, rw_lst, rw_loc, mw_app, mw_pop, mw_ext, iw, stw, seqOf_tup, seqOf_lst, lstOf_lst, intsOf_map, eqv_int, lay_int, List.length_cons, List.length_nil, permute, List.filterMap_cons, List.filterMap_nil, gd_v, Its.ok, List.not_mem_nil, List.map_cons, List.map_nil, List.cons_append, List.nil_append, List.replicate, Nat.reduceAdd, Nat.reduceSub, Nat.zero_add, Nat.reduceLT, Nat.reduceLeDiff, false_implies, implies_true, isNone, wipeE, fnW, List.cons.injEq, and_assoc, eq_self, decide_true, decide_false, Bool.not_true, Bool.not_false, Bool.true_and, Bool.false_and, Bool.and_true, Bool.and_false, Bool.or_true, Bool.true_or, Bool.or_false, Bool.false_or, beq_self_eq_true, not_true_eq_false, not_false_eq_true, up_same, up_up, Option.isSome_some, hT]
    refine ⟨b, m, 2500, rfl, by omega, by omega, B4, fun r5 M5 r50 r51 B5 S5 => ?_⟩
    have hM5 : M5 n = some (.lst (dprs (fs ++ [(least, back)]))) := by rw [S5 n hnb.1 hnb.2, S4 n hnb.1 hnb.2, up_same]
    have hS5 : ∀ k, k ≠ n → k ≠ b → k ≠ m → M5 k = M k := fun k k1 k2 k3 => by rw [S5 k k2 k3, S4 k k2 k3, up_ne k1, hS k k1 k2 k3]
    have hb2 := hb.push (l2 := least + 1 + r4) (b2 := back - 1 - r5) hl hb0 (by omega) (by omega)
    have brk := last [some (.loc b), some (.v (.int (1 + r))), some (.v (.int (least + 1 + r4))), some (.v (.int (back - 1 - r5))), some (.loc n), some x] M5 (fs ++ [(least, back)]) _ _ _ _ (by simp) ⟨_, _, hb2⟩ (by rw [List.length_append]; simp; omega) hM5 B5 hS5 rfl
    simp only [evSs, evS, evR, evL, evO, evB, evT, evTs, evSrc, asVal_val, asVal_fl, asVal_flD, asVal_fd0, asNew_fl, List.getElem?_cons_zero, List.getElem?_cons_succ, List.getElem?_nil, Option.some.injEq, D.v.injEq, D.loc.injEq, Ob.lst.injEq, PyData.bool.injEq, PyData.int.injEq, PyData.str.injEq, PyData.tuple.injEq, PyData.list.injEq, exists_eq_left, exists_eq_left', exists_and_left, and_true, true_and, vw_v, dataOf_nil, dataOf_cons, dataOf_map, Option.map_some, if_true, Bool.false_eq_true, if_false, setE, List.set_cons_zero, List.set_cons_succ, exists_eq', exists_eq, isiW, bw_add, bw_sub, bw_mul, bw_fdiv, bw_mod, bw_pow, bw_adds, bw_addt, bw_addl, bw_addn, bw_mull, bw_mult, uw_neg, uw_not, cw_lt, cw_lte, cw_gt, cw_gte, cw_eq, cw_ne, eq_ss, eq_ii, eq_tt, eq_ll, eq_lo, eq_nn, eq_bb, cw_in, cw_nin, bi_len, lw_tup, lw_lst, lw_str, lw_loc, bi_abs, bi_sum, bi_alls, bi_any, bi_int, bi_intb, bi_tup, bi_lst, bi_srt, bi_rpr, bi_max2, bi_min2, bi_max, bi_min, sw_tup, sw_lst, sw_loc, rw_tup, rw_lst, rw_loc, mw_app, mw_pop, mw_ext, iw, stw, seqOf_tup, seqOf_lst, lstOf_lst, intsOf_map, eqv_int, lay_int, List.length_cons, List.length_nil, permute, List.filterMap_cons, List.filterMap_nil, gd_v, Its.ok, List.not_mem_nil, List.map_cons, List.map_nil, List.cons_append, List.nil_append, List.replicate, Nat.reduceAdd, Nat.reduceSub, Nat.zero_add, Nat.reduceLT, Nat.reduceLeDiff, false_implies, implies_true, isNone, wipeE, fnW, List.cons.injEq, and_assoc, eq_self, decide_true, decide_false, Bool.not_true, Bool.not_false, Bool.true_and, Bool.false_and, Bool.and_true, Bool.and_false, Bool.or_true, Bool.true_or, Bool.or_false, Bool.false_or, beq_self_eq_true, not_true_eq_false, not_false_eq_true, up_same, up_up, Option.isSome_some]
    by_cases c1 : 10000 < least + 1 + r4
    · simp only [c1, evSs, evS, evR, evL, evO, evB, evT, evTs, evSrc, asVal_val, asVal_fl, asVal_flD, asVal_fd0, asNew_fl, List.getElem?_cons_zero, List.getElem?_cons_succ, List.getElem?_nil, Option.some.injEq, D.v.injEq, D.loc.injEq, Ob.lst.injEq, PyData.bool.injEq, PyData.int.injEq, PyData.str.injEq, PyData.tuple.injEq, PyData.list.injEq, exists_eq_left, exists_eq_left', exists_and_left, and_true, true_and, vw_v, dataOf_nil, dataOf_cons, dataOf_map, Option.map_some, if_true, Bool.false_eq_true, if_false, setE, List.set_cons_zero, List.set_cons_succ, exists_eq', exists_eq, isiW, bw_add, bw_sub, bw_mul, bw_fdiv, bw_mod, bw_pow, bw_adds, bw_addt, bw_addl, bw_addn, bw_mull, bw_mult, uw_neg, uw_not, cw_lt, cw_lte, cw_gt, cw_gte, cw_eq, cw_ne, eq_ss, eq_ii, eq_tt, eq_ll, eq_lo, eq_nn, eq_bb, cw_in, cw_nin, bi_len, lw_tup, lw_lst, lw_str, lw_loc, bi_abs, bi_sum, bi_alls, bi_any, bi_int, bi_intb, bi_tup, bi_lst, bi_srt, bi_rpr, bi_max2, bi_min2, bi_max, bi_min, sw_tup, sw_lst, sw_loc, rw_tup, rw_lst, rw_loc, mw_app, mw_pop, mw_ext, iw, stw, seqOf_tup, seqOf_lst, lstOf_lst, intsOf_map, eqv_int, lay_int, List.length_cons, List.length_nil, permute, List.filterMap_cons, List.filterMap_nil, gd_v, Its.ok, List.not_mem_nil, List.map_cons, List.map_nil, List.cons_append, List.nil_append, List.replicate, Nat.reduceAdd, Nat.reduceSub, Nat.zero_add, Nat.reduceLT, Nat.reduceLeDiff, false_implies, implies_true, isNone, wipeE, fnW, List.cons.injEq, and_assoc, eq_self, decide_true, decide_false, Bool.not_true, Bool.not_false, Bool.true_and, Bool.false_and, Bool.and_true, Bool.and_false, Bool.or_true, Bool.true_or, Bool.or_false, Bool.false_or, beq_self_eq_true, not_true_eq_false, not_false_eq_true, up_same, up_up, Option.isSome_some]
      exact ⟨by omega, brk⟩
    · by_cases c2 : back - 1 - r5 < 0
      · simp only [c1, c2, evSs, evS, evR, evL, evO, evB, evT, evTs, evSrc, asVal_val, asVal_fl, asVal_flD, asVal_fd0, asNew_fl, List.getElem?_cons_zero, List.getElem?_cons_succ, List.getElem?_nil, Option.some.injEq, D.v.injEq, D.loc.injEq, Ob.lst.injEq, PyData.bool.injEq, PyData.int.injEq, PyData.str.injEq, PyData.tuple.injEq, PyData.list.injEq, exists_eq_left, exists_eq_left', exists_and_left, and_true, true_and, vw_v, dataOf_nil, dataOf_cons, dataOf_map, Option.map_some, if_true, Bool.false_eq_true, if_false, setE, List.set_cons_zero, List.set_cons_succ, exists_eq', exists_eq, isiW, bw_add, bw_sub, bw_mul, bw_fdiv, bw_mod, bw_pow, bw_adds, bw_addt, bw_addl, bw_addn, bw_mull, bw_mult, uw_neg, uw_not, cw_lt, cw_lte, cw_gt, cw_gte, cw_eq, cw_ne, eq_ss, eq_ii, eq_tt, eq_ll, eq_lo, eq_nn, eq_bb, cw_in, cw_nin, bi_len, lw_tup, lw_lst, lw_str, lw_loc, bi_abs, bi_sum, bi_alls, bi_any, bi_int, bi_intb, bi_tup, bi_lst, bi_srt, bi_rpr, bi_max2, bi_min2, bi_max, bi_min, sw_tup, sw_lst, sw_loc, rw_tup, rw_lst, rw_loc, mw_app, mw_pop, mw_ext, iw, stw, seqOf_tup, seqOf_lst, lstOf_lst, intsOf_map, eqv_int, lay_int, List.length_cons, List.length_nil, permute, List.filterMap_cons, List.filterMap_nil, gd_v, Its.ok, List.not_mem_nil, List.map_cons, List.map_nil, List.cons_append, List.nil_append, List.replicate, Nat.reduceAdd, Nat.reduceSub, Nat.zero_add, Nat.reduceLT, Nat.reduceLeDiff, false_implies, implies_true, isNone, wipeE, fnW, List.cons.injEq, and_assoc, eq_self, decide_true, decide_false, Bool.not_true, Bool.not_false, Bool.true_and, Bool.false_and, Bool.and_true, Bool.and_false, Bool.or_true, Bool.true_or, Bool.or_false, Bool.false_or, beq_self_eq_true, not_true_eq_false, not_false_eq_true, up_same, up_up, Option.isSome_some]
        exact ⟨by omega, brk⟩
      · simp only [c1, c2, evSs, evS, evR, evL, evO, evB, evT, evTs, evSrc, asVal_val, asVal_fl, asVal_flD, asVal_fd0, asNew_fl, List.getElem?_cons_zero, List.getElem?_cons_succ, List.getElem?_nil, Option.some.injEq, D.v.injEq, D.loc.injEq, Ob.lst.injEq, PyData.bool.injEq, PyData.int.injEq, PyData.str.injEq, PyData.tuple.injEq, PyData.list.injEq, exists_eq_left, exists_eq_left', exists_and_left, and_true, true_and, vw_v, dataOf_nil, dataOf_cons, dataOf_map, Option.map_some, if_true, Bool.false_eq_true, if_false, setE, List.set_cons_zero, List.set_cons_succ, exists_eq', exists_eq, isiW, bw_add, bw_sub, bw_mul, bw_fdiv, bw_mod, bw_pow, bw_adds, bw_addt, bw_addl, bw_addn, bw_mull, bw_mult, uw_neg, uw_not, cw_lt, cw_lte, cw_gt, cw_gte, cw_eq, cw_ne, eq_ss, eq_ii, eq_tt, eq_ll, eq_lo, eq_nn, eq_bb, cw_in, cw_nin, bi_len, lw_tup, lw_lst, lw_str, lw_loc, bi_abs, bi_sum, bi_alls, bi_any, bi_int, bi_intb, bi_tup, bi_lst, bi_srt, bi_rpr, bi_max2, bi_min2, bi_max, bi_min, sw_tup, sw_lst, sw_loc, rw_tup, rw_lst, rw_loc, mw_app, mw_pop, mw_ext, iw, stw, seqOf_tup, seqOf_lst, lstOf_lst, intsOf_map, eqv_int, lay_int, List.length_cons, List.length_nil, permute, List.filterMap_cons, List.filterMap_nil, gd_v, Its.ok, List.not_mem_nil, List.map_cons, List.map_nil, List.cons_append, List.nil_append, List.replicate, Nat.reduceAdd, Nat.reduceSub, Nat.zero_add, Nat.reduceLT, Nat.reduceLeDiff, false_implies, implies_true, isNone, wipeE, fnW, List.cons.injEq, and_assoc, eq_self, decide_true, decide_false, Bool.not_true, Bool.not_false, Bool.true_and, Bool.false_and, Bool.and_true, Bool.and_false, Bool.or_true, Bool.true_or, Bool.or_false, Bool.false_or, beq_self_eq_true, not_true_eq_false, not_false_eq_true, up_same, up_up, Option.isSome_some]
        exact ⟨by omega, hK _ _ ⟨fs ++ [(least, back)], _, _, _, rfl, hb2, by omega, by omega, by rw [List.length_append]; simp; omega, fun _ => by simp, hM5, B5, hS5⟩⟩
  · rintro env M' ⟨fs, least, back, d5, rfl, hb, hl, hb0, hc, hne, hM, hB, hS⟩
    simp only [List.length_nil, Nat.add_zero] at hc
    exact ⟨by simp only [evSs, evS, evR, evL, evO, evB, evT, evTs, evSrc, asVal_val, asVal_fl, asVal_flD, asVal_fd0, asNew_fl, List.getElem?_cons_zero, List.getElem?_cons_succ, List.getElem?_nil, Option.some.injEq, D.v.injEq, D.loc.injEq, Ob.lst.injEq, PyData.bool.injEq, PyData.int.injEq, PyData.str.injEq, PyData.tuple.injEq, PyData.list.injEq, exists_eq_left, exists_eq_left', exists_and_left, and_true, true_and, vw_v, dataOf_nil, dataOf_cons, dataOf_map, Option.map_some, if_true, Bool.false_eq_true, if_false, setE, List.set_cons_zero, List.set_cons_succ, exists_eq', exists_eq, isiW, bw_add, bw_sub, bw_mul, bw_fdiv, bw_mod, bw_pow, bw_adds, bw_addt, bw_addl, bw_addn, bw_mull, bw_mult, uw_neg, uw_not, cw_lt, cw_lte, cw_gt, cw_gte, cw_eq, cw_ne, eq_ss, eq_ii, eq_tt, eq_ll, eq_lo, eq_nn, eq_bb, cw_in, cw_nin, bi_len, lw_tup, lw_lst, lw_str, lw_loc, bi_abs, bi_sum, bi_alls, bi_any, bi_int, bi_intb, bi_tup, bi_lst, bi_srt, bi_rpr, bi_max2, bi_min2, bi_max, bi_min, sw_tup, sw_lst, sw_loc, rw_tup, rw_lst, rw_loc, mw_app, mw_pop, mw_ext, iw, stw, seqOf_tup, seqOf_lst, lstOf_lst, intsOf_map, eqv_int, lay_int, List.length_cons, List.length_nil, permute, List.filterMap_cons, List.filterMap_nil, gd_v, Its.ok, List.not_mem_nil, List.map_cons, List.map_nil, List.cons_append, List.nil_append, List.replicate, Nat.reduceAdd, Nat.reduceSub, Nat.zero_add, Nat.reduceLT, Nat.reduceLeDiff, false_implies, implies_true, isNone, wipeE, fnW, List.cons.injEq, and_assoc, eq_self, decide_true, decide_false, Bool.not_true, Bool.not_false, Bool.true_and, Bool.false_and, Bool.and_true, Bool.and_false, Bool.or_true, Bool.true_or, Bool.or_false, Bool.false_or, beq_self_eq_true, not_true_eq_false, not_false_eq_true, up_same, up_up, Option.isSome_some], last _ M' fs _ _ _ _ (hne rfl) ⟨_, _, hb⟩ (by omega) hM hB hS rfl⟩
  · rw [e] at hlen; simp at hlen; omega
  · rw [up_ne k1, S2 k k2 k3, S1 k k2 k3]
end Lw

namespace Lw
open PySem L2 Pd PyProof.Rows
structure IsBand (bs : List (Int × Int)) (kept total : Int) (k : Nat) : Prop where
  lt : k < bs.length
  le : total * (bs.getD k (0, 0)).1 ≤ 10000 * kept
  gt : ∀ j, k < j → j < bs.length → 10000 * kept < total * (bs.getD j (0, 0)).1
theorem IsBand.uniq {bs : List (Int × Int)} {kept total : Int} {k j : Nat} (h : IsBand bs kept total k) (h2 : IsBand bs kept total j) : k = j := by
  rcases Nat.lt_trichotomy k j with q | q | q
  · have := h.gt j q h2.lt; have := h2.le; omega
  · exact q
  · have := h2.gt k q h.lt; have := h.le; omega
theorem intsOf_nats (l : List ((Int × Int) × Nat)) : Pd.intsOf (l.map fun q => D.v (.int q.2)) = some (l.map fun q => (q.2 : Int)) := by
  have : (l.map fun q => D.v (.int q.2)) = dints (l.map fun q => (q.2 : Int)) := by unfold dints; rw [List.map_map]; rfl
  rw [this]; exact intsOf_dints _
theorem dataOf_nats (l : List ((Int × Int) × Nat)) : Pd.dataOf (l.map fun q => D.v (.int q.2)) = some (pints (l.map fun q => (q.2 : Int))) := by
  have : (l.map fun q => D.v (.int q.2)) = dints (l.map fun q => (q.2 : Int)) := by unfold dints; rw [List.map_map]; rfl
  rw [this]; exact dataOf_dints _
def spBand : FS := fun ds M P _ => ∃ bs kept total, ds = [.v (.tuple (bs.map pr)), .v (.int kept), .v (.int total)] ∧ Good bs ∧ 0 ≤ kept ∧ ∀ k : Nat, IsBand bs kept total k → P (.v (.int k)) M
theorem ok_law_band (T : Tb) : ∀ ds M P PX, spBand ds M P PX → fnW true T 6 3 i_law_band ds M P PX := by
  rintro _ M P PX ⟨bs, kept, total, rfl, g, hk, h⟩
  have hz := sizeLine_eq
  have hl := g.len
  unfold i_law_band
  simp only [evSs, evS, evR, evL, evO, evB, evT, evTs, evSrc, asVal_val, asVal_fl, asVal_flD, asVal_fd0, asNew_fl, List.getElem?_cons_zero, List.getElem?_cons_succ, List.getElem?_nil, Option.some.injEq, D.v.injEq, D.loc.injEq, Ob.lst.injEq, PyData.bool.injEq, PyData.int.injEq, PyData.str.injEq, PyData.tuple.injEq, PyData.list.injEq, exists_eq_left, exists_eq_left', exists_and_left, and_true, true_and, vw_v, dataOf_nil, dataOf_cons, dataOf_map, Option.map_some, if_true, Bool.false_eq_true, if_false, setE, List.set_cons_zero, List.set_cons_succ, exists_eq', exists_eq, isiW, bw_add, bw_sub, bw_mul, bw_fdiv, bw_mod, bw_pow, bw_adds, bw_addt, bw_addl, bw_addn, bw_mull, bw_mult, uw_neg, uw_not, cw_lt, cw_lte, cw_gt, cw_gte, cw_eq, cw_ne, eq_ss, eq_ii, eq_tt, eq_ll, eq_lo, eq_nn, eq_bb, cw_in, cw_nin, bi_len, lw_tup, lw_lst, lw_str, lw_loc, bi_abs, bi_sum, bi_alls, bi_any, bi_int, bi_intb, bi_tup, bi_lst, bi_srt, bi_rpr, bi_max2, bi_min2, bi_max, bi_min, sw_tup, sw_lst, sw_loc, rw_tup, rw_lst, rw_loc, mw_app, mw_pop, mw_ext, iw, stw, seqOf_tup, seqOf_lst, lstOf_lst, intsOf_map, eqv_int, lay_int, List.length_cons, List.length_nil, permute, List.filterMap_cons, List.filterMap_nil, gd_v, Its.ok, List.not_mem_nil, List.map_cons, List.map_nil, List.cons_append, List.nil_append, List.replicate, Nat.reduceAdd, Nat.reduceSub, Nat.zero_add, Nat.reduceLT, Nat.reduceLeDiff, false_implies, implies_true, isNone, wipeE, fnW, List.cons.injEq, and_assoc, eq_self, decide_true, decide_false, Bool.not_true, Bool.not_false, Bool.true_and, Bool.false_and, Bool.and_true, Bool.and_false, Bool.or_true, Bool.true_or, Bool.or_false, Bool.false_or, beq_self_eq_true, not_true_eq_false, not_false_eq_true, up_same, up_up, Option.isSome_some, enum_data]
  simp only [List.zipIdx_map, List.map_map]
  refine compW_if (xs := bs.zipIdx) (fun q => D.v (.tuple [.int q.2, pr q.1])) (fun q => decide (total * q.1.1 ≤ 10000 * kept)) (fun q => D.v (.int q.2)) trivial (by rw [List.length_zipIdx]; omega) (fun q hq k k0 hk hk0 => ?_) ?_
  · have hm := g.rng q.1 (List.fst_mem_of_mem_zipIdx hq)
    simp only [evSs, evS, evR, evL, evO, evB, evT, evTs, evSrc, asVal_val, asVal_fl, asVal_flD, asVal_fd0, asNew_fl, List.getElem?_cons_zero, List.getElem?_cons_succ, List.getElem?_nil, Option.some.injEq, D.v.injEq, D.loc.injEq, Ob.lst.injEq, PyData.bool.injEq, PyData.int.injEq, PyData.str.injEq, PyData.tuple.injEq, PyData.list.injEq, exists_eq_left, exists_eq_left', exists_and_left, and_true, true_and, vw_v, dataOf_nil, dataOf_cons, dataOf_map, Option.map_some, if_true, Bool.false_eq_true, if_false, setE, List.set_cons_zero, List.set_cons_succ, exists_eq', exists_eq, isiW, bw_add, bw_sub, bw_mul, bw_fdiv, bw_mod, bw_pow, bw_adds, bw_addt, bw_addl, bw_addn, bw_mull, bw_mult, uw_neg, uw_not, cw_lt, cw_lte, cw_gt, cw_gte, cw_eq, cw_ne, eq_ss, eq_ii, eq_tt, eq_ll, eq_lo, eq_nn, eq_bb, cw_in, cw_nin, bi_len, lw_tup, lw_lst, lw_str, lw_loc, bi_abs, bi_sum, bi_alls, bi_any, bi_int, bi_intb, bi_tup, bi_lst, bi_srt, bi_rpr, bi_max2, bi_min2, bi_max, bi_min, sw_tup, sw_lst, sw_loc, rw_tup, rw_lst, rw_loc, mw_app, mw_pop, mw_ext, iw, stw, seqOf_tup, seqOf_lst, lstOf_lst, intsOf_map, eqv_int, lay_int, List.length_cons, List.length_nil, permute, List.filterMap_cons, List.filterMap_nil, gd_v, Its.ok, List.not_mem_nil, List.map_cons, List.map_nil, List.cons_append, List.nil_append, List.replicate, Nat.reduceAdd, Nat.reduceSub, Nat.zero_add, Nat.reduceLT, Nat.reduceLeDiff, false_implies, implies_true, isNone, wipeE, fnW, List.cons.injEq, and_assoc, eq_self, decide_true, decide_false, Bool.not_true, Bool.not_false, Bool.true_and, Bool.false_and, Bool.and_true, Bool.and_false, Bool.or_true, Bool.true_or, Bool.or_false, Bool.false_or, beq_self_eq_true, not_true_eq_false, not_false_eq_true, up_same, up_up, Option.isSome_some, pr]
    refine ⟨.inr (by omega), .inl (by omega), ?_⟩
    by_cases c : total * q.1.1 ≤ 10000 * kept
    · simp only [c, evSs, evS, evR, evL, evO, evB, evT, evTs, evSrc, asVal_val, asVal_fl, asVal_flD, asVal_fd0, asNew_fl, List.getElem?_cons_zero, List.getElem?_cons_succ, List.getElem?_nil, Option.some.injEq, D.v.injEq, D.loc.injEq, Ob.lst.injEq, PyData.bool.injEq, PyData.int.injEq, PyData.str.injEq, PyData.tuple.injEq, PyData.list.injEq, exists_eq_left, exists_eq_left', exists_and_left, and_true, true_and, vw_v, dataOf_nil, dataOf_cons, dataOf_map, Option.map_some, if_true, Bool.false_eq_true, if_false, setE, List.set_cons_zero, List.set_cons_succ, exists_eq', exists_eq, isiW, bw_add, bw_sub, bw_mul, bw_fdiv, bw_mod, bw_pow, bw_adds, bw_addt, bw_addl, bw_addn, bw_mull, bw_mult, uw_neg, uw_not, cw_lt, cw_lte, cw_gt, cw_gte, cw_eq, cw_ne, eq_ss, eq_ii, eq_tt, eq_ll, eq_lo, eq_nn, eq_bb, cw_in, cw_nin, bi_len, lw_tup, lw_lst, lw_str, lw_loc, bi_abs, bi_sum, bi_alls, bi_any, bi_int, bi_intb, bi_tup, bi_lst, bi_srt, bi_rpr, bi_max2, bi_min2, bi_max, bi_min, sw_tup, sw_lst, sw_loc, rw_tup, rw_lst, rw_loc, mw_app, mw_pop, mw_ext, iw, stw, seqOf_tup, seqOf_lst, lstOf_lst, intsOf_map, eqv_int, lay_int, List.length_cons, List.length_nil, permute, List.filterMap_cons, List.filterMap_nil, gd_v, Its.ok, List.not_mem_nil, List.map_cons, List.map_nil, List.cons_append, List.nil_append, List.replicate, Nat.reduceAdd, Nat.reduceSub, Nat.zero_add, Nat.reduceLT, Nat.reduceLeDiff, false_implies, implies_true, isNone, wipeE, fnW, List.cons.injEq, and_assoc, eq_self, decide_true, decide_false, Bool.not_true, Bool.not_false, Bool.true_and, Bool.false_and, Bool.and_true, Bool.and_false, Bool.or_true, Bool.true_or, Bool.or_false, Bool.false_or, beq_self_eq_true, not_true_eq_false, not_false_eq_true, up_same, up_up, Option.isSome_some] at hk ⊢; exact hk trivial
    · simp only [c, evSs, evS, evR, evL, evO, evB, evT, evTs, evSrc, asVal_val, asVal_fl, asVal_flD, asVal_fd0, asNew_fl, List.getElem?_cons_zero, List.getElem?_cons_succ, List.getElem?_nil, Option.some.injEq, D.v.injEq, D.loc.injEq, Ob.lst.injEq, PyData.bool.injEq, PyData.int.injEq, PyData.str.injEq, PyData.tuple.injEq, PyData.list.injEq, exists_eq_left, exists_eq_left', exists_and_left, and_true, true_and, vw_v, dataOf_nil, dataOf_cons, dataOf_map, Option.map_some, if_true, Bool.false_eq_true, if_false, setE, List.set_cons_zero, List.set_cons_succ, exists_eq', exists_eq, isiW, bw_add, bw_sub, bw_mul, bw_fdiv, bw_mod, bw_pow, bw_adds, bw_addt, bw_addl, bw_addn, bw_mull, bw_mult, uw_neg, uw_not, cw_lt, cw_lte, cw_gt, cw_gte, cw_eq, cw_ne, eq_ss, eq_ii, eq_tt, eq_ll, eq_lo, eq_nn, eq_bb, cw_in, cw_nin, bi_len, lw_tup, lw_lst, lw_str, lw_loc, bi_abs, bi_sum, bi_alls, bi_any, bi_int, bi_intb, bi_tup, bi_lst, bi_srt, bi_rpr, bi_max2, bi_min2, bi_max, bi_min, sw_tup, sw_lst, sw_loc, rw_tup, rw_lst, rw_loc, mw_app, mw_pop, mw_ext, iw, stw, seqOf_tup, seqOf_lst, lstOf_lst, intsOf_map, eqv_int, lay_int, List.length_cons, List.length_nil, permute, List.filterMap_cons, List.filterMap_nil, gd_v, Its.ok, List.not_mem_nil, List.map_cons, List.map_nil, List.cons_append, List.nil_append, List.replicate, Nat.reduceAdd, Nat.reduceSub, Nat.zero_add, Nat.reduceLT, Nat.reduceLeDiff, false_implies, implies_true, isNone, wipeE, fnW, List.cons.injEq, and_assoc, eq_self, decide_true, decide_false, Bool.not_true, Bool.not_false, Bool.true_and, Bool.false_and, Bool.and_true, Bool.and_false, Bool.or_true, Bool.true_or, Bool.or_false, Bool.false_or, beq_self_eq_true, not_true_eq_false, not_false_eq_true, up_same, up_up, Option.isSome_some] at hk0 ⊢; exact hk0 trivial
  · simp only [evSs, evS, evR, evL, evO, evB, evT, evTs, evSrc, asVal_val, asVal_fl, asVal_flD, asVal_fd0, asNew_fl, List.getElem?_cons_zero, List.getElem?_cons_succ, List.getElem?_nil, Option.some.injEq, D.v.injEq, D.loc.injEq, Ob.lst.injEq, PyData.bool.injEq, PyData.int.injEq, PyData.str.injEq, PyData.tuple.injEq, PyData.list.injEq, exists_eq_left, exists_eq_left', exists_and_left, and_true, true_and, vw_v, dataOf_nil, dataOf_cons, dataOf_map, Option.map_some, if_true, Bool.false_eq_true, if_false, setE, List.set_cons_zero, List.set_cons_succ, exists_eq', exists_eq, isiW, bw_add, bw_sub, bw_mul, bw_fdiv, bw_mod, bw_pow, bw_adds, bw_addt, bw_addl, bw_addn, bw_mull, bw_mult, uw_neg, uw_not, cw_lt, cw_lte, cw_gt, cw_gte, cw_eq, cw_ne, eq_ss, eq_ii, eq_tt, eq_ll, eq_lo, eq_nn, eq_bb, cw_in, cw_nin, bi_len, lw_tup, lw_lst, lw_str, lw_loc, bi_abs, bi_sum, bi_alls, bi_any, bi_int, bi_intb, bi_tup, bi_lst, bi_srt, bi_rpr, bi_max2, bi_min2, bi_max, bi_min, sw_tup, sw_lst, sw_loc, rw_tup, rw_lst, rw_loc, mw_app, mw_pop, mw_ext, iw, stw, seqOf_tup, seqOf_lst, lstOf_lst, intsOf_map, eqv_int, lay_int, List.length_cons, List.length_nil, permute, List.filterMap_cons, List.filterMap_nil, gd_v, Its.ok, List.not_mem_nil, List.map_cons, List.map_nil, List.cons_append, List.nil_append, List.replicate, Nat.reduceAdd, Nat.reduceSub, Nat.zero_add, Nat.reduceLT, Nat.reduceLeDiff, false_implies, implies_true, isNone, wipeE, fnW, List.cons.injEq, and_assoc, eq_self, decide_true, decide_false, Bool.not_true, Bool.not_false, Bool.true_and, Bool.false_and, Bool.and_true, Bool.and_false, Bool.or_true, Bool.true_or, Bool.or_false, Bool.false_or, beq_self_eq_true, not_true_eq_false, not_false_eq_true, up_same, up_up, Option.isSome_some, dataOf_nats, map_pints, intsOf_dints]
    have h0 : ((bs.getD 0 (0, 0)), 0) ∈ bs.zipIdx := by
      rw [List.mem_zipIdx_iff_getElem?, Pd.getD_at g.ne]; exact List.getElem?_eq_getElem g.ne
    refine ⟨?_, fun mx hm hmax => ?_⟩
    · refine List.length_pos_iff.mpr fun e => ?_
      have : ((0 : Nat) : Int) ∈ (bs.zipIdx.filter fun q => decide (total * q.1.1 ≤ 10000 * kept)).map fun q => (q.2 : Int) := List.mem_map.mpr ⟨_, List.mem_filter.mpr ⟨h0, by
        rw [decide_eq_true_eq, g.h0]; omega⟩, rfl⟩
      rw [e] at this; cases this
    · obtain ⟨q, hq, rfl⟩ := List.mem_map.mp hm
      obtain ⟨hq1, hq2⟩ := List.mem_filter.mp hq
      rw [decide_eq_true_eq] at hq2
      have hq3 := List.mem_zipIdx_iff_getElem?.mp hq1
      obtain ⟨hlt, he⟩ := List.getElem?_eq_some_iff.mp hq3
      refine exit_raw (h q.2 ⟨hlt, by rw [Pd.getD_at hlt, he]; exact hq2, fun j h1 h2 => ?_⟩)
      refine Int.not_le.mp fun hle => ?_
      have : ((j : Nat) : Int) ∈ (bs.zipIdx.filter fun q => decide (total * q.1.1 ≤ 10000 * kept)).map fun q => (q.2 : Int) := List.mem_map.mpr ⟨((bs.getD j (0, 0)), j), List.mem_filter.mpr ⟨by
        rw [List.mem_zipIdx_iff_getElem?, Pd.getD_at h2]; exact List.getElem?_eq_getElem h2, by rw [decide_eq_true_eq]; exact hle⟩, rfl⟩
      have := hmax _ this
      omega
theorem ok_band_of (T : Tb) : ∀ ds M P PX, spBand ds M P PX → fnW true T 6 3 i_band_of ds M P PX := ok_law_band T
def spOwed : FS := fun ds M P _ => ∃ bs kept total price, ds = [.v (.tuple (bs.map pr)), .v (.int kept), .v (.int total), .v (.int price)] ∧ Good bs ∧ 0 ≤ kept ∧ 0 ≤ price ∧ price ≤ 1000000 ∧ ∀ k : Nat, IsBand bs kept total k → P (.v (.int ((2 * price * (bs.getD k (0, 0)).2 + 10000) / 20000))) M
theorem ok_owed (T : Tb) (hT : T "band_of" = spBand) : ∀ ds M P PX, spOwed ds M P PX → fnW true T 5 4 i_owed ds M P PX := by
  rintro _ M P PX ⟨bs, kept, total, price, rfl, g, hk, p0, p1, h⟩
  unfold i_owed
  simp only [evSs, evS, evR, evL, evO, evB, evT, evTs, evSrc, asVal_val, asVal_fl, asVal_flD, asVal_fd0, asNew_fl, List.getElem?_cons_zero, List.getElem?_cons_succ, List.getElem?_nil, Option.some.injEq, D.v.injEq, D.loc.injEq, Ob.lst.injEq, PyData.bool.injEq, PyData.int.injEq, PyData.str.injEq, PyData.tuple.injEq, PyData.list.injEq, exists_eq_left, exists_eq_left', exists_and_left, and_true, true_and, vw_v, dataOf_nil, dataOf_cons, dataOf_map, Option.map_some, if_true, Bool.false_eq_true, if_false, setE, List.set_cons_zero, List.set_cons_succ, exists_eq', exists_eq, isiW, bw_add, bw_sub, bw_mul, bw_fdiv, bw_mod, bw_pow, bw_adds, bw_addt, bw_addl, bw_addn, bw_mull, bw_mult, uw_neg, uw_not, cw_lt, cw_lte, cw_gt, cw_gte, cw_eq, cw_ne, eq_ss, eq_ii, eq_tt, eq_ll, eq_lo, eq_nn, eq_bb, cw_in, cw_nin, bi_len, lw_tup, lw_lst, lw_str, lw_loc, bi_abs, bi_sum, bi_alls, bi_any, bi_int, bi_intb, bi_tup, bi_lst, bi_srt, bi_rpr, bi_max2, bi_min2, bi_max, bi_min, sw_tup, sw_lst, sw_loc, rw_tup, rw_lst, rw_loc, mw_app, mw_pop, mw_ext, iw, stw, seqOf_tup, seqOf_lst, lstOf_lst, intsOf_map, eqv_int, lay_int, List.length_cons, List.length_nil, permute, List.filterMap_cons, List.filterMap_nil, gd_v, Its.ok, List.not_mem_nil, List.map_cons, List.map_nil, List.cons_append, List.nil_append, List.replicate, Nat.reduceAdd, Nat.reduceSub, Nat.zero_add, Nat.reduceLT, Nat.reduceLeDiff, false_implies, implies_true, isNone, wipeE, fnW, List.cons.injEq, and_assoc, eq_self, decide_true, decide_false, Bool.not_true, Bool.not_false, Bool.true_and, Bool.false_and, Bool.and_true, Bool.and_false, Bool.or_true, Bool.true_or, Bool.or_false, Bool.false_or, beq_self_eq_true, not_true_eq_false, not_false_eq_true, up_same, up_up, Option.isSome_some, hT]
  refine ⟨bs, kept, total, rfl, g, hk, fun k I => ?_⟩
  have a1 := enc_atD (xs := bs) (enc := pr) (k := k) (i := k) (d := (0, 0)) I.lt rfl
  have := g.get I.lt
  simp only [evSs, evS, evR, evL, evO, evB, evT, evTs, evSrc, asVal_val, asVal_fl, asVal_flD, asVal_fd0, asNew_fl, List.getElem?_cons_zero, List.getElem?_cons_succ, List.getElem?_nil, Option.some.injEq, D.v.injEq, D.loc.injEq, Ob.lst.injEq, PyData.bool.injEq, PyData.int.injEq, PyData.str.injEq, PyData.tuple.injEq, PyData.list.injEq, exists_eq_left, exists_eq_left', exists_and_left, and_true, true_and, vw_v, dataOf_nil, dataOf_cons, dataOf_map, Option.map_some, if_true, Bool.false_eq_true, if_false, setE, List.set_cons_zero, List.set_cons_succ, exists_eq', exists_eq, isiW, bw_add, bw_sub, bw_mul, bw_fdiv, bw_mod, bw_pow, bw_adds, bw_addt, bw_addl, bw_addn, bw_mull, bw_mult, uw_neg, uw_not, cw_lt, cw_lte, cw_gt, cw_gte, cw_eq, cw_ne, eq_ss, eq_ii, eq_tt, eq_ll, eq_lo, eq_nn, eq_bb, cw_in, cw_nin, bi_len, lw_tup, lw_lst, lw_str, lw_loc, bi_abs, bi_sum, bi_alls, bi_any, bi_int, bi_intb, bi_tup, bi_lst, bi_srt, bi_rpr, bi_max2, bi_min2, bi_max, bi_min, sw_tup, sw_lst, sw_loc, rw_tup, rw_lst, rw_loc, mw_app, mw_pop, mw_ext, iw, stw, seqOf_tup, seqOf_lst, lstOf_lst, intsOf_map, eqv_int, lay_int, List.length_cons, List.length_nil, permute, List.filterMap_cons, List.filterMap_nil, gd_v, Its.ok, List.not_mem_nil, List.map_cons, List.map_nil, List.cons_append, List.nil_append, List.replicate, Nat.reduceAdd, Nat.reduceSub, Nat.zero_add, Nat.reduceLT, Nat.reduceLeDiff, false_implies, implies_true, isNone, wipeE, fnW, List.cons.injEq, and_assoc, eq_self, decide_true, decide_false, Bool.not_true, Bool.not_false, Bool.true_and, Bool.false_and, Bool.and_true, Bool.and_false, Bool.or_true, Bool.true_or, Bool.or_false, Bool.false_or, beq_self_eq_true, not_true_eq_false, not_false_eq_true, up_same, up_up, Option.isSome_some, a1, pr, pair1]
  exact ⟨.inl (by omega), .inr (by omega), .inl (by omega), by omega, by omega, exit_raw (h k I)⟩
def more (bs : List (Int × Int)) (kept total : Int) (k : Nat) : PyData :=
  if k + 1 = bs.length then .none else if (bs.getD (k + 1) (0, 0)).1 = 10000 then .none
  else .int (-((10000 * kept - (bs.getD (k + 1) (0, 0)).1 * total) / (10000 - (bs.getD (k + 1) (0, 0)).1)))
def spMore : FS := fun ds M P _ => ∃ bs kept total, ds = [.v (.tuple (bs.map pr)), .v (.int kept), .v (.int total)] ∧ Good bs ∧ 0 ≤ kept ∧ ∀ k : Nat, IsBand bs kept total k → P (.v (more bs kept total k)) M
theorem ok_least_more (T : Tb) (hT : T "band_of" = spBand) : ∀ ds M P PX, spMore ds M P PX → fnW true T 5 3 i_least_more ds M P PX := by
  rintro _ M P PX ⟨bs, kept, total, rfl, g, hk, h⟩
  unfold i_least_more
  simp only [evSs, evS, evR, evL, evO, evB, evT, evTs, evSrc, asVal_val, asVal_fl, asVal_flD, asVal_fd0, asNew_fl, List.getElem?_cons_zero, List.getElem?_cons_succ, List.getElem?_nil, Option.some.injEq, D.v.injEq, D.loc.injEq, Ob.lst.injEq, PyData.bool.injEq, PyData.int.injEq, PyData.str.injEq, PyData.tuple.injEq, PyData.list.injEq, exists_eq_left, exists_eq_left', exists_and_left, and_true, true_and, vw_v, dataOf_nil, dataOf_cons, dataOf_map, Option.map_some, if_true, Bool.false_eq_true, if_false, setE, List.set_cons_zero, List.set_cons_succ, exists_eq', exists_eq, isiW, bw_add, bw_sub, bw_mul, bw_fdiv, bw_mod, bw_pow, bw_adds, bw_addt, bw_addl, bw_addn, bw_mull, bw_mult, uw_neg, uw_not, cw_lt, cw_lte, cw_gt, cw_gte, cw_eq, cw_ne, eq_ss, eq_ii, eq_tt, eq_ll, eq_lo, eq_nn, eq_bb, cw_in, cw_nin, bi_len, lw_tup, lw_lst, lw_str, lw_loc, bi_abs, bi_sum, bi_alls, bi_any, bi_int, bi_intb, bi_tup, bi_lst, bi_srt, bi_rpr, bi_max2, bi_min2, bi_max, bi_min, sw_tup, sw_lst, sw_loc, rw_tup, rw_lst, rw_loc, mw_app, mw_pop, mw_ext, iw, stw, seqOf_tup, seqOf_lst, lstOf_lst, intsOf_map, eqv_int, lay_int, List.length_cons, List.length_nil, permute, List.filterMap_cons, List.filterMap_nil, gd_v, Its.ok, List.not_mem_nil, List.map_cons, List.map_nil, List.cons_append, List.nil_append, List.replicate, Nat.reduceAdd, Nat.reduceSub, Nat.zero_add, Nat.reduceLT, Nat.reduceLeDiff, false_implies, implies_true, isNone, wipeE, fnW, List.cons.injEq, and_assoc, eq_self, decide_true, decide_false, Bool.not_true, Bool.not_false, Bool.true_and, Bool.false_and, Bool.and_true, Bool.and_false, Bool.or_true, Bool.true_or, Bool.or_false, Bool.false_or, beq_self_eq_true, not_true_eq_false, not_false_eq_true, up_same, up_up, Option.isSome_some, hT]
  refine ⟨bs, kept, total, rfl, g, hk, fun k I => ?_⟩
  have hlt := I.lt
  have h' := h k I
  unfold more at h'
  simp only [evSs, evS, evR, evL, evO, evB, evT, evTs, evSrc, asVal_val, asVal_fl, asVal_flD, asVal_fd0, asNew_fl, List.getElem?_cons_zero, List.getElem?_cons_succ, List.getElem?_nil, Option.some.injEq, D.v.injEq, D.loc.injEq, Ob.lst.injEq, PyData.bool.injEq, PyData.int.injEq, PyData.str.injEq, PyData.tuple.injEq, PyData.list.injEq, exists_eq_left, exists_eq_left', exists_and_left, and_true, true_and, vw_v, dataOf_nil, dataOf_cons, dataOf_map, Option.map_some, if_true, Bool.false_eq_true, if_false, setE, List.set_cons_zero, List.set_cons_succ, exists_eq', exists_eq, isiW, bw_add, bw_sub, bw_mul, bw_fdiv, bw_mod, bw_pow, bw_adds, bw_addt, bw_addl, bw_addn, bw_mull, bw_mult, uw_neg, uw_not, cw_lt, cw_lte, cw_gt, cw_gte, cw_eq, cw_ne, eq_ss, eq_ii, eq_tt, eq_ll, eq_lo, eq_nn, eq_bb, cw_in, cw_nin, bi_len, lw_tup, lw_lst, lw_str, lw_loc, bi_abs, bi_sum, bi_alls, bi_any, bi_int, bi_intb, bi_tup, bi_lst, bi_srt, bi_rpr, bi_max2, bi_min2, bi_max, bi_min, sw_tup, sw_lst, sw_loc, rw_tup, rw_lst, rw_loc, mw_app, mw_pop, mw_ext, iw, stw, seqOf_tup, seqOf_lst, lstOf_lst, intsOf_map, eqv_int, lay_int, List.length_cons, List.length_nil, permute, List.filterMap_cons, List.filterMap_nil, gd_v, Its.ok, List.not_mem_nil, List.map_cons, List.map_nil, List.cons_append, List.nil_append, List.replicate, Nat.reduceAdd, Nat.reduceSub, Nat.zero_add, Nat.reduceLT, Nat.reduceLeDiff, false_implies, implies_true, isNone, wipeE, fnW, List.cons.injEq, and_assoc, eq_self, decide_true, decide_false, Bool.not_true, Bool.not_false, Bool.true_and, Bool.false_and, Bool.and_true, Bool.and_false, Bool.or_true, Bool.true_or, Bool.or_false, Bool.false_or, beq_self_eq_true, not_true_eq_false, not_false_eq_true, up_same, up_up, Option.isSome_some, List.length_map]
  by_cases c1 : k + 1 = bs.length
  · have e : ((k : Int) == (bs.length : Int) - 1) = true := beq_iff_eq.mpr (by omega)
    rw [if_pos c1] at h'
    simp only [e, evSs, evS, evR, evL, evO, evB, evT, evTs, evSrc, asVal_val, asVal_fl, asVal_flD, asVal_fd0, asNew_fl, List.getElem?_cons_zero, List.getElem?_cons_succ, List.getElem?_nil, Option.some.injEq, D.v.injEq, D.loc.injEq, Ob.lst.injEq, PyData.bool.injEq, PyData.int.injEq, PyData.str.injEq, PyData.tuple.injEq, PyData.list.injEq, exists_eq_left, exists_eq_left', exists_and_left, and_true, true_and, vw_v, dataOf_nil, dataOf_cons, dataOf_map, Option.map_some, if_true, Bool.false_eq_true, if_false, setE, List.set_cons_zero, List.set_cons_succ, exists_eq', exists_eq, isiW, bw_add, bw_sub, bw_mul, bw_fdiv, bw_mod, bw_pow, bw_adds, bw_addt, bw_addl, bw_addn, bw_mull, bw_mult, uw_neg, uw_not, cw_lt, cw_lte, cw_gt, cw_gte, cw_eq, cw_ne, eq_ss, eq_ii, eq_tt, eq_ll, eq_lo, eq_nn, eq_bb, cw_in, cw_nin, bi_len, lw_tup, lw_lst, lw_str, lw_loc, bi_abs, bi_sum, bi_alls, bi_any, bi_int, bi_intb, bi_tup, bi_lst, bi_srt, bi_rpr, bi_max2, bi_min2, bi_max, bi_min, sw_tup, sw_lst, sw_loc, rw_tup, rw_lst, rw_loc, mw_app, mw_pop, mw_ext, iw, stw, seqOf_tup, seqOf_lst, lstOf_lst, intsOf_map, eqv_int, lay_int, List.length_cons, List.length_nil, permute, List.filterMap_cons, List.filterMap_nil, gd_v, Its.ok, List.not_mem_nil, List.map_cons, List.map_nil, List.cons_append, List.nil_append, List.replicate, Nat.reduceAdd, Nat.reduceSub, Nat.zero_add, Nat.reduceLT, Nat.reduceLeDiff, false_implies, implies_true, isNone, wipeE, fnW, List.cons.injEq, and_assoc, eq_self, decide_true, decide_false, Bool.not_true, Bool.not_false, Bool.true_and, Bool.false_and, Bool.and_true, Bool.and_false, Bool.or_true, Bool.true_or, Bool.or_false, Bool.false_or, beq_self_eq_true, not_true_eq_false, not_false_eq_true, up_same, up_up, Option.isSome_some]
    exact h'
  · have e : ((k : Int) == (bs.length : Int) - 1) = false := beq_eq_false_iff_ne.mpr (by omega)
    rw [if_neg c1] at h'
    have a1 := enc_atD (xs := bs) (enc := pr) (k := k + 1) (i := (k : Int) + 1) (d := (0, 0)) (by omega) (by omega)
    have := g.get (k := k + 1) (by omega)
    simp only [e, evSs, evS, evR, evL, evO, evB, evT, evTs, evSrc, asVal_val, asVal_fl, asVal_flD, asVal_fd0, asNew_fl, List.getElem?_cons_zero, List.getElem?_cons_succ, List.getElem?_nil, Option.some.injEq, D.v.injEq, D.loc.injEq, Ob.lst.injEq, PyData.bool.injEq, PyData.int.injEq, PyData.str.injEq, PyData.tuple.injEq, PyData.list.injEq, exists_eq_left, exists_eq_left', exists_and_left, and_true, true_and, vw_v, dataOf_nil, dataOf_cons, dataOf_map, Option.map_some, if_true, Bool.false_eq_true, if_false, setE, List.set_cons_zero, List.set_cons_succ, exists_eq', exists_eq, isiW, bw_add, bw_sub, bw_mul, bw_fdiv, bw_mod, bw_pow, bw_adds, bw_addt, bw_addl, bw_addn, bw_mull, bw_mult, uw_neg, uw_not, cw_lt, cw_lte, cw_gt, cw_gte, cw_eq, cw_ne, eq_ss, eq_ii, eq_tt, eq_ll, eq_lo, eq_nn, eq_bb, cw_in, cw_nin, bi_len, lw_tup, lw_lst, lw_str, lw_loc, bi_abs, bi_sum, bi_alls, bi_any, bi_int, bi_intb, bi_tup, bi_lst, bi_srt, bi_rpr, bi_max2, bi_min2, bi_max, bi_min, sw_tup, sw_lst, sw_loc, rw_tup, rw_lst, rw_loc, mw_app, mw_pop, mw_ext, iw, stw, seqOf_tup, seqOf_lst, lstOf_lst, intsOf_map, eqv_int, lay_int, List.length_cons, List.length_nil, permute, List.filterMap_cons, List.filterMap_nil, gd_v, Its.ok, List.not_mem_nil, List.map_cons, List.map_nil, List.cons_append, List.nil_append, List.replicate, Nat.reduceAdd, Nat.reduceSub, Nat.zero_add, Nat.reduceLT, Nat.reduceLeDiff, false_implies, implies_true, isNone, wipeE, fnW, List.cons.injEq, and_assoc, eq_self, decide_true, decide_false, Bool.not_true, Bool.not_false, Bool.true_and, Bool.false_and, Bool.and_true, Bool.and_false, Bool.or_true, Bool.true_or, Bool.or_false, Bool.false_or, beq_self_eq_true, not_true_eq_false, not_false_eq_true, up_same, up_up, Option.isSome_some, a1, pr, pair0]
    by_cases c2 : (bs.getD (k + 1) (0, 0)).1 = 10000
    · rw [if_pos c2] at h'
      simp only [c2, evSs, evS, evR, evL, evO, evB, evT, evTs, evSrc, asVal_val, asVal_fl, asVal_flD, asVal_fd0, asNew_fl, List.getElem?_cons_zero, List.getElem?_cons_succ, List.getElem?_nil, Option.some.injEq, D.v.injEq, D.loc.injEq, Ob.lst.injEq, PyData.bool.injEq, PyData.int.injEq, PyData.str.injEq, PyData.tuple.injEq, PyData.list.injEq, exists_eq_left, exists_eq_left', exists_and_left, and_true, true_and, vw_v, dataOf_nil, dataOf_cons, dataOf_map, Option.map_some, if_true, Bool.false_eq_true, if_false, setE, List.set_cons_zero, List.set_cons_succ, exists_eq', exists_eq, isiW, bw_add, bw_sub, bw_mul, bw_fdiv, bw_mod, bw_pow, bw_adds, bw_addt, bw_addl, bw_addn, bw_mull, bw_mult, uw_neg, uw_not, cw_lt, cw_lte, cw_gt, cw_gte, cw_eq, cw_ne, eq_ss, eq_ii, eq_tt, eq_ll, eq_lo, eq_nn, eq_bb, cw_in, cw_nin, bi_len, lw_tup, lw_lst, lw_str, lw_loc, bi_abs, bi_sum, bi_alls, bi_any, bi_int, bi_intb, bi_tup, bi_lst, bi_srt, bi_rpr, bi_max2, bi_min2, bi_max, bi_min, sw_tup, sw_lst, sw_loc, rw_tup, rw_lst, rw_loc, mw_app, mw_pop, mw_ext, iw, stw, seqOf_tup, seqOf_lst, lstOf_lst, intsOf_map, eqv_int, lay_int, List.length_cons, List.length_nil, permute, List.filterMap_cons, List.filterMap_nil, gd_v, Its.ok, List.not_mem_nil, List.map_cons, List.map_nil, List.cons_append, List.nil_append, List.replicate, Nat.reduceAdd, Nat.reduceSub, Nat.zero_add, Nat.reduceLT, Nat.reduceLeDiff, false_implies, implies_true, isNone, wipeE, fnW, List.cons.injEq, and_assoc, eq_self, decide_true, decide_false, Bool.not_true, Bool.not_false, Bool.true_and, Bool.false_and, Bool.and_true, Bool.and_false, Bool.or_true, Bool.true_or, Bool.or_false, Bool.false_or, beq_self_eq_true, not_true_eq_false, not_false_eq_true, up_same, up_up, Option.isSome_some]
      exact h'
    · rw [if_neg c2] at h'
      have e : ((bs.getD (k + 1) (0, 0)).1 == 10000) = false := beq_eq_false_iff_ne.mpr c2
      simp only [e, evSs, evS, evR, evL, evO, evB, evT, evTs, evSrc, asVal_val, asVal_fl, asVal_flD, asVal_fd0, asNew_fl, List.getElem?_cons_zero, List.getElem?_cons_succ, List.getElem?_nil, Option.some.injEq, D.v.injEq, D.loc.injEq, Ob.lst.injEq, PyData.bool.injEq, PyData.int.injEq, PyData.str.injEq, PyData.tuple.injEq, PyData.list.injEq, exists_eq_left, exists_eq_left', exists_and_left, and_true, true_and, vw_v, dataOf_nil, dataOf_cons, dataOf_map, Option.map_some, if_true, Bool.false_eq_true, if_false, setE, List.set_cons_zero, List.set_cons_succ, exists_eq', exists_eq, isiW, bw_add, bw_sub, bw_mul, bw_fdiv, bw_mod, bw_pow, bw_adds, bw_addt, bw_addl, bw_addn, bw_mull, bw_mult, uw_neg, uw_not, cw_lt, cw_lte, cw_gt, cw_gte, cw_eq, cw_ne, eq_ss, eq_ii, eq_tt, eq_ll, eq_lo, eq_nn, eq_bb, cw_in, cw_nin, bi_len, lw_tup, lw_lst, lw_str, lw_loc, bi_abs, bi_sum, bi_alls, bi_any, bi_int, bi_intb, bi_tup, bi_lst, bi_srt, bi_rpr, bi_max2, bi_min2, bi_max, bi_min, sw_tup, sw_lst, sw_loc, rw_tup, rw_lst, rw_loc, mw_app, mw_pop, mw_ext, iw, stw, seqOf_tup, seqOf_lst, lstOf_lst, intsOf_map, eqv_int, lay_int, List.length_cons, List.length_nil, permute, List.filterMap_cons, List.filterMap_nil, gd_v, Its.ok, List.not_mem_nil, List.map_cons, List.map_nil, List.cons_append, List.nil_append, List.replicate, Nat.reduceAdd, Nat.reduceSub, Nat.zero_add, Nat.reduceLT, Nat.reduceLeDiff, false_implies, implies_true, isNone, wipeE, fnW, List.cons.injEq, and_assoc, eq_self, decide_true, decide_false, Bool.not_true, Bool.not_false, Bool.true_and, Bool.false_and, Bool.and_true, Bool.and_false, Bool.or_true, Bool.true_or, Bool.or_false, Bool.false_or, beq_self_eq_true, not_true_eq_false, not_false_eq_true, up_same, up_up, Option.isSome_some]
      refine ⟨.inl (by omega), .inl (by omega), by omega, by omega, ?_⟩
      rw [show -((bs.getD (k + 1) (0, 0)).1 * total - 10000 * kept) = 10000 * kept - (bs.getD (k + 1) (0, 0)).1 * total by omega]
      exact h'
theorem ok_law_least_more (T : Tb) (hT : T "_law_band" = spBand) : ∀ ds M P PX, spMore ds M P PX → fnW true T 5 3 i_law_least_more ds M P PX := by
  rintro _ M P PX ⟨bs, kept, total, rfl, g, hk, h⟩
  unfold i_law_least_more
  simp only [evSs, evS, evR, evL, evO, evB, evT, evTs, evSrc, asVal_val, asVal_fl, asVal_flD, asVal_fd0, asNew_fl, List.getElem?_cons_zero, List.getElem?_cons_succ, List.getElem?_nil, Option.some.injEq, D.v.injEq, D.loc.injEq, Ob.lst.injEq, PyData.bool.injEq, PyData.int.injEq, PyData.str.injEq, PyData.tuple.injEq, PyData.list.injEq, exists_eq_left, exists_eq_left', exists_and_left, and_true, true_and, vw_v, dataOf_nil, dataOf_cons, dataOf_map, Option.map_some, if_true, Bool.false_eq_true, if_false, setE, List.set_cons_zero, List.set_cons_succ, exists_eq', exists_eq, isiW, bw_add, bw_sub, bw_mul, bw_fdiv, bw_mod, bw_pow, bw_adds, bw_addt, bw_addl, bw_addn, bw_mull, bw_mult, uw_neg, uw_not, cw_lt, cw_lte, cw_gt, cw_gte, cw_eq, cw_ne, eq_ss, eq_ii, eq_tt, eq_ll, eq_lo, eq_nn, eq_bb, cw_in, cw_nin, bi_len, lw_tup, lw_lst, lw_str, lw_loc, bi_abs, bi_sum, bi_alls, bi_any, bi_int, bi_intb, bi_tup, bi_lst, bi_srt, bi_rpr, bi_max2, bi_min2, bi_max, bi_min, sw_tup, sw_lst, sw_loc, rw_tup, rw_lst, rw_loc, mw_app, mw_pop, mw_ext, iw, stw, seqOf_tup, seqOf_lst, lstOf_lst, intsOf_map, eqv_int, lay_int, List.length_cons, List.length_nil, permute, List.filterMap_cons, List.filterMap_nil, gd_v, Its.ok, List.not_mem_nil, List.map_cons, List.map_nil, List.cons_append, List.nil_append, List.replicate, Nat.reduceAdd, Nat.reduceSub, Nat.zero_add, Nat.reduceLT, Nat.reduceLeDiff, false_implies, implies_true, isNone, wipeE, fnW, List.cons.injEq, and_assoc, eq_self, decide_true, decide_false, Bool.not_true, Bool.not_false, Bool.true_and, Bool.false_and, Bool.and_true, Bool.and_false, Bool.or_true, Bool.true_or, Bool.or_false, Bool.false_or, beq_self_eq_true, not_true_eq_false, not_false_eq_true, up_same, up_up, Option.isSome_some, hT]
  refine ⟨bs, kept, total, rfl, g, hk, fun k I => ?_⟩
  have hlt := I.lt
  have h' := h k I
  unfold more at h'
  simp only [evSs, evS, evR, evL, evO, evB, evT, evTs, evSrc, asVal_val, asVal_fl, asVal_flD, asVal_fd0, asNew_fl, List.getElem?_cons_zero, List.getElem?_cons_succ, List.getElem?_nil, Option.some.injEq, D.v.injEq, D.loc.injEq, Ob.lst.injEq, PyData.bool.injEq, PyData.int.injEq, PyData.str.injEq, PyData.tuple.injEq, PyData.list.injEq, exists_eq_left, exists_eq_left', exists_and_left, and_true, true_and, vw_v, dataOf_nil, dataOf_cons, dataOf_map, Option.map_some, if_true, Bool.false_eq_true, if_false, setE, List.set_cons_zero, List.set_cons_succ, exists_eq', exists_eq, isiW, bw_add, bw_sub, bw_mul, bw_fdiv, bw_mod, bw_pow, bw_adds, bw_addt, bw_addl, bw_addn, bw_mull, bw_mult, uw_neg, uw_not, cw_lt, cw_lte, cw_gt, cw_gte, cw_eq, cw_ne, eq_ss, eq_ii, eq_tt, eq_ll, eq_lo, eq_nn, eq_bb, cw_in, cw_nin, bi_len, lw_tup, lw_lst, lw_str, lw_loc, bi_abs, bi_sum, bi_alls, bi_any, bi_int, bi_intb, bi_tup, bi_lst, bi_srt, bi_rpr, bi_max2, bi_min2, bi_max, bi_min, sw_tup, sw_lst, sw_loc, rw_tup, rw_lst, rw_loc, mw_app, mw_pop, mw_ext, iw, stw, seqOf_tup, seqOf_lst, lstOf_lst, intsOf_map, eqv_int, lay_int, List.length_cons, List.length_nil, permute, List.filterMap_cons, List.filterMap_nil, gd_v, Its.ok, List.not_mem_nil, List.map_cons, List.map_nil, List.cons_append, List.nil_append, List.replicate, Nat.reduceAdd, Nat.reduceSub, Nat.zero_add, Nat.reduceLT, Nat.reduceLeDiff, false_implies, implies_true, isNone, wipeE, fnW, List.cons.injEq, and_assoc, eq_self, decide_true, decide_false, Bool.not_true, Bool.not_false, Bool.true_and, Bool.false_and, Bool.and_true, Bool.and_false, Bool.or_true, Bool.true_or, Bool.or_false, Bool.false_or, beq_self_eq_true, not_true_eq_false, not_false_eq_true, up_same, up_up, Option.isSome_some, List.length_map]
  by_cases c1 : k + 1 = bs.length
  · have e : ((k : Int) + 1 == (bs.length : Int)) = true := beq_iff_eq.mpr (by omega)
    rw [if_pos c1] at h'
    simp only [e, evSs, evS, evR, evL, evO, evB, evT, evTs, evSrc, asVal_val, asVal_fl, asVal_flD, asVal_fd0, asNew_fl, List.getElem?_cons_zero, List.getElem?_cons_succ, List.getElem?_nil, Option.some.injEq, D.v.injEq, D.loc.injEq, Ob.lst.injEq, PyData.bool.injEq, PyData.int.injEq, PyData.str.injEq, PyData.tuple.injEq, PyData.list.injEq, exists_eq_left, exists_eq_left', exists_and_left, and_true, true_and, vw_v, dataOf_nil, dataOf_cons, dataOf_map, Option.map_some, if_true, Bool.false_eq_true, if_false, setE, List.set_cons_zero, List.set_cons_succ, exists_eq', exists_eq, isiW, bw_add, bw_sub, bw_mul, bw_fdiv, bw_mod, bw_pow, bw_adds, bw_addt, bw_addl, bw_addn, bw_mull, bw_mult, uw_neg, uw_not, cw_lt, cw_lte, cw_gt, cw_gte, cw_eq, cw_ne, eq_ss, eq_ii, eq_tt, eq_ll, eq_lo, eq_nn, eq_bb, cw_in, cw_nin, bi_len, lw_tup, lw_lst, lw_str, lw_loc, bi_abs, bi_sum, bi_alls, bi_any, bi_int, bi_intb, bi_tup, bi_lst, bi_srt, bi_rpr, bi_max2, bi_min2, bi_max, bi_min, sw_tup, sw_lst, sw_loc, rw_tup, rw_lst, rw_loc, mw_app, mw_pop, mw_ext, iw, stw, seqOf_tup, seqOf_lst, lstOf_lst, intsOf_map, eqv_int, lay_int, List.length_cons, List.length_nil, permute, List.filterMap_cons, List.filterMap_nil, gd_v, Its.ok, List.not_mem_nil, List.map_cons, List.map_nil, List.cons_append, List.nil_append, List.replicate, Nat.reduceAdd, Nat.reduceSub, Nat.zero_add, Nat.reduceLT, Nat.reduceLeDiff, false_implies, implies_true, isNone, wipeE, fnW, List.cons.injEq, and_assoc, eq_self, decide_true, decide_false, Bool.not_true, Bool.not_false, Bool.true_and, Bool.false_and, Bool.and_true, Bool.and_false, Bool.or_true, Bool.true_or, Bool.or_false, Bool.false_or, beq_self_eq_true, not_true_eq_false, not_false_eq_true, up_same, up_up, Option.isSome_some]
    exact h'
  · have e : ((k : Int) + 1 == (bs.length : Int)) = false := beq_eq_false_iff_ne.mpr (by omega)
    rw [if_neg c1] at h'
    have a1 := enc_atD (xs := bs) (enc := pr) (k := k + 1) (i := (k : Int) + 1) (d := (0, 0)) (by omega) (by omega)
    have := g.get (k := k + 1) (by omega)
    simp only [e, evSs, evS, evR, evL, evO, evB, evT, evTs, evSrc, asVal_val, asVal_fl, asVal_flD, asVal_fd0, asNew_fl, List.getElem?_cons_zero, List.getElem?_cons_succ, List.getElem?_nil, Option.some.injEq, D.v.injEq, D.loc.injEq, Ob.lst.injEq, PyData.bool.injEq, PyData.int.injEq, PyData.str.injEq, PyData.tuple.injEq, PyData.list.injEq, exists_eq_left, exists_eq_left', exists_and_left, and_true, true_and, vw_v, dataOf_nil, dataOf_cons, dataOf_map, Option.map_some, if_true, Bool.false_eq_true, if_false, setE, List.set_cons_zero, List.set_cons_succ, exists_eq', exists_eq, isiW, bw_add, bw_sub, bw_mul, bw_fdiv, bw_mod, bw_pow, bw_adds, bw_addt, bw_addl, bw_addn, bw_mull, bw_mult, uw_neg, uw_not, cw_lt, cw_lte, cw_gt, cw_gte, cw_eq, cw_ne, eq_ss, eq_ii, eq_tt, eq_ll, eq_lo, eq_nn, eq_bb, cw_in, cw_nin, bi_len, lw_tup, lw_lst, lw_str, lw_loc, bi_abs, bi_sum, bi_alls, bi_any, bi_int, bi_intb, bi_tup, bi_lst, bi_srt, bi_rpr, bi_max2, bi_min2, bi_max, bi_min, sw_tup, sw_lst, sw_loc, rw_tup, rw_lst, rw_loc, mw_app, mw_pop, mw_ext, iw, stw, seqOf_tup, seqOf_lst, lstOf_lst, intsOf_map, eqv_int, lay_int, List.length_cons, List.length_nil, permute, List.filterMap_cons, List.filterMap_nil, gd_v, Its.ok, List.not_mem_nil, List.map_cons, List.map_nil, List.cons_append, List.nil_append, List.replicate, Nat.reduceAdd, Nat.reduceSub, Nat.zero_add, Nat.reduceLT, Nat.reduceLeDiff, false_implies, implies_true, isNone, wipeE, fnW, List.cons.injEq, and_assoc, eq_self, decide_true, decide_false, Bool.not_true, Bool.not_false, Bool.true_and, Bool.false_and, Bool.and_true, Bool.and_false, Bool.or_true, Bool.true_or, Bool.or_false, Bool.false_or, beq_self_eq_true, not_true_eq_false, not_false_eq_true, up_same, up_up, Option.isSome_some, a1, pr, pair0]
    by_cases c2 : (bs.getD (k + 1) (0, 0)).1 = 10000
    · rw [if_pos c2] at h'
      simp only [c2, evSs, evS, evR, evL, evO, evB, evT, evTs, evSrc, asVal_val, asVal_fl, asVal_flD, asVal_fd0, asNew_fl, List.getElem?_cons_zero, List.getElem?_cons_succ, List.getElem?_nil, Option.some.injEq, D.v.injEq, D.loc.injEq, Ob.lst.injEq, PyData.bool.injEq, PyData.int.injEq, PyData.str.injEq, PyData.tuple.injEq, PyData.list.injEq, exists_eq_left, exists_eq_left', exists_and_left, and_true, true_and, vw_v, dataOf_nil, dataOf_cons, dataOf_map, Option.map_some, if_true, Bool.false_eq_true, if_false, setE, List.set_cons_zero, List.set_cons_succ, exists_eq', exists_eq, isiW, bw_add, bw_sub, bw_mul, bw_fdiv, bw_mod, bw_pow, bw_adds, bw_addt, bw_addl, bw_addn, bw_mull, bw_mult, uw_neg, uw_not, cw_lt, cw_lte, cw_gt, cw_gte, cw_eq, cw_ne, eq_ss, eq_ii, eq_tt, eq_ll, eq_lo, eq_nn, eq_bb, cw_in, cw_nin, bi_len, lw_tup, lw_lst, lw_str, lw_loc, bi_abs, bi_sum, bi_alls, bi_any, bi_int, bi_intb, bi_tup, bi_lst, bi_srt, bi_rpr, bi_max2, bi_min2, bi_max, bi_min, sw_tup, sw_lst, sw_loc, rw_tup, rw_lst, rw_loc, mw_app, mw_pop, mw_ext, iw, stw, seqOf_tup, seqOf_lst, lstOf_lst, intsOf_map, eqv_int, lay_int, List.length_cons, List.length_nil, permute, List.filterMap_cons, List.filterMap_nil, gd_v, Its.ok, List.not_mem_nil, List.map_cons, List.map_nil, List.cons_append, List.nil_append, List.replicate, Nat.reduceAdd, Nat.reduceSub, Nat.zero_add, Nat.reduceLT, Nat.reduceLeDiff, false_implies, implies_true, isNone, wipeE, fnW, List.cons.injEq, and_assoc, eq_self, decide_true, decide_false, Bool.not_true, Bool.not_false, Bool.true_and, Bool.false_and, Bool.and_true, Bool.and_false, Bool.or_true, Bool.true_or, Bool.or_false, Bool.false_or, beq_self_eq_true, not_true_eq_false, not_false_eq_true, up_same, up_up, Option.isSome_some]
      exact h'
    · rw [if_neg c2] at h'
      have e : ((bs.getD (k + 1) (0, 0)).1 == 10000) = false := beq_eq_false_iff_ne.mpr c2
      simp only [e, evSs, evS, evR, evL, evO, evB, evT, evTs, evSrc, asVal_val, asVal_fl, asVal_flD, asVal_fd0, asNew_fl, List.getElem?_cons_zero, List.getElem?_cons_succ, List.getElem?_nil, Option.some.injEq, D.v.injEq, D.loc.injEq, Ob.lst.injEq, PyData.bool.injEq, PyData.int.injEq, PyData.str.injEq, PyData.tuple.injEq, PyData.list.injEq, exists_eq_left, exists_eq_left', exists_and_left, and_true, true_and, vw_v, dataOf_nil, dataOf_cons, dataOf_map, Option.map_some, if_true, Bool.false_eq_true, if_false, setE, List.set_cons_zero, List.set_cons_succ, exists_eq', exists_eq, isiW, bw_add, bw_sub, bw_mul, bw_fdiv, bw_mod, bw_pow, bw_adds, bw_addt, bw_addl, bw_addn, bw_mull, bw_mult, uw_neg, uw_not, cw_lt, cw_lte, cw_gt, cw_gte, cw_eq, cw_ne, eq_ss, eq_ii, eq_tt, eq_ll, eq_lo, eq_nn, eq_bb, cw_in, cw_nin, bi_len, lw_tup, lw_lst, lw_str, lw_loc, bi_abs, bi_sum, bi_alls, bi_any, bi_int, bi_intb, bi_tup, bi_lst, bi_srt, bi_rpr, bi_max2, bi_min2, bi_max, bi_min, sw_tup, sw_lst, sw_loc, rw_tup, rw_lst, rw_loc, mw_app, mw_pop, mw_ext, iw, stw, seqOf_tup, seqOf_lst, lstOf_lst, intsOf_map, eqv_int, lay_int, List.length_cons, List.length_nil, permute, List.filterMap_cons, List.filterMap_nil, gd_v, Its.ok, List.not_mem_nil, List.map_cons, List.map_nil, List.cons_append, List.nil_append, List.replicate, Nat.reduceAdd, Nat.reduceSub, Nat.zero_add, Nat.reduceLT, Nat.reduceLeDiff, false_implies, implies_true, isNone, wipeE, fnW, List.cons.injEq, and_assoc, eq_self, decide_true, decide_false, Bool.not_true, Bool.not_false, Bool.true_and, Bool.false_and, Bool.and_true, Bool.and_false, Bool.or_true, Bool.true_or, Bool.or_false, Bool.false_or, beq_self_eq_true, not_true_eq_false, not_false_eq_true, up_same, up_up, Option.isSome_some]
      refine ⟨.inl (by omega), .inl (by omega), by omega, by omega, ?_⟩
      rw [Int.zero_sub]
      exact h'
def missed (bs : List (Int × Int)) (kept total : Int) (k : Nat) : PyData := if k = 0 then .none else .int (10000 * kept / (bs.getD k (0, 0)).1 - total)
def spMissed : FS := fun ds M P _ => ∃ bs kept total, ds = [.v (.tuple (bs.map pr)), .v (.int kept), .v (.int total)] ∧ Good bs ∧ 0 ≤ kept ∧ ∀ k : Nat, IsBand bs kept total k → P (.v (missed bs kept total k)) M
theorem ok_most_missed (T : Tb) (hT : T "band_of" = spBand) : ∀ ds M P PX, spMissed ds M P PX → fnW true T 4 3 i_most_missed ds M P PX := by
  rintro _ M P PX ⟨bs, kept, total, rfl, g, hk, h⟩
  unfold i_most_missed
  simp only [evSs, evS, evR, evL, evO, evB, evT, evTs, evSrc, asVal_val, asVal_fl, asVal_flD, asVal_fd0, asNew_fl, List.getElem?_cons_zero, List.getElem?_cons_succ, List.getElem?_nil, Option.some.injEq, D.v.injEq, D.loc.injEq, Ob.lst.injEq, PyData.bool.injEq, PyData.int.injEq, PyData.str.injEq, PyData.tuple.injEq, PyData.list.injEq, exists_eq_left, exists_eq_left', exists_and_left, and_true, true_and, vw_v, dataOf_nil, dataOf_cons, dataOf_map, Option.map_some, if_true, Bool.false_eq_true, if_false, setE, List.set_cons_zero, List.set_cons_succ, exists_eq', exists_eq, isiW, bw_add, bw_sub, bw_mul, bw_fdiv, bw_mod, bw_pow, bw_adds, bw_addt, bw_addl, bw_addn, bw_mull, bw_mult, uw_neg, uw_not, cw_lt, cw_lte, cw_gt, cw_gte, cw_eq, cw_ne, eq_ss, eq_ii, eq_tt, eq_ll, eq_lo, eq_nn, eq_bb, cw_in, cw_nin, bi_len, lw_tup, lw_lst, lw_str, lw_loc, bi_abs, bi_sum, bi_alls, bi_any, bi_int, bi_intb, bi_tup, bi_lst, bi_srt, bi_rpr, bi_max2, bi_min2, bi_max, bi_min, sw_tup, sw_lst, sw_loc, rw_tup, rw_lst, rw_loc, mw_app, mw_pop, mw_ext, iw, stw, seqOf_tup, seqOf_lst, lstOf_lst, intsOf_map, eqv_int, lay_int, List.length_cons, List.length_nil, permute, List.filterMap_cons, List.filterMap_nil, gd_v, Its.ok, List.not_mem_nil, List.map_cons, List.map_nil, List.cons_append, List.nil_append, List.replicate, Nat.reduceAdd, Nat.reduceSub, Nat.zero_add, Nat.reduceLT, Nat.reduceLeDiff, false_implies, implies_true, isNone, wipeE, fnW, List.cons.injEq, and_assoc, eq_self, decide_true, decide_false, Bool.not_true, Bool.not_false, Bool.true_and, Bool.false_and, Bool.and_true, Bool.and_false, Bool.or_true, Bool.true_or, Bool.or_false, Bool.false_or, beq_self_eq_true, not_true_eq_false, not_false_eq_true, up_same, up_up, Option.isSome_some, hT]
  refine ⟨bs, kept, total, rfl, g, hk, fun k I => ?_⟩
  have hlt := I.lt
  have h' := h k I
  unfold missed at h'
  simp only [evSs, evS, evR, evL, evO, evB, evT, evTs, evSrc, asVal_val, asVal_fl, asVal_flD, asVal_fd0, asNew_fl, List.getElem?_cons_zero, List.getElem?_cons_succ, List.getElem?_nil, Option.some.injEq, D.v.injEq, D.loc.injEq, Ob.lst.injEq, PyData.bool.injEq, PyData.int.injEq, PyData.str.injEq, PyData.tuple.injEq, PyData.list.injEq, exists_eq_left, exists_eq_left', exists_and_left, and_true, true_and, vw_v, dataOf_nil, dataOf_cons, dataOf_map, Option.map_some, if_true, Bool.false_eq_true, if_false, setE, List.set_cons_zero, List.set_cons_succ, exists_eq', exists_eq, isiW, bw_add, bw_sub, bw_mul, bw_fdiv, bw_mod, bw_pow, bw_adds, bw_addt, bw_addl, bw_addn, bw_mull, bw_mult, uw_neg, uw_not, cw_lt, cw_lte, cw_gt, cw_gte, cw_eq, cw_ne, eq_ss, eq_ii, eq_tt, eq_ll, eq_lo, eq_nn, eq_bb, cw_in, cw_nin, bi_len, lw_tup, lw_lst, lw_str, lw_loc, bi_abs, bi_sum, bi_alls, bi_any, bi_int, bi_intb, bi_tup, bi_lst, bi_srt, bi_rpr, bi_max2, bi_min2, bi_max, bi_min, sw_tup, sw_lst, sw_loc, rw_tup, rw_lst, rw_loc, mw_app, mw_pop, mw_ext, iw, stw, seqOf_tup, seqOf_lst, lstOf_lst, intsOf_map, eqv_int, lay_int, List.length_cons, List.length_nil, permute, List.filterMap_cons, List.filterMap_nil, gd_v, Its.ok, List.not_mem_nil, List.map_cons, List.map_nil, List.cons_append, List.nil_append, List.replicate, Nat.reduceAdd, Nat.reduceSub, Nat.zero_add, Nat.reduceLT, Nat.reduceLeDiff, false_implies, implies_true, isNone, wipeE, fnW, List.cons.injEq, and_assoc, eq_self, decide_true, decide_false, Bool.not_true, Bool.not_false, Bool.true_and, Bool.false_and, Bool.and_true, Bool.and_false, Bool.or_true, Bool.true_or, Bool.or_false, Bool.false_or, beq_self_eq_true, not_true_eq_false, not_false_eq_true, up_same, up_up, Option.isSome_some]
  by_cases c1 : k = 0
  · rw [if_pos c1] at h'
    subst c1
    exact h'
  · rw [if_neg c1] at h'
    have e : ((k : Int) == 0) = false := beq_eq_false_iff_ne.mpr (by omega)
    have a1 := enc_atD (xs := bs) (enc := pr) (k := k) (i := (k : Int)) (d := (0, 0)) (by omega) (by omega)
    have h2 := g.get (k := k) (by omega)
    have h3 := g.lt (i := 0) (j := k) (by omega) hlt
    rw [g.h0] at h3
    simp only [e, evSs, evS, evR, evL, evO, evB, evT, evTs, evSrc, asVal_val, asVal_fl, asVal_flD, asVal_fd0, asNew_fl, List.getElem?_cons_zero, List.getElem?_cons_succ, List.getElem?_nil, Option.some.injEq, D.v.injEq, D.loc.injEq, Ob.lst.injEq, PyData.bool.injEq, PyData.int.injEq, PyData.str.injEq, PyData.tuple.injEq, PyData.list.injEq, exists_eq_left, exists_eq_left', exists_and_left, and_true, true_and, vw_v, dataOf_nil, dataOf_cons, dataOf_map, Option.map_some, if_true, Bool.false_eq_true, if_false, setE, List.set_cons_zero, List.set_cons_succ, exists_eq', exists_eq, isiW, bw_add, bw_sub, bw_mul, bw_fdiv, bw_mod, bw_pow, bw_adds, bw_addt, bw_addl, bw_addn, bw_mull, bw_mult, uw_neg, uw_not, cw_lt, cw_lte, cw_gt, cw_gte, cw_eq, cw_ne, eq_ss, eq_ii, eq_tt, eq_ll, eq_lo, eq_nn, eq_bb, cw_in, cw_nin, bi_len, lw_tup, lw_lst, lw_str, lw_loc, bi_abs, bi_sum, bi_alls, bi_any, bi_int, bi_intb, bi_tup, bi_lst, bi_srt, bi_rpr, bi_max2, bi_min2, bi_max, bi_min, sw_tup, sw_lst, sw_loc, rw_tup, rw_lst, rw_loc, mw_app, mw_pop, mw_ext, iw, stw, seqOf_tup, seqOf_lst, lstOf_lst, intsOf_map, eqv_int, lay_int, List.length_cons, List.length_nil, permute, List.filterMap_cons, List.filterMap_nil, gd_v, Its.ok, List.not_mem_nil, List.map_cons, List.map_nil, List.cons_append, List.nil_append, List.replicate, Nat.reduceAdd, Nat.reduceSub, Nat.zero_add, Nat.reduceLT, Nat.reduceLeDiff, false_implies, implies_true, isNone, wipeE, fnW, List.cons.injEq, and_assoc, eq_self, decide_true, decide_false, Bool.not_true, Bool.not_false, Bool.true_and, Bool.false_and, Bool.and_true, Bool.and_false, Bool.or_true, Bool.true_or, Bool.or_false, Bool.false_or, beq_self_eq_true, not_true_eq_false, not_false_eq_true, up_same, up_up, Option.isSome_some, a1, pr, pair0]
    exact ⟨.inl (by omega), by omega, by omega, h'⟩
theorem ok_law_most_missed (T : Tb) (hT : T "_law_band" = spBand) : ∀ ds M P PX, spMissed ds M P PX → fnW true T 4 3 i_law_most_missed ds M P PX := by
  rintro _ M P PX ⟨bs, kept, total, rfl, g, hk, h⟩
  unfold i_law_most_missed
  simp only [evSs, evS, evR, evL, evO, evB, evT, evTs, evSrc, asVal_val, asVal_fl, asVal_flD, asVal_fd0, asNew_fl, List.getElem?_cons_zero, List.getElem?_cons_succ, List.getElem?_nil, Option.some.injEq, D.v.injEq, D.loc.injEq, Ob.lst.injEq, PyData.bool.injEq, PyData.int.injEq, PyData.str.injEq, PyData.tuple.injEq, PyData.list.injEq, exists_eq_left, exists_eq_left', exists_and_left, and_true, true_and, vw_v, dataOf_nil, dataOf_cons, dataOf_map, Option.map_some, if_true, Bool.false_eq_true, if_false, setE, List.set_cons_zero, List.set_cons_succ, exists_eq', exists_eq, isiW, bw_add, bw_sub, bw_mul, bw_fdiv, bw_mod, bw_pow, bw_adds, bw_addt, bw_addl, bw_addn, bw_mull, bw_mult, uw_neg, uw_not, cw_lt, cw_lte, cw_gt, cw_gte, cw_eq, cw_ne, eq_ss, eq_ii, eq_tt, eq_ll, eq_lo, eq_nn, eq_bb, cw_in, cw_nin, bi_len, lw_tup, lw_lst, lw_str, lw_loc, bi_abs, bi_sum, bi_alls, bi_any, bi_int, bi_intb, bi_tup, bi_lst, bi_srt, bi_rpr, bi_max2, bi_min2, bi_max, bi_min, sw_tup, sw_lst, sw_loc, rw_tup, rw_lst, rw_loc, mw_app, mw_pop, mw_ext, iw, stw, seqOf_tup, seqOf_lst, lstOf_lst, intsOf_map, eqv_int, lay_int, List.length_cons, List.length_nil, permute, List.filterMap_cons, List.filterMap_nil, gd_v, Its.ok, List.not_mem_nil, List.map_cons, List.map_nil, List.cons_append, List.nil_append, List.replicate, Nat.reduceAdd, Nat.reduceSub, Nat.zero_add, Nat.reduceLT, Nat.reduceLeDiff, false_implies, implies_true, isNone, wipeE, fnW, List.cons.injEq, and_assoc, eq_self, decide_true, decide_false, Bool.not_true, Bool.not_false, Bool.true_and, Bool.false_and, Bool.and_true, Bool.and_false, Bool.or_true, Bool.true_or, Bool.or_false, Bool.false_or, beq_self_eq_true, not_true_eq_false, not_false_eq_true, up_same, up_up, Option.isSome_some, hT]
  refine ⟨bs, kept, total, rfl, g, hk, fun k I => ?_⟩
  have hlt := I.lt
  have h' := h k I
  unfold missed at h'
  have a1 := enc_atD (xs := bs) (enc := pr) (k := k) (i := (k : Int)) (d := (0, 0)) (by omega) (by omega)
  simp only [evSs, evS, evR, evL, evO, evB, evT, evTs, evSrc, asVal_val, asVal_fl, asVal_flD, asVal_fd0, asNew_fl, List.getElem?_cons_zero, List.getElem?_cons_succ, List.getElem?_nil, Option.some.injEq, D.v.injEq, D.loc.injEq, Ob.lst.injEq, PyData.bool.injEq, PyData.int.injEq, PyData.str.injEq, PyData.tuple.injEq, PyData.list.injEq, exists_eq_left, exists_eq_left', exists_and_left, and_true, true_and, vw_v, dataOf_nil, dataOf_cons, dataOf_map, Option.map_some, if_true, Bool.false_eq_true, if_false, setE, List.set_cons_zero, List.set_cons_succ, exists_eq', exists_eq, isiW, bw_add, bw_sub, bw_mul, bw_fdiv, bw_mod, bw_pow, bw_adds, bw_addt, bw_addl, bw_addn, bw_mull, bw_mult, uw_neg, uw_not, cw_lt, cw_lte, cw_gt, cw_gte, cw_eq, cw_ne, eq_ss, eq_ii, eq_tt, eq_ll, eq_lo, eq_nn, eq_bb, cw_in, cw_nin, bi_len, lw_tup, lw_lst, lw_str, lw_loc, bi_abs, bi_sum, bi_alls, bi_any, bi_int, bi_intb, bi_tup, bi_lst, bi_srt, bi_rpr, bi_max2, bi_min2, bi_max, bi_min, sw_tup, sw_lst, sw_loc, rw_tup, rw_lst, rw_loc, mw_app, mw_pop, mw_ext, iw, stw, seqOf_tup, seqOf_lst, lstOf_lst, intsOf_map, eqv_int, lay_int, List.length_cons, List.length_nil, permute, List.filterMap_cons, List.filterMap_nil, gd_v, Its.ok, List.not_mem_nil, List.map_cons, List.map_nil, List.cons_append, List.nil_append, List.replicate, Nat.reduceAdd, Nat.reduceSub, Nat.zero_add, Nat.reduceLT, Nat.reduceLeDiff, false_implies, implies_true, isNone, wipeE, fnW, List.cons.injEq, and_assoc, eq_self, decide_true, decide_false, Bool.not_true, Bool.not_false, Bool.true_and, Bool.false_and, Bool.and_true, Bool.and_false, Bool.or_true, Bool.true_or, Bool.or_false, Bool.false_or, beq_self_eq_true, not_true_eq_false, not_false_eq_true, up_same, up_up, Option.isSome_some, a1, pr, pair0]
  by_cases c1 : k = 0
  · rw [if_pos c1] at h'
    subst c1
    simp only [g.h0, evSs, evS, evR, evL, evO, evB, evT, evTs, evSrc, asVal_val, asVal_fl, asVal_flD, asVal_fd0, asNew_fl, List.getElem?_cons_zero, List.getElem?_cons_succ, List.getElem?_nil, Option.some.injEq, D.v.injEq, D.loc.injEq, Ob.lst.injEq, PyData.bool.injEq, PyData.int.injEq, PyData.str.injEq, PyData.tuple.injEq, PyData.list.injEq, exists_eq_left, exists_eq_left', exists_and_left, and_true, true_and, vw_v, dataOf_nil, dataOf_cons, dataOf_map, Option.map_some, if_true, Bool.false_eq_true, if_false, setE, List.set_cons_zero, List.set_cons_succ, exists_eq', exists_eq, isiW, bw_add, bw_sub, bw_mul, bw_fdiv, bw_mod, bw_pow, bw_adds, bw_addt, bw_addl, bw_addn, bw_mull, bw_mult, uw_neg, uw_not, cw_lt, cw_lte, cw_gt, cw_gte, cw_eq, cw_ne, eq_ss, eq_ii, eq_tt, eq_ll, eq_lo, eq_nn, eq_bb, cw_in, cw_nin, bi_len, lw_tup, lw_lst, lw_str, lw_loc, bi_abs, bi_sum, bi_alls, bi_any, bi_int, bi_intb, bi_tup, bi_lst, bi_srt, bi_rpr, bi_max2, bi_min2, bi_max, bi_min, sw_tup, sw_lst, sw_loc, rw_tup, rw_lst, rw_loc, mw_app, mw_pop, mw_ext, iw, stw, seqOf_tup, seqOf_lst, lstOf_lst, intsOf_map, eqv_int, lay_int, List.length_cons, List.length_nil, permute, List.filterMap_cons, List.filterMap_nil, gd_v, Its.ok, List.not_mem_nil, List.map_cons, List.map_nil, List.cons_append, List.nil_append, List.replicate, Nat.reduceAdd, Nat.reduceSub, Nat.zero_add, Nat.reduceLT, Nat.reduceLeDiff, false_implies, implies_true, isNone, wipeE, fnW, List.cons.injEq, and_assoc, eq_self, decide_true, decide_false, Bool.not_true, Bool.not_false, Bool.true_and, Bool.false_and, Bool.and_true, Bool.and_false, Bool.or_true, Bool.true_or, Bool.or_false, Bool.false_or, beq_self_eq_true, not_true_eq_false, not_false_eq_true, up_same, up_up, Option.isSome_some]
    exact h'
  · rw [if_neg c1] at h'
    have h2 := g.get (k := k) (by omega)
    have h3 := g.lt (i := 0) (j := k) (by omega) hlt
    rw [g.h0] at h3
    have e : ((bs.getD k (0, 0)).1 == 0) = false := beq_eq_false_iff_ne.mpr (by omega)
    simp only [e, evSs, evS, evR, evL, evO, evB, evT, evTs, evSrc, asVal_val, asVal_fl, asVal_flD, asVal_fd0, asNew_fl, List.getElem?_cons_zero, List.getElem?_cons_succ, List.getElem?_nil, Option.some.injEq, D.v.injEq, D.loc.injEq, Ob.lst.injEq, PyData.bool.injEq, PyData.int.injEq, PyData.str.injEq, PyData.tuple.injEq, PyData.list.injEq, exists_eq_left, exists_eq_left', exists_and_left, and_true, true_and, vw_v, dataOf_nil, dataOf_cons, dataOf_map, Option.map_some, if_true, Bool.false_eq_true, if_false, setE, List.set_cons_zero, List.set_cons_succ, exists_eq', exists_eq, isiW, bw_add, bw_sub, bw_mul, bw_fdiv, bw_mod, bw_pow, bw_adds, bw_addt, bw_addl, bw_addn, bw_mull, bw_mult, uw_neg, uw_not, cw_lt, cw_lte, cw_gt, cw_gte, cw_eq, cw_ne, eq_ss, eq_ii, eq_tt, eq_ll, eq_lo, eq_nn, eq_bb, cw_in, cw_nin, bi_len, lw_tup, lw_lst, lw_str, lw_loc, bi_abs, bi_sum, bi_alls, bi_any, bi_int, bi_intb, bi_tup, bi_lst, bi_srt, bi_rpr, bi_max2, bi_min2, bi_max, bi_min, sw_tup, sw_lst, sw_loc, rw_tup, rw_lst, rw_loc, mw_app, mw_pop, mw_ext, iw, stw, seqOf_tup, seqOf_lst, lstOf_lst, intsOf_map, eqv_int, lay_int, List.length_cons, List.length_nil, permute, List.filterMap_cons, List.filterMap_nil, gd_v, Its.ok, List.not_mem_nil, List.map_cons, List.map_nil, List.cons_append, List.nil_append, List.replicate, Nat.reduceAdd, Nat.reduceSub, Nat.zero_add, Nat.reduceLT, Nat.reduceLeDiff, false_implies, implies_true, isNone, wipeE, fnW, List.cons.injEq, and_assoc, eq_self, decide_true, decide_false, Bool.not_true, Bool.not_false, Bool.true_and, Bool.false_and, Bool.and_true, Bool.and_false, Bool.or_true, Bool.true_or, Bool.or_false, Bool.false_or, beq_self_eq_true, not_true_eq_false, not_false_eq_true, up_same, up_up, Option.isSome_some]
    exact ⟨.inl (by omega), by omega, by omega, h'⟩
end Lw

namespace Lw
open PySem L2 Pd PyProof.Rows
def L1 : List (Str × Sig) := [("_law_draw", sgDraw), ("_law_pick", sgPick)]
def sgOdd : Sig := sigOf (sigs L1) 2 1 i_law_odd
def L2' : List (Str × Sig) := ("_law_odd", sgOdd) :: L1
def sgCounts : Sig := sigOf (sigs L2') 8 2 i_law_counts
def tyBands (n m : Nat) : Ty := .seq true (.ex true [.int 0 10000, .int 0 10000]) n m
def sgValues : Sig := sigOf (sigs L2') 8 2 i_law_values
theorem sg_counts : subO (sgCounts [.bag, .v (tyBands 1 8)]) (.ex true [.int 0 1000000, .int 0 1000000]) = true := by kernel_rfl
theorem sg_values : subO (sgValues [.bag, .v (tyBands 1 8)]) (.seq false (.any 5 20000) 0 100) = true := by kernel_rfl
section
variable (T : Tb) (h1 : T "_law_draw" = spDraw) (h2 : T "_law_pick" = spPick)
theorem ok_law_odd (h1 : T "_law_draw" = spDraw) (h2 : T "_law_pick" = spPick) : ∀ ds M P PX, spA Bag sgOdd ds M P PX → fnW false T 2 1 i_law_odd ds M P PX := auto_ok disc_bag (entCons (ent_draw h1) (entCons (ent_pick h2) entNil))
theorem ok_law_counts (h1 : T "_law_draw" = spDraw) (h2 : T "_law_pick" = spPick) (h3 : T "_law_odd" = spA Bag sgOdd) : ∀ ds M P PX, spA Bag sgCounts ds M P PX → fnW false T 8 2 i_law_counts ds M P PX := auto_ok disc_bag (entCons (ent_A h3) (entCons (ent_draw h1) (entCons (ent_pick h2) entNil)))
theorem ok_law_values (h1 : T "_law_draw" = spDraw) (h2 : T "_law_pick" = spPick) (h3 : T "_law_odd" = spA Bag sgOdd) : ∀ ds M P PX, spA Bag sgValues ds M P PX → fnW false T 8 2 i_law_values ds M P PX := auto_ok disc_bag (entCons (ent_A h3) (entCons (ent_draw h1) (entCons (ent_pick h2) entNil)))
end
theorem in_bands {bs : List (Int × Int)} (g : Good bs) : In (tyBands 1 8) (.tuple (bs.map pr)) := by
  refine .seq (t := true) rfl (fun z hz => ?_) (by rw [List.length_map]; exact g.ne) (by rw [List.length_map]; exact g.len)
  obtain ⟨q, hq, rfl⟩ := List.mem_map.mp hz
  have := g.rng q hq
  exact .ex (t := true) rfl (.cons (.int this.1 this.2.1) (.cons (.int this.2.2.1 this.2.2.2) .nil))
theorem sm_str' {x : Str} {n : Nat} (h : (x.cps.toList.all fun c => decide (c < 16 ^ 8)) = true) (h2 : x.cps.size ≤ n) : Sm 0 n (.str x) := sm_str h h2
theorem sm_nat {k : Nat} (h : k < 1000) : Sm 0 400 (.int k) := sm_int (by
  have : (k : Int).natAbs < 1000 := by omega
  exact Nat.lt_trans this (by decide))
theorem sm_word {x : Str} {k : Int} (h : (x.cps.toList.all fun c => decide (c < 16 ^ 8)) = true) (h2 : x.cps.size ≤ 100) (h3 : 0 ≤ k) (h4 : k < 1000) : Sm 1 2000 (.tuple [.str x, .int k]) := by
  refine (sm_tup (d := 0) (n := 400) fun q hq => ?_).mono (by omega) (by simp)
  simp only [List.mem_cons, List.not_mem_nil, or_false] at hq
  rcases hq with rfl | rfl
  · exact sm_str h (by omega)
  · exact sm_int (by
      have : k.natAbs < 1000 := by omega
      exact Nat.lt_trans this (by decide))
theorem bandsErr_v (p : PyData) : ∃ q, bandsErr p = .v q ∧ Sm 1 2000 q := by
  have word : ∀ x : Str, (x.cps.toList.all fun c => decide (c < 16 ^ 8)) = true → x.cps.size ≤ 100 → Sm 1 2000 (.str x) := fun x h1 h2 => (sm_str h1 h2).mono (by omega) (by omega)
  unfold bandsErr
  split
  · split
    · rename_i ps hl
      split
      · rename_i r hr
        obtain ⟨x, hx, hg⟩ := find_some hr
        unfold g1 at hg
        split at hg
        · cases hg
        · cases hg
          have := List.snd_lt_of_mem_zipIdx hx
          exact ⟨_, rfl, sm_word (by decide +kernel) (by decide +kernel) (by omega) (by omega)⟩
      · split
        · split
          · rename_i r hr
            obtain ⟨x, hx, hg⟩ := find_some hr
            have := List.mem_range.mp hx
            unfold g2 at hg
            split at hg
            · cases hg
              exact ⟨_, rfl, sm_word (by decide +kernel) (by decide +kernel) (by omega) (by omega)⟩
            · cases hg
          · exact ⟨_, rfl, sm_none.mono (by omega) (by omega)⟩
        · exact ⟨_, rfl, word _ (by decide +kernel) (by decide +kernel)⟩
    · exact ⟨_, rfl, word _ (by decide +kernel) (by decide +kernel)⟩
  · exact ⟨_, rfl, word _ (by decide +kernel) (by decide +kernel)⟩
section
variable {bs : List (Int × Int)} {kept total : Int} {k j : Nat}
theorem next_gt (g : Good bs) (I : IsBand bs kept total k) (h : k + 1 < bs.length) : 10000 * kept < total * (bs.getD (k + 1) (0, 0)).1 := I.gt _ (by omega) h
theorem mono_le (g : Good bs) {i j : Nat} (h : i ≤ j) (hj : j < bs.length) : (bs.getD i (0, 0)).1 ≤ (bs.getD j (0, 0)).1 := by
  rcases Nat.lt_or_eq_of_le h with q | q
  · exact Int.le_of_lt (g.lt q hj)
  · rw [q]; exact Int.le_refl _
theorem more_ok (g : Good bs) (I : IsBand bs kept total k) (h : k + 1 < bs.length) (hn : (bs.getD (k + 1) (0, 0)).1 ≠ 10000) (t0 : 0 ≤ total) {mo : Int} (hmo : mo = -((10000 * kept - (bs.getD (k + 1) (0, 0)).1 * total) / (10000 - (bs.getD (k + 1) (0, 0)).1))) :
    0 < mo ∧ (∀ j, IsBand bs (kept + mo) (total + mo) j → k < j) ∧ (∀ j, IsBand bs (kept + mo - 1) (total + mo - 1) j → j ≤ k) := by
  have hg := g.get h
  have hx := next_gt g I h
  generalize hl : (bs.getD (k + 1) (0, 0)).1 = l at *
  have hw : 0 < 10000 - l := by omega
  generalize hX : 10000 * kept - l * total = X at *
  have hX0 : X < 0 := by rw [← hX, Int.mul_comm l]; omega
  have e1 : X = (10000 - l) * (X / (10000 - l)) + X % (10000 - l) := (Int.mul_ediv_add_emod X (10000 - l)).symm
  have e2 := Int.emod_nonneg X (by omega : 10000 - l ≠ 0)
  have e3 := Int.emod_lt_of_pos X hw
  have e4 : X / (10000 - l) < 0 := Int.ediv_neg_of_neg_of_pos hX0 hw
  have m0 : 0 < mo := by omega
  have e5 : (10000 - l) * (X / (10000 - l)) = -((10000 - l) * mo) := by rw [hmo, Int.mul_neg, Int.neg_neg]
  have e6 : (10000 - l) * mo = 10000 * mo - l * mo := Int.sub_mul ..
  refine ⟨m0, fun j J => ?_, fun j J => ?_⟩
  · refine Nat.lt_of_not_le fun hjk => ?_
    have := J.gt (k + 1) (by omega) h
    rw [hl, Int.add_mul, Int.mul_add] at this
    rw [Int.mul_comm total l, Int.mul_comm mo l] at this
    omega
  · refine Nat.le_of_not_lt fun hjk => ?_
    have h1 := J.le
    have h2 := mono_le g (i := k + 1) (j := j) (by omega) J.lt
    rw [hl] at h2
    have h3 : (total + mo - 1) * l ≤ (total + mo - 1) * (bs.getD j (0, 0)).1 := Int.mul_le_mul_of_nonneg_left h2 (by omega)
    have h4 : (total + mo - 1) * l = l * total + l * mo - l := by rw [Int.sub_mul, Int.add_mul, Int.one_mul, Int.mul_comm total, Int.mul_comm mo]
    omega
theorem still_ok (g : Good bs) (I : IsBand bs kept total k) (h : k + 1 = bs.length ∨ (bs.getD (k + 1) (0, 0)).1 = 10000) (J : IsBand bs (kept + 5000) (total + 5000) j) : j ≤ k := by
  refine Nat.le_of_not_lt fun hjk => ?_
  have hj := J.lt
  rcases h with h | h
  · omega
  · have h2 := mono_le g (i := k + 1) (j := j) (by omega) hj
    have h3 := (g.get hj).2.1
    have e : (bs.getD j (0, 0)).1 = 10000 := by omega
    have h4 := J.le
    have h5 := I.gt j hjk hj
    rw [e] at h4 h5
    omega
theorem less_ok (g : Good bs) (I : IsBand bs kept total k) (hk : k ≠ 0) (k0 : 0 ≤ kept) :
    let t := total + (10000 * kept / (bs.getD k (0, 0)).1 - total)
    (∀ j, IsBand bs kept t j → j = k) ∧ (∀ j, IsBand bs kept (t + 1) j → j ≠ k) := by
  intro t
  have h3 := g.lt (i := 0) (j := k) (by omega) I.lt
  rw [g.h0] at h3
  have ht : t = 10000 * kept / (bs.getD k (0, 0)).1 := by show total + (_ - total) = _; omega
  have hi := I.le
  have tt : total ≤ t := by
    rw [ht]
    exact (Int.le_ediv_iff_mul_le h3).mpr hi
  refine ⟨fun j J => ?_, fun j J e => ?_⟩
  · refine J.uniq ⟨I.lt, ?_, fun i h1 h2 => ?_⟩
    · rw [ht]; exact Int.ediv_mul_le _ (by omega)
    · have := I.gt i h1 h2
      have h4 := (g.get h2).1
      have := Int.mul_le_mul_of_nonneg_right tt h4
      omega
  · subst e
    have h4 := J.le
    rw [ht] at h4
    have := Int.lt_ediv_add_one_mul_self (10000 * kept) h3
    omega
theorem one_more (g : Good bs) (I : IsBand bs kept total k) (t0 : 0 ≤ total) (J : IsBand bs kept (total + 1) j) : j ≤ k := by
  refine Nat.le_of_not_lt fun hjk => ?_
  have h1 := J.le
  have h2 := I.gt j hjk J.lt
  have h3 := (g.get J.lt).1
  rw [Int.add_mul, Int.one_mul] at h1
  omega
theorem one_kept (g : Good bs) (I : IsBand bs kept total k) (J : IsBand bs (kept + 1) (total + 1) j) : k ≤ j := by
  refine Nat.le_of_not_lt fun hjk => ?_
  have h1 := J.gt k hjk I.lt
  have h2 := I.le
  have h3 := (g.get I.lt).2.1
  rw [Int.add_mul, Int.one_mul] at h1
  omega
end
end Lw

namespace Lw
open PySem L2 Pd PyProof.Rows
def spLaw : FS := fun ds M P _ => ∃ ns : List Int, ds = [.loc 0] ∧ M 0 = some (.fz (dints ns)) ∧ ns.length ≤ 63 ∧ ∀ M', P (.v (.bool true)) M'
structure Oks (T : Tb) : Prop where
  bag : T "_law_bag" = spBag
  draw : T "_law_draw" = spDraw
  pick : T "_law_pick" = spPick
  bands : T "_law_bands" = spBands
  vals : T "_law_values" = spA Bag sgValues
  cnts : T "_law_counts" = spA Bag sgCounts
  due : T "_law_due" = spBandsErr
  err : T "bands_error" = spBandsErr
  lband : T "_law_band" = spBand
  band : T "band_of" = spBand
  owed : T "owed" = spOwed
  lmore : T "_law_least_more" = spMore
  more : T "least_more" = spMore
  lmiss : T "_law_most_missed" = spMissed
  miss : T "most_missed" = spMissed
theorem vw_two {M : Mem} {k n : Nat} {a c : D} {x y : PyData} (h : M n = some (.lst [a, c])) (h1 : vw k M a = some x) (h2 : vw k M c = some y) : vw (k + 1) M (.loc n) = some (.list [x, y]) := by
  show (match M n with | some (.lst ds) => (ds.mapM (vw k M)).map PyData.list | _ => none) = _
  rw [h]
  show (([a, c] : List D).mapM (vw k M)).map PyData.list = _
  simp [List.mapM_cons, h1, h2]
theorem sm_bands {bs : List (Int × Int)} (g : Good bs) : Sm 2 300 (.tuple (bs.map pr)) := (in_bands g).sm (by kernel_rfl)
theorem sm_due {k : Nat} {o : Int} {p q : PyData} (h : k < 1000) (h1 : o.natAbs < 10 ^ 90) (h2 : Sm 0 400 p) (h3 : Sm 0 400 q) : Sm 1 2000 (.list [.int k, .int o, p, q]) := by
  refine (sm_list (d := 0) (n := 400) fun z hz => ?_).mono (by omega) (by simp)
  simp only [List.mem_cons, List.not_mem_nil, or_false] at hz
  rcases hz with rfl | rfl | rfl | rfl
  · exact sm_nat h
  · exact sm_int h1
  · exact h2
  · exact h3
theorem ediv_small {x y : Int} (hy : 0 < y) (hx : x.natAbs < 10 ^ 89) : (x / y).natAbs < 10 ^ 90 := by
  have : (x / y).natAbs ≤ x.natAbs := Int.natAbs_ediv_le_natAbs x y
  exact Nat.lt_trans (Nat.lt_of_le_of_lt this hx) (by decide)
theorem more_sm {bs : List (Int × Int)} {kept total : Int} {k : Nat} (g : Good bs) (hk : k < bs.length) (k0 : 0 ≤ kept ∧ kept ≤ 1000000) (t0 : 0 ≤ total ∧ total ≤ 1000000) : Sm 0 400 (more bs kept total k) := by
  unfold more
  split
  · exact sm_none.mono (by omega) (by omega)
  · split
    · exact sm_none.mono (by omega) (by omega)
    · have hg := g.get (k := k + 1) (by omega)
      refine sm_int ?_
      rw [Int.natAbs_neg]
      refine ediv_small (by omega) ?_
      have h1 : (bs.getD (k + 1) (0, 0)).1 * total ≤ 10000 * 1000000 := Int.mul_le_mul hg.2.1 t0.2 (by omega) (by omega)
      have h2 : 0 ≤ (bs.getD (k + 1) (0, 0)).1 * total := Int.mul_nonneg hg.1 t0.1
      have h3 : (10000 * kept - (bs.getD (k + 1) (0, 0)).1 * total).natAbs < 100000000000 := by omega
      exact Nat.lt_trans h3 (by decide)
theorem missed_sm {bs : List (Int × Int)} {kept total : Int} {k : Nat} (g : Good bs) (hk : k < bs.length) (k0 : 0 ≤ kept ∧ kept ≤ 1000000) (t0 : 0 ≤ total ∧ total ≤ 1000000) : Sm 0 400 (missed bs kept total k) := by
  unfold missed
  split
  · exact sm_none.mono (by omega) (by omega)
  · refine sm_int ?_
    have : (10000 * kept / (bs.getD k (0, 0)).1).natAbs ≤ (10000 * kept).natAbs := Int.natAbs_ediv_le_natAbs _ _
    have h3 : (10000 * kept / (bs.getD k (0, 0)).1 - total).natAbs < 100000000000 := by omega
    exact Nat.lt_trans h3 (by decide)
theorem ok_law (T : Tb) (t : Oks T) : ∀ ds M P PX, spLaw ds M P PX → fnW false T 16 1 i_law ds M P PX := by
  rintro _ M P PX ⟨ns, rfl, h0, hl, h⟩
  unfold i_law
  have hz := sizeLine_eq
  simp only [evSs, evS, evR, evL, evO, evB, evT, evTs, evSrc, asVal_val, asVal_fl, asVal_flD, asVal_fd0, asNew_fl, List.getElem?_cons_zero, List.getElem?_cons_succ, List.getElem?_nil, Option.some.injEq, D.v.injEq, D.loc.injEq, Ob.lst.injEq, PyData.bool.injEq, PyData.int.injEq, PyData.str.injEq, PyData.tuple.injEq, PyData.list.injEq, exists_eq_left, exists_eq_left', exists_and_left, and_true, true_and, vw_v, dataOf_nil, dataOf_cons, dataOf_map, Option.map_some, if_true, Bool.false_eq_true, if_false, setE, List.set_cons_zero, List.set_cons_succ, exists_eq', exists_eq, isiW, bw_add, bw_sub, bw_mul, bw_fdiv, bw_mod, bw_pow, bw_adds, bw_addt, bw_addl, bw_addn, bw_mull, bw_mult, uw_neg, uw_not, cw_lt, cw_lte, cw_gt, cw_gte, cw_eq, cw_ne, eq_ss, eq_ii, eq_tt, eq_ll, eq_lo, eq_nn, eq_bb, cw_in, cw_nin, bi_len, lw_tup, lw_lst, lw_str, lw_loc, bi_abs, bi_sum, bi_alls, bi_any, bi_int, bi_intb, bi_tup, bi_lst, bi_srt, bi_rpr, bi_max2, bi_min2, bi_max, bi_min, sw_tup, sw_lst, sw_loc, rw_tup, rw_lst, rw_loc, mw_app, mw_pop, mw_ext, iw, stw, seqOf_tup, seqOf_lst, lstOf_lst, intsOf_map, eqv_int, lay_int, List.length_cons, List.length_nil, permute, List.filterMap_cons, List.filterMap_nil, gd_v, Its.ok, List.not_mem_nil, List.map_cons, List.map_nil, List.cons_append, List.nil_append, List.replicate, Nat.reduceAdd, Nat.reduceSub, Nat.zero_add, Nat.reduceLT, Nat.reduceLeDiff, false_implies, implies_true, isNone, wipeE, fnW, List.cons.injEq, and_assoc, eq_self, decide_true, decide_false, Bool.not_true, Bool.not_false, Bool.true_and, Bool.false_and, Bool.and_true, Bool.and_false, Bool.or_true, Bool.true_or, Bool.or_false, Bool.false_or, beq_self_eq_true, not_true_eq_false, not_false_eq_true, up_same, up_up, Option.isSome_some, t.bag]
  refine ⟨ns, rfl, h0, hl, fun b m M1 hb hm B S => ?_⟩
  simp only [evSs, evS, evR, evL, evO, evB, evT, evTs, evSrc, asVal_val, asVal_fl, asVal_flD, asVal_fd0, asNew_fl, List.getElem?_cons_zero, List.getElem?_cons_succ, List.getElem?_nil, Option.some.injEq, D.v.injEq, D.loc.injEq, Ob.lst.injEq, PyData.bool.injEq, PyData.int.injEq, PyData.str.injEq, PyData.tuple.injEq, PyData.list.injEq, exists_eq_left, exists_eq_left', exists_and_left, and_true, true_and, vw_v, dataOf_nil, dataOf_cons, dataOf_map, Option.map_some, if_true, Bool.false_eq_true, if_false, setE, List.set_cons_zero, List.set_cons_succ, exists_eq', exists_eq, isiW, bw_add, bw_sub, bw_mul, bw_fdiv, bw_mod, bw_pow, bw_adds, bw_addt, bw_addl, bw_addn, bw_mull, bw_mult, uw_neg, uw_not, cw_lt, cw_lte, cw_gt, cw_gte, cw_eq, cw_ne, eq_ss, eq_ii, eq_tt, eq_ll, eq_lo, eq_nn, eq_bb, cw_in, cw_nin, bi_len, lw_tup, lw_lst, lw_str, lw_loc, bi_abs, bi_sum, bi_alls, bi_any, bi_int, bi_intb, bi_tup, bi_lst, bi_srt, bi_rpr, bi_max2, bi_min2, bi_max, bi_min, sw_tup, sw_lst, sw_loc, rw_tup, rw_lst, rw_loc, mw_app, mw_pop, mw_ext, iw, stw, seqOf_tup, seqOf_lst, lstOf_lst, intsOf_map, eqv_int, lay_int, List.length_cons, List.length_nil, permute, List.filterMap_cons, List.filterMap_nil, gd_v, Its.ok, List.not_mem_nil, List.map_cons, List.map_nil, List.cons_append, List.nil_append, List.replicate, Nat.reduceAdd, Nat.reduceSub, Nat.zero_add, Nat.reduceLT, Nat.reduceLeDiff, false_implies, implies_true, isNone, wipeE, fnW, List.cons.injEq, and_assoc, eq_self, decide_true, decide_false, Bool.not_true, Bool.not_false, Bool.true_and, Bool.false_and, Bool.and_true, Bool.and_false, Bool.or_true, Bool.true_or, Bool.or_false, Bool.false_or, beq_self_eq_true, not_true_eq_false, not_false_eq_true, up_same, up_up, Option.isSome_some, t.bands]
  refine ⟨b, m, rfl, B, fun bs M2 g B2 S2 => ?_⟩
  unfold i_law_1
  simp only [evSs, evS, evR, evL, evO, evB, evT, evTs, evSrc, asVal_val, asVal_fl, asVal_flD, asVal_fd0, asNew_fl, List.getElem?_cons_zero, List.getElem?_cons_succ, List.getElem?_nil, Option.some.injEq, D.v.injEq, D.loc.injEq, Ob.lst.injEq, PyData.bool.injEq, PyData.int.injEq, PyData.str.injEq, PyData.tuple.injEq, PyData.list.injEq, exists_eq_left, exists_eq_left', exists_and_left, and_true, true_and, vw_v, dataOf_nil, dataOf_cons, dataOf_map, Option.map_some, if_true, Bool.false_eq_true, if_false, setE, List.set_cons_zero, List.set_cons_succ, exists_eq', exists_eq, isiW, bw_add, bw_sub, bw_mul, bw_fdiv, bw_mod, bw_pow, bw_adds, bw_addt, bw_addl, bw_addn, bw_mull, bw_mult, uw_neg, uw_not, cw_lt, cw_lte, cw_gt, cw_gte, cw_eq, cw_ne, eq_ss, eq_ii, eq_tt, eq_ll, eq_lo, eq_nn, eq_bb, cw_in, cw_nin, bi_len, lw_tup, lw_lst, lw_str, lw_loc, bi_abs, bi_sum, bi_alls, bi_any, bi_int, bi_intb, bi_tup, bi_lst, bi_srt, bi_rpr, bi_max2, bi_min2, bi_max, bi_min, sw_tup, sw_lst, sw_loc, rw_tup, rw_lst, rw_loc, mw_app, mw_pop, mw_ext, iw, stw, seqOf_tup, seqOf_lst, lstOf_lst, intsOf_map, eqv_int, lay_int, List.length_cons, List.length_nil, permute, List.filterMap_cons, List.filterMap_nil, gd_v, Its.ok, List.not_mem_nil, List.map_cons, List.map_nil, List.cons_append, List.nil_append, List.replicate, Nat.reduceAdd, Nat.reduceSub, Nat.zero_add, Nat.reduceLT, Nat.reduceLeDiff, false_implies, implies_true, isNone, wipeE, fnW, List.cons.injEq, and_assoc, eq_self, decide_true, decide_false, Bool.not_true, Bool.not_false, Bool.true_and, Bool.false_and, Bool.and_true, Bool.and_false, Bool.or_true, Bool.true_or, Bool.or_false, Bool.false_or, beq_self_eq_true, not_true_eq_false, not_false_eq_true, up_same, up_up, Option.isSome_some, t.vals]
  refine spA_use [.bag, .v (tyBands 1 8)] _ sg_values ⟨rfl, ⟨_, rfl, in_bands g⟩, trivial⟩ B2 fun p M3 hp B3 S3 => ?_
  obtain ⟨qs, rfl, hq, _, hq2⟩ := hp.list_any
  have smb := sm_bands g
  simp only [evSs, evS, evR, evL, evO, evB, evT, evTs, evSrc, asVal_val, asVal_fl, asVal_flD, asVal_fd0, asNew_fl, List.getElem?_cons_zero, List.getElem?_cons_succ, List.getElem?_nil, Option.some.injEq, D.v.injEq, D.loc.injEq, Ob.lst.injEq, PyData.bool.injEq, PyData.int.injEq, PyData.str.injEq, PyData.tuple.injEq, PyData.list.injEq, exists_eq_left, exists_eq_left', exists_and_left, and_true, true_and, vw_v, dataOf_nil, dataOf_cons, dataOf_map, Option.map_some, if_true, Bool.false_eq_true, if_false, setE, List.set_cons_zero, List.set_cons_succ, exists_eq', exists_eq, isiW, bw_add, bw_sub, bw_mul, bw_fdiv, bw_mod, bw_pow, bw_adds, bw_addt, bw_addl, bw_addn, bw_mull, bw_mult, uw_neg, uw_not, cw_lt, cw_lte, cw_gt, cw_gte, cw_eq, cw_ne, eq_ss, eq_ii, eq_tt, eq_ll, eq_lo, eq_nn, eq_bb, cw_in, cw_nin, bi_len, lw_tup, lw_lst, lw_str, lw_loc, bi_abs, bi_sum, bi_alls, bi_any, bi_int, bi_intb, bi_tup, bi_lst, bi_srt, bi_rpr, bi_max2, bi_min2, bi_max, bi_min, sw_tup, sw_lst, sw_loc, rw_tup, rw_lst, rw_loc, mw_app, mw_pop, mw_ext, iw, stw, seqOf_tup, seqOf_lst, lstOf_lst, intsOf_map, eqv_int, lay_int, List.length_cons, List.length_nil, permute, List.filterMap_cons, List.filterMap_nil, gd_v, Its.ok, List.not_mem_nil, List.map_cons, List.map_nil, List.cons_append, List.nil_append, List.replicate, Nat.reduceAdd, Nat.reduceSub, Nat.zero_add, Nat.reduceLT, Nat.reduceLeDiff, false_implies, implies_true, isNone, wipeE, fnW, List.cons.injEq, and_assoc, eq_self, decide_true, decide_false, Bool.not_true, Bool.not_false, Bool.true_and, Bool.false_and, Bool.and_true, Bool.and_false, Bool.or_true, Bool.true_or, Bool.or_false, Bool.false_or, beq_self_eq_true, not_true_eq_false, not_false_eq_true, up_same, up_up, Option.isSome_some]
  refine forW_find (S := Option D × Option D × Option D) (s := (none, none, none)) (fun s => [some (.loc 0), some (.loc b), some (.v (.tuple (bs.map pr))), s.1, none, s.2.1, s.2.2, none, none, none, none, none, none, none, none, none]) D.v (fun _ => none) trivial (fun v hv s K hK hr => ?_) (fun r q => ?_) fun s q => ?_
  · unfold i_law_2
    have smv := hq v hv
    obtain ⟨e, he, sme⟩ := bandsErr_v v
    have smee := (sm_list (d := 1) (n := 2000) (ps := [e, e]) (by simpa using sme)).mono (Nat.le_refl _) (by simp : _ ≤ 5000)
    simp only [evSs, evS, evR, evL, evO, evB, evT, evTs, evSrc, asVal_val, asVal_fl, asVal_flD, asVal_fd0, asNew_fl, List.getElem?_cons_zero, List.getElem?_cons_succ, List.getElem?_nil, Option.some.injEq, D.v.injEq, D.loc.injEq, Ob.lst.injEq, PyData.bool.injEq, PyData.int.injEq, PyData.str.injEq, PyData.tuple.injEq, PyData.list.injEq, exists_eq_left, exists_eq_left', exists_and_left, and_true, true_and, vw_v, dataOf_nil, dataOf_cons, dataOf_map, Option.map_some, if_true, Bool.false_eq_true, if_false, setE, List.set_cons_zero, List.set_cons_succ, exists_eq', exists_eq, isiW, bw_add, bw_sub, bw_mul, bw_fdiv, bw_mod, bw_pow, bw_adds, bw_addt, bw_addl, bw_addn, bw_mull, bw_mult, uw_neg, uw_not, cw_lt, cw_lte, cw_gt, cw_gte, cw_eq, cw_ne, eq_ss, eq_ii, eq_tt, eq_ll, eq_lo, eq_nn, eq_bb, cw_in, cw_nin, bi_len, lw_tup, lw_lst, lw_str, lw_loc, bi_abs, bi_sum, bi_alls, bi_any, bi_int, bi_intb, bi_tup, bi_lst, bi_srt, bi_rpr, bi_max2, bi_min2, bi_max, bi_min, sw_tup, sw_lst, sw_loc, rw_tup, rw_lst, rw_loc, mw_app, mw_pop, mw_ext, iw, stw, seqOf_tup, seqOf_lst, lstOf_lst, intsOf_map, eqv_int, lay_int, List.length_cons, List.length_nil, permute, List.filterMap_cons, List.filterMap_nil, gd_v, Its.ok, List.not_mem_nil, List.map_cons, List.map_nil, List.cons_append, List.nil_append, List.replicate, Nat.reduceAdd, Nat.reduceSub, Nat.zero_add, Nat.reduceLT, Nat.reduceLeDiff, false_implies, implies_true, isNone, wipeE, fnW, List.cons.injEq, and_assoc, eq_self, decide_true, decide_false, Bool.not_true, Bool.not_false, Bool.true_and, Bool.false_and, Bool.and_true, Bool.and_false, Bool.or_true, Bool.true_or, Bool.or_false, Bool.false_or, beq_self_eq_true, not_true_eq_false, not_false_eq_true, up_same, up_up, Option.isSome_some, t.due]
    refine ⟨smv.sh, Nat.le_trans smv.dp (by omega), smv.fits (by omega), v, 20000, rfl, smv.mono (by omega) (by omega), by omega, ?_⟩
    rw [he]
    simp only [evSs, evS, evR, evL, evO, evB, evT, evTs, evSrc, asVal_val, asVal_fl, asVal_flD, asVal_fd0, asNew_fl, List.getElem?_cons_zero, List.getElem?_cons_succ, List.getElem?_nil, Option.some.injEq, D.v.injEq, D.loc.injEq, Ob.lst.injEq, PyData.bool.injEq, PyData.int.injEq, PyData.str.injEq, PyData.tuple.injEq, PyData.list.injEq, exists_eq_left, exists_eq_left', exists_and_left, and_true, true_and, vw_v, dataOf_nil, dataOf_cons, dataOf_map, Option.map_some, if_true, Bool.false_eq_true, if_false, setE, List.set_cons_zero, List.set_cons_succ, exists_eq', exists_eq, isiW, bw_add, bw_sub, bw_mul, bw_fdiv, bw_mod, bw_pow, bw_adds, bw_addt, bw_addl, bw_addn, bw_mull, bw_mult, uw_neg, uw_not, cw_lt, cw_lte, cw_gt, cw_gte, cw_eq, cw_ne, eq_ss, eq_ii, eq_tt, eq_ll, eq_lo, eq_nn, eq_bb, cw_in, cw_nin, bi_len, lw_tup, lw_lst, lw_str, lw_loc, bi_abs, bi_sum, bi_alls, bi_any, bi_int, bi_intb, bi_tup, bi_lst, bi_srt, bi_rpr, bi_max2, bi_min2, bi_max, bi_min, sw_tup, sw_lst, sw_loc, rw_tup, rw_lst, rw_loc, mw_app, mw_pop, mw_ext, iw, stw, seqOf_tup, seqOf_lst, lstOf_lst, intsOf_map, eqv_int, lay_int, List.length_cons, List.length_nil, permute, List.filterMap_cons, List.filterMap_nil, gd_v, Its.ok, List.not_mem_nil, List.map_cons, List.map_nil, List.cons_append, List.nil_append, List.replicate, Nat.reduceAdd, Nat.reduceSub, Nat.zero_add, Nat.reduceLT, Nat.reduceLeDiff, false_implies, implies_true, isNone, wipeE, fnW, List.cons.injEq, and_assoc, eq_self, decide_true, decide_false, Bool.not_true, Bool.not_false, Bool.true_and, Bool.false_and, Bool.and_true, Bool.and_false, Bool.or_true, Bool.true_or, Bool.or_false, Bool.false_or, beq_self_eq_true, not_true_eq_false, not_false_eq_true, up_same, up_up, Option.isSome_some, t.err]
    refine ⟨by omega, v, 20000, rfl, smv.mono (by omega) (by omega), by omega, ?_⟩
    rw [he]
    simp only [evSs, evS, evR, evL, evO, evB, evT, evTs, evSrc, asVal_val, asVal_fl, asVal_flD, asVal_fd0, asNew_fl, List.getElem?_cons_zero, List.getElem?_cons_succ, List.getElem?_nil, Option.some.injEq, D.v.injEq, D.loc.injEq, Ob.lst.injEq, PyData.bool.injEq, PyData.int.injEq, PyData.str.injEq, PyData.tuple.injEq, PyData.list.injEq, exists_eq_left, exists_eq_left', exists_and_left, and_true, true_and, vw_v, dataOf_nil, dataOf_cons, dataOf_map, Option.map_some, if_true, Bool.false_eq_true, if_false, setE, List.set_cons_zero, List.set_cons_succ, exists_eq', exists_eq, isiW, bw_add, bw_sub, bw_mul, bw_fdiv, bw_mod, bw_pow, bw_adds, bw_addt, bw_addl, bw_addn, bw_mull, bw_mult, uw_neg, uw_not, cw_lt, cw_lte, cw_gt, cw_gte, cw_eq, cw_ne, eq_ss, eq_ii, eq_tt, eq_ll, eq_lo, eq_nn, eq_bb, cw_in, cw_nin, bi_len, lw_tup, lw_lst, lw_str, lw_loc, bi_abs, bi_sum, bi_alls, bi_any, bi_int, bi_intb, bi_tup, bi_lst, bi_srt, bi_rpr, bi_max2, bi_min2, bi_max, bi_min, sw_tup, sw_lst, sw_loc, rw_tup, rw_lst, rw_loc, mw_app, mw_pop, mw_ext, iw, stw, seqOf_tup, seqOf_lst, lstOf_lst, intsOf_map, eqv_int, lay_int, List.length_cons, List.length_nil, permute, List.filterMap_cons, List.filterMap_nil, gd_v, Its.ok, List.not_mem_nil, List.map_cons, List.map_nil, List.cons_append, List.nil_append, List.replicate, Nat.reduceAdd, Nat.reduceSub, Nat.zero_add, Nat.reduceLT, Nat.reduceLeDiff, false_implies, implies_true, isNone, wipeE, fnW, List.cons.injEq, and_assoc, eq_self, decide_true, decide_false, Bool.not_true, Bool.not_false, Bool.true_and, Bool.false_and, Bool.and_true, Bool.and_false, Bool.or_true, Bool.true_or, Bool.or_false, Bool.false_or, beq_self_eq_true, not_true_eq_false, not_false_eq_true, up_same, up_up, Option.isSome_some]
    refine ⟨v, 20000, rfl, smv.mono (by omega) (by omega), by omega, ?_⟩
    rw [he]
    simp only [evSs, evS, evR, evL, evO, evB, evT, evTs, evSrc, asVal_val, asVal_fl, asVal_flD, asVal_fd0, asNew_fl, List.getElem?_cons_zero, List.getElem?_cons_succ, List.getElem?_nil, Option.some.injEq, D.v.injEq, D.loc.injEq, Ob.lst.injEq, PyData.bool.injEq, PyData.int.injEq, PyData.str.injEq, PyData.tuple.injEq, PyData.list.injEq, exists_eq_left, exists_eq_left', exists_and_left, and_true, true_and, vw_v, dataOf_nil, dataOf_cons, dataOf_map, Option.map_some, if_true, Bool.false_eq_true, if_false, setE, List.set_cons_zero, List.set_cons_succ, exists_eq', exists_eq, isiW, bw_add, bw_sub, bw_mul, bw_fdiv, bw_mod, bw_pow, bw_adds, bw_addt, bw_addl, bw_addn, bw_mull, bw_mult, uw_neg, uw_not, cw_lt, cw_lte, cw_gt, cw_gte, cw_eq, cw_ne, eq_ss, eq_ii, eq_tt, eq_ll, eq_lo, eq_nn, eq_bb, cw_in, cw_nin, bi_len, lw_tup, lw_lst, lw_str, lw_loc, bi_abs, bi_sum, bi_alls, bi_any, bi_int, bi_intb, bi_tup, bi_lst, bi_srt, bi_rpr, bi_max2, bi_min2, bi_max, bi_min, sw_tup, sw_lst, sw_loc, rw_tup, rw_lst, rw_loc, mw_app, mw_pop, mw_ext, iw, stw, seqOf_tup, seqOf_lst, lstOf_lst, intsOf_map, eqv_int, lay_int, List.length_cons, List.length_nil, permute, List.filterMap_cons, List.filterMap_nil, gd_v, Its.ok, List.not_mem_nil, List.map_cons, List.map_nil, List.cons_append, List.nil_append, List.replicate, Nat.reduceAdd, Nat.reduceSub, Nat.zero_add, Nat.reduceLT, Nat.reduceLeDiff, false_implies, implies_true, isNone, wipeE, fnW, List.cons.injEq, and_assoc, eq_self, decide_true, decide_false, Bool.not_true, Bool.not_false, Bool.true_and, Bool.false_and, Bool.and_true, Bool.and_false, Bool.or_true, Bool.true_or, Bool.or_false, Bool.false_or, beq_self_eq_true, not_true_eq_false, not_false_eq_true, up_same, up_up, Option.isSome_some]
    refine ⟨by omega, smee.sh, Nat.le_trans smee.dp (by omega), smee.fits (by omega), by omega, smee.sh, Nat.le_trans smee.dp (by omega), smee.fits (by omega), smv.sh, Nat.le_trans smv.dp (by omega), smv.fits (by omega), ?_⟩
    exact hK (_, _, _) rfl
  · cases (List.findSome?_eq_some_iff.mp q).choose_spec.choose_spec.choose_spec.2.1
  · unfold i_law_3
    simp only [evSs, evS, evR, evL, evO, evB, evT, evTs, evSrc, asVal_val, asVal_fl, asVal_flD, asVal_fd0, asNew_fl, List.getElem?_cons_zero, List.getElem?_cons_succ, List.getElem?_nil, Option.some.injEq, D.v.injEq, D.loc.injEq, Ob.lst.injEq, PyData.bool.injEq, PyData.int.injEq, PyData.str.injEq, PyData.tuple.injEq, PyData.list.injEq, exists_eq_left, exists_eq_left', exists_and_left, and_true, true_and, vw_v, dataOf_nil, dataOf_cons, dataOf_map, Option.map_some, if_true, Bool.false_eq_true, if_false, setE, List.set_cons_zero, List.set_cons_succ, exists_eq', exists_eq, isiW, bw_add, bw_sub, bw_mul, bw_fdiv, bw_mod, bw_pow, bw_adds, bw_addt, bw_addl, bw_addn, bw_mull, bw_mult, uw_neg, uw_not, cw_lt, cw_lte, cw_gt, cw_gte, cw_eq, cw_ne, eq_ss, eq_ii, eq_tt, eq_ll, eq_lo, eq_nn, eq_bb, cw_in, cw_nin, bi_len, lw_tup, lw_lst, lw_str, lw_loc, bi_abs, bi_sum, bi_alls, bi_any, bi_int, bi_intb, bi_tup, bi_lst, bi_srt, bi_rpr, bi_max2, bi_min2, bi_max, bi_min, sw_tup, sw_lst, sw_loc, rw_tup, rw_lst, rw_loc, mw_app, mw_pop, mw_ext, iw, stw, seqOf_tup, seqOf_lst, lstOf_lst, intsOf_map, eqv_int, lay_int, List.length_cons, List.length_nil, permute, List.filterMap_cons, List.filterMap_nil, gd_v, Its.ok, List.not_mem_nil, List.map_cons, List.map_nil, List.cons_append, List.nil_append, List.replicate, Nat.reduceAdd, Nat.reduceSub, Nat.zero_add, Nat.reduceLT, Nat.reduceLeDiff, false_implies, implies_true, isNone, wipeE, fnW, List.cons.injEq, and_assoc, eq_self, decide_true, decide_false, Bool.not_true, Bool.not_false, Bool.true_and, Bool.false_and, Bool.and_true, Bool.and_false, Bool.or_true, Bool.true_or, Bool.or_false, Bool.false_or, beq_self_eq_true, not_true_eq_false, not_false_eq_true, up_same, up_up, Option.isSome_some]
    refine ⟨by omega, by omega, by omega, by omega, ?_⟩
    refine forW_inv (fun rest env M' => ∃ d3 d4 d5 d6 d7 d8 d9 d10 d11 d12 d13 d14 d15, env = [some (.loc 0), some (.loc b), some (.v (.tuple (bs.map pr))), d3, d4, d5, d6, d7, d8, d9, d10, d11, d12, d13, d14, d15] ∧ Bag M' b m) ?_ ?_ ⟨_, _, _, _, _, _, _, _, _, _, _, _, _, rfl, B3⟩
    · rintro x rest env M4 K ⟨d3, d4, d5, d6, d7, d8, d9, d10, d11, d12, d13, d14, d15, rfl, B4⟩ hK
      unfold i_law_4
      simp only [evSs, evS, evR, evL, evO, evB, evT, evTs, evSrc, asVal_val, asVal_fl, asVal_flD, asVal_fd0, asNew_fl, List.getElem?_cons_zero, List.getElem?_cons_succ, List.getElem?_nil, Option.some.injEq, D.v.injEq, D.loc.injEq, Ob.lst.injEq, PyData.bool.injEq, PyData.int.injEq, PyData.str.injEq, PyData.tuple.injEq, PyData.list.injEq, exists_eq_left, exists_eq_left', exists_and_left, and_true, true_and, vw_v, dataOf_nil, dataOf_cons, dataOf_map, Option.map_some, if_true, Bool.false_eq_true, if_false, setE, List.set_cons_zero, List.set_cons_succ, exists_eq', exists_eq, isiW, bw_add, bw_sub, bw_mul, bw_fdiv, bw_mod, bw_pow, bw_adds, bw_addt, bw_addl, bw_addn, bw_mull, bw_mult, uw_neg, uw_not, cw_lt, cw_lte, cw_gt, cw_gte, cw_eq, cw_ne, eq_ss, eq_ii, eq_tt, eq_ll, eq_lo, eq_nn, eq_bb, cw_in, cw_nin, bi_len, lw_tup, lw_lst, lw_str, lw_loc, bi_abs, bi_sum, bi_alls, bi_any, bi_int, bi_intb, bi_tup, bi_lst, bi_srt, bi_rpr, bi_max2, bi_min2, bi_max, bi_min, sw_tup, sw_lst, sw_loc, rw_tup, rw_lst, rw_loc, mw_app, mw_pop, mw_ext, iw, stw, seqOf_tup, seqOf_lst, lstOf_lst, intsOf_map, eqv_int, lay_int, List.length_cons, List.length_nil, permute, List.filterMap_cons, List.filterMap_nil, gd_v, Its.ok, List.not_mem_nil, List.map_cons, List.map_nil, List.cons_append, List.nil_append, List.replicate, Nat.reduceAdd, Nat.reduceSub, Nat.zero_add, Nat.reduceLT, Nat.reduceLeDiff, false_implies, implies_true, isNone, wipeE, fnW, List.cons.injEq, and_assoc, eq_self, decide_true, decide_false, Bool.not_true, Bool.not_false, Bool.true_and, Bool.false_and, Bool.and_true, Bool.and_false, Bool.or_true, Bool.true_or, Bool.or_false, Bool.false_or, beq_self_eq_true, not_true_eq_false, not_false_eq_true, up_same, up_up, Option.isSome_some, t.cnts]
      refine spA_use [.bag, .v (tyBands 1 8)] _ sg_counts ⟨rfl, ⟨_, rfl, in_bands g⟩, trivial⟩ B4 fun p M5 hp B5 S5 => ?_
      obtain ⟨kept, total, rfl, k0, k1, t0, t1⟩ : ∃ kept total : Int, p = .tuple [.int kept, .int total] ∧ 0 ≤ kept ∧ kept ≤ 1000000 ∧ 0 ≤ total ∧ total ≤ 1000000 := by
        cases hp with
        | ex e h =>
          cases h with
          | cons a r => cases r with
            | cons c r => cases r with
              | nil => cases a with
                | int a1 a2 => cases c with
                  | int c1 c2 => exact ⟨_, _, e, a1, a2, c1, c2⟩
      simp only [evSs, evS, evR, evL, evO, evB, evT, evTs, evSrc, asVal_val, asVal_fl, asVal_flD, asVal_fd0, asNew_fl, List.getElem?_cons_zero, List.getElem?_cons_succ, List.getElem?_nil, Option.some.injEq, D.v.injEq, D.loc.injEq, Ob.lst.injEq, PyData.bool.injEq, PyData.int.injEq, PyData.str.injEq, PyData.tuple.injEq, PyData.list.injEq, exists_eq_left, exists_eq_left', exists_and_left, and_true, true_and, vw_v, dataOf_nil, dataOf_cons, dataOf_map, Option.map_some, if_true, Bool.false_eq_true, if_false, setE, List.set_cons_zero, List.set_cons_succ, exists_eq', exists_eq, isiW, bw_add, bw_sub, bw_mul, bw_fdiv, bw_mod, bw_pow, bw_adds, bw_addt, bw_addl, bw_addn, bw_mull, bw_mult, uw_neg, uw_not, cw_lt, cw_lte, cw_gt, cw_gte, cw_eq, cw_ne, eq_ss, eq_ii, eq_tt, eq_ll, eq_lo, eq_nn, eq_bb, cw_in, cw_nin, bi_len, lw_tup, lw_lst, lw_str, lw_loc, bi_abs, bi_sum, bi_alls, bi_any, bi_int, bi_intb, bi_tup, bi_lst, bi_srt, bi_rpr, bi_max2, bi_min2, bi_max, bi_min, sw_tup, sw_lst, sw_loc, rw_tup, rw_lst, rw_loc, mw_app, mw_pop, mw_ext, iw, stw, seqOf_tup, seqOf_lst, lstOf_lst, intsOf_map, eqv_int, lay_int, List.length_cons, List.length_nil, permute, List.filterMap_cons, List.filterMap_nil, gd_v, Its.ok, List.not_mem_nil, List.map_cons, List.map_nil, List.cons_append, List.nil_append, List.replicate, Nat.reduceAdd, Nat.reduceSub, Nat.zero_add, Nat.reduceLT, Nat.reduceLeDiff, false_implies, implies_true, isNone, wipeE, fnW, List.cons.injEq, and_assoc, eq_self, decide_true, decide_false, Bool.not_true, Bool.not_false, Bool.true_and, Bool.false_and, Bool.and_true, Bool.and_false, Bool.or_true, Bool.true_or, Bool.or_false, Bool.false_or, beq_self_eq_true, not_true_eq_false, not_false_eq_true, up_same, up_up, Option.isSome_some, t.draw]
      refine ⟨b, m, 9, rfl, by omega, by omega, B5, fun r1 M6 r10 r11 B6 S6 => ?_⟩
      simp only [evSs, evS, evR, evL, evO, evB, evT, evTs, evSrc, asVal_val, asVal_fl, asVal_flD, asVal_fd0, asNew_fl, List.getElem?_cons_zero, List.getElem?_cons_succ, List.getElem?_nil, Option.some.injEq, D.v.injEq, D.loc.injEq, Ob.lst.injEq, PyData.bool.injEq, PyData.int.injEq, PyData.str.injEq, PyData.tuple.injEq, PyData.list.injEq, exists_eq_left, exists_eq_left', exists_and_left, and_true, true_and, vw_v, dataOf_nil, dataOf_cons, dataOf_map, Option.map_some, if_true, Bool.false_eq_true, if_false, setE, List.set_cons_zero, List.set_cons_succ, exists_eq', exists_eq, isiW, bw_add, bw_sub, bw_mul, bw_fdiv, bw_mod, bw_pow, bw_adds, bw_addt, bw_addl, bw_addn, bw_mull, bw_mult, uw_neg, uw_not, cw_lt, cw_lte, cw_gt, cw_gte, cw_eq, cw_ne, eq_ss, eq_ii, eq_tt, eq_ll, eq_lo, eq_nn, eq_bb, cw_in, cw_nin, bi_len, lw_tup, lw_lst, lw_str, lw_loc, bi_abs, bi_sum, bi_alls, bi_any, bi_int, bi_intb, bi_tup, bi_lst, bi_srt, bi_rpr, bi_max2, bi_min2, bi_max, bi_min, sw_tup, sw_lst, sw_loc, rw_tup, rw_lst, rw_loc, mw_app, mw_pop, mw_ext, iw, stw, seqOf_tup, seqOf_lst, lstOf_lst, intsOf_map, eqv_int, lay_int, List.length_cons, List.length_nil, permute, List.filterMap_cons, List.filterMap_nil, gd_v, Its.ok, List.not_mem_nil, List.map_cons, List.map_nil, List.cons_append, List.nil_append, List.replicate, Nat.reduceAdd, Nat.reduceSub, Nat.zero_add, Nat.reduceLT, Nat.reduceLeDiff, false_implies, implies_true, isNone, wipeE, fnW, List.cons.injEq, and_assoc, eq_self, decide_true, decide_false, Bool.not_true, Bool.not_false, Bool.true_and, Bool.false_and, Bool.and_true, Bool.and_false, Bool.or_true, Bool.true_or, Bool.or_false, Bool.false_or, beq_self_eq_true, not_true_eq_false, not_false_eq_true, up_same, up_up, Option.isSome_some, t.draw]
      refine ⟨b, m, 1000001, rfl, by omega, by omega, B6, fun r2 M7 r20 r21 B7 S7 => ?_⟩
      simp only [evSs, evS, evR, evL, evO, evB, evT, evTs, evSrc, asVal_val, asVal_fl, asVal_flD, asVal_fd0, asNew_fl, List.getElem?_cons_zero, List.getElem?_cons_succ, List.getElem?_nil, Option.some.injEq, D.v.injEq, D.loc.injEq, Ob.lst.injEq, PyData.bool.injEq, PyData.int.injEq, PyData.str.injEq, PyData.tuple.injEq, PyData.list.injEq, exists_eq_left, exists_eq_left', exists_and_left, and_true, true_and, vw_v, dataOf_nil, dataOf_cons, dataOf_map, Option.map_some, if_true, Bool.false_eq_true, if_false, setE, List.set_cons_zero, List.set_cons_succ, exists_eq', exists_eq, isiW, bw_add, bw_sub, bw_mul, bw_fdiv, bw_mod, bw_pow, bw_adds, bw_addt, bw_addl, bw_addn, bw_mull, bw_mult, uw_neg, uw_not, cw_lt, cw_lte, cw_gt, cw_gte, cw_eq, cw_ne, eq_ss, eq_ii, eq_tt, eq_ll, eq_lo, eq_nn, eq_bb, cw_in, cw_nin, bi_len, lw_tup, lw_lst, lw_str, lw_loc, bi_abs, bi_sum, bi_alls, bi_any, bi_int, bi_intb, bi_tup, bi_lst, bi_srt, bi_rpr, bi_max2, bi_min2, bi_max, bi_min, sw_tup, sw_lst, sw_loc, rw_tup, rw_lst, rw_loc, mw_app, mw_pop, mw_ext, iw, stw, seqOf_tup, seqOf_lst, lstOf_lst, intsOf_map, eqv_int, lay_int, List.length_cons, List.length_nil, permute, List.filterMap_cons, List.filterMap_nil, gd_v, Its.ok, List.not_mem_nil, List.map_cons, List.map_nil, List.cons_append, List.nil_append, List.replicate, Nat.reduceAdd, Nat.reduceSub, Nat.zero_add, Nat.reduceLT, Nat.reduceLeDiff, false_implies, implies_true, isNone, wipeE, fnW, List.cons.injEq, and_assoc, eq_self, decide_true, decide_false, Bool.not_true, Bool.not_false, Bool.true_and, Bool.false_and, Bool.and_true, Bool.and_false, Bool.or_true, Bool.true_or, Bool.or_false, Bool.false_or, beq_self_eq_true, not_true_eq_false, not_false_eq_true, up_same, up_up, Option.isSome_some, t.pick]
      refine ⟨by omega, b, m, [.int r1, .int r2, .int 1000000, .int 5000], _, rfl, .inl rfl, by simp, by simp; omega, B7, fun p M8 hp B8 S8 => ?_⟩
      obtain ⟨price, rfl, p0, p1⟩ : ∃ price : Int, p = .int price ∧ 0 ≤ price ∧ price ≤ 1000000 := by
        simp only [List.mem_cons, List.not_mem_nil, or_false] at hp
        rcases hp with rfl | rfl | rfl | rfl
        · exact ⟨_, rfl, by omega, by omega⟩
        · exact ⟨_, rfl, by omega, by omega⟩
        · exact ⟨_, rfl, by omega, by omega⟩
        · exact ⟨_, rfl, by omega, by omega⟩
      simp only [evSs, evS, evR, evL, evO, evB, evT, evTs, evSrc, asVal_val, asVal_fl, asVal_flD, asVal_fd0, asNew_fl, List.getElem?_cons_zero, List.getElem?_cons_succ, List.getElem?_nil, Option.some.injEq, D.v.injEq, D.loc.injEq, Ob.lst.injEq, PyData.bool.injEq, PyData.int.injEq, PyData.str.injEq, PyData.tuple.injEq, PyData.list.injEq, exists_eq_left, exists_eq_left', exists_and_left, and_true, true_and, vw_v, dataOf_nil, dataOf_cons, dataOf_map, Option.map_some, if_true, Bool.false_eq_true, if_false, setE, List.set_cons_zero, List.set_cons_succ, exists_eq', exists_eq, isiW, bw_add, bw_sub, bw_mul, bw_fdiv, bw_mod, bw_pow, bw_adds, bw_addt, bw_addl, bw_addn, bw_mull, bw_mult, uw_neg, uw_not, cw_lt, cw_lte, cw_gt, cw_gte, cw_eq, cw_ne, eq_ss, eq_ii, eq_tt, eq_ll, eq_lo, eq_nn, eq_bb, cw_in, cw_nin, bi_len, lw_tup, lw_lst, lw_str, lw_loc, bi_abs, bi_sum, bi_alls, bi_any, bi_int, bi_intb, bi_tup, bi_lst, bi_srt, bi_rpr, bi_max2, bi_min2, bi_max, bi_min, sw_tup, sw_lst, sw_loc, rw_tup, rw_lst, rw_loc, mw_app, mw_pop, mw_ext, iw, stw, seqOf_tup, seqOf_lst, lstOf_lst, intsOf_map, eqv_int, lay_int, List.length_cons, List.length_nil, permute, List.filterMap_cons, List.filterMap_nil, gd_v, Its.ok, List.not_mem_nil, List.map_cons, List.map_nil, List.cons_append, List.nil_append, List.replicate, Nat.reduceAdd, Nat.reduceSub, Nat.zero_add, Nat.reduceLT, Nat.reduceLeDiff, false_implies, implies_true, isNone, wipeE, fnW, List.cons.injEq, and_assoc, eq_self, decide_true, decide_false, Bool.not_true, Bool.not_false, Bool.true_and, Bool.false_and, Bool.and_true, Bool.and_false, Bool.or_true, Bool.true_or, Bool.or_false, Bool.false_or, beq_self_eq_true, not_true_eq_false, not_false_eq_true, up_same, up_up, Option.isSome_some, t.lband, smb.sh, smb.fits (by omega)]
      refine ⟨Nat.le_trans smb.dp (by omega), by omega, bs, kept, total, rfl, g, k0, fun k I => ?_⟩
      have hb2 := g.get I.lt
      have hlen := g.len
      have hlt := I.lt
      have a1 := enc_atD (xs := bs) (enc := pr) (k := k) (i := k) (d := (0, 0)) I.lt rfl
      simp only [evSs, evS, evR, evL, evO, evB, evT, evTs, evSrc, asVal_val, asVal_fl, asVal_flD, asVal_fd0, asNew_fl, List.getElem?_cons_zero, List.getElem?_cons_succ, List.getElem?_nil, Option.some.injEq, D.v.injEq, D.loc.injEq, Ob.lst.injEq, PyData.bool.injEq, PyData.int.injEq, PyData.str.injEq, PyData.tuple.injEq, PyData.list.injEq, exists_eq_left, exists_eq_left', exists_and_left, and_true, true_and, vw_v, dataOf_nil, dataOf_cons, dataOf_map, Option.map_some, if_true, Bool.false_eq_true, if_false, setE, List.set_cons_zero, List.set_cons_succ, exists_eq', exists_eq, isiW, bw_add, bw_sub, bw_mul, bw_fdiv, bw_mod, bw_pow, bw_adds, bw_addt, bw_addl, bw_addn, bw_mull, bw_mult, uw_neg, uw_not, cw_lt, cw_lte, cw_gt, cw_gte, cw_eq, cw_ne, eq_ss, eq_ii, eq_tt, eq_ll, eq_lo, eq_nn, eq_bb, cw_in, cw_nin, bi_len, lw_tup, lw_lst, lw_str, lw_loc, bi_abs, bi_sum, bi_alls, bi_any, bi_int, bi_intb, bi_tup, bi_lst, bi_srt, bi_rpr, bi_max2, bi_min2, bi_max, bi_min, sw_tup, sw_lst, sw_loc, rw_tup, rw_lst, rw_loc, mw_app, mw_pop, mw_ext, iw, stw, seqOf_tup, seqOf_lst, lstOf_lst, intsOf_map, eqv_int, lay_int, List.length_cons, List.length_nil, permute, List.filterMap_cons, List.filterMap_nil, gd_v, Its.ok, List.not_mem_nil, List.map_cons, List.map_nil, List.cons_append, List.nil_append, List.replicate, Nat.reduceAdd, Nat.reduceSub, Nat.zero_add, Nat.reduceLT, Nat.reduceLeDiff, false_implies, implies_true, isNone, wipeE, fnW, List.cons.injEq, and_assoc, eq_self, decide_true, decide_false, Bool.not_true, Bool.not_false, Bool.true_and, Bool.false_and, Bool.and_true, Bool.and_false, Bool.or_true, Bool.true_or, Bool.or_false, Bool.false_or, beq_self_eq_true, not_true_eq_false, not_false_eq_true, up_same, up_up, Option.isSome_some, t.lmore, a1, pr, pair1]
      refine ⟨.inl (by omega), .inr (by omega), by omega, by omega, bs, kept, total, rfl, g, k0, fun k' I' => ?_⟩
      have ek := I'.uniq I
      subst ek
      simp only [evSs, evS, evR, evL, evO, evB, evT, evTs, evSrc, asVal_val, asVal_fl, asVal_flD, asVal_fd0, asNew_fl, List.getElem?_cons_zero, List.getElem?_cons_succ, List.getElem?_nil, Option.some.injEq, D.v.injEq, D.loc.injEq, Ob.lst.injEq, PyData.bool.injEq, PyData.int.injEq, PyData.str.injEq, PyData.tuple.injEq, PyData.list.injEq, exists_eq_left, exists_eq_left', exists_and_left, and_true, true_and, vw_v, dataOf_nil, dataOf_cons, dataOf_map, Option.map_some, if_true, Bool.false_eq_true, if_false, setE, List.set_cons_zero, List.set_cons_succ, exists_eq', exists_eq, isiW, bw_add, bw_sub, bw_mul, bw_fdiv, bw_mod, bw_pow, bw_adds, bw_addt, bw_addl, bw_addn, bw_mull, bw_mult, uw_neg, uw_not, cw_lt, cw_lte, cw_gt, cw_gte, cw_eq, cw_ne, eq_ss, eq_ii, eq_tt, eq_ll, eq_lo, eq_nn, eq_bb, cw_in, cw_nin, bi_len, lw_tup, lw_lst, lw_str, lw_loc, bi_abs, bi_sum, bi_alls, bi_any, bi_int, bi_intb, bi_tup, bi_lst, bi_srt, bi_rpr, bi_max2, bi_min2, bi_max, bi_min, sw_tup, sw_lst, sw_loc, rw_tup, rw_lst, rw_loc, mw_app, mw_pop, mw_ext, iw, stw, seqOf_tup, seqOf_lst, lstOf_lst, intsOf_map, eqv_int, lay_int, List.length_cons, List.length_nil, permute, List.filterMap_cons, List.filterMap_nil, gd_v, Its.ok, List.not_mem_nil, List.map_cons, List.map_nil, List.cons_append, List.nil_append, List.replicate, Nat.reduceAdd, Nat.reduceSub, Nat.zero_add, Nat.reduceLT, Nat.reduceLeDiff, false_implies, implies_true, isNone, wipeE, fnW, List.cons.injEq, and_assoc, eq_self, decide_true, decide_false, Bool.not_true, Bool.not_false, Bool.true_and, Bool.false_and, Bool.and_true, Bool.and_false, Bool.or_true, Bool.true_or, Bool.or_false, Bool.false_or, beq_self_eq_true, not_true_eq_false, not_false_eq_true, up_same, up_up, Option.isSome_some]
      refine ⟨by omega, fun nd hnd => ?_⟩
      have hnb := B8.some hnd
      have B9 := B8.up (o := .lst [.v (.int k'), .v (.int ((2 * price * (bs.getD k' (0, 0)).2 + 10000) / 20000)), .v (more bs kept total k')]) hnb.1 hnb.2
      try simp only [evSs, evS, evR, evL, evO, evB, evT, evTs, evSrc, asVal_val, asVal_fl, asVal_flD, asVal_fd0, asNew_fl, List.getElem?_cons_zero, List.getElem?_cons_succ, List.getElem?_nil, Option.some.injEq, D.v.injEq, D.loc.injEq, Ob.lst.injEq, PyData.bool.injEq, PyData.int.injEq, PyData.str.injEq, PyData.tuple.injEq, PyData.list.injEq, exists_eq_left, exists_eq_left', exists_and_left, and_true, true_and, vw_v, dataOf_nil, dataOf_cons, dataOf_map, Option.map_some, if_true, Bool.false_eq_true, if_false, setE, List.set_cons_zero, List.set_cons_succ, exists_eq', exists_eq, isiW, bw_add, bw_sub, bw_mul, bw_fdiv, bw_mod, bw_pow, bw_adds, bw_addt, bw_addl, bw_addn, bw_mull, bw_mult, uw_neg, uw_not, cw_lt, cw_lte, cw_gt, cw_gte, cw_eq, cw_ne, eq_ss, eq_ii, eq_tt, eq_ll, eq_lo, eq_nn, eq_bb, cw_in, cw_nin, bi_len, lw_tup, lw_lst, lw_str, lw_loc, bi_abs, bi_sum, bi_alls, bi_any, bi_int, bi_intb, bi_tup, bi_lst, bi_srt, bi_rpr, bi_max2, bi_min2, bi_max, bi_min, sw_tup, sw_lst, sw_loc, rw_tup, rw_lst, rw_loc, mw_app, mw_pop, mw_ext, iw, stw, seqOf_tup, seqOf_lst, lstOf_lst, intsOf_map, eqv_int, lay_int, List.length_cons, List.length_nil, permute, List.filterMap_cons, List.filterMap_nil, gd_v, Its.ok, List.not_mem_nil, List.map_cons, List.map_nil, List.cons_append, List.nil_append, List.replicate, Nat.reduceAdd, Nat.reduceSub, Nat.zero_add, Nat.reduceLT, Nat.reduceLeDiff, false_implies, implies_true, isNone, wipeE, fnW, List.cons.injEq, and_assoc, eq_self, decide_true, decide_false, Bool.not_true, Bool.not_false, Bool.true_and, Bool.false_and, Bool.and_true, Bool.and_false, Bool.or_true, Bool.true_or, Bool.or_false, Bool.false_or, beq_self_eq_true, not_true_eq_false, not_false_eq_true, up_same, up_up, Option.isSome_some, lstOf_loc (up_same _ _ _), Option.isSome_some, t.lmiss, up_same, up_up]
      refine ⟨bs, kept, total, rfl, g, k0, fun k I' => ?_⟩
      have ek := I'.uniq I
      subst ek
      try simp only [evSs, evS, evR, evL, evO, evB, evT, evTs, evSrc, asVal_val, asVal_fl, asVal_flD, asVal_fd0, asNew_fl, List.getElem?_cons_zero, List.getElem?_cons_succ, List.getElem?_nil, Option.some.injEq, D.v.injEq, D.loc.injEq, Ob.lst.injEq, PyData.bool.injEq, PyData.int.injEq, PyData.str.injEq, PyData.tuple.injEq, PyData.list.injEq, exists_eq_left, exists_eq_left', exists_and_left, and_true, true_and, vw_v, dataOf_nil, dataOf_cons, dataOf_map, Option.map_some, if_true, Bool.false_eq_true, if_false, setE, List.set_cons_zero, List.set_cons_succ, exists_eq', exists_eq, isiW, bw_add, bw_sub, bw_mul, bw_fdiv, bw_mod, bw_pow, bw_adds, bw_addt, bw_addl, bw_addn, bw_mull, bw_mult, uw_neg, uw_not, cw_lt, cw_lte, cw_gt, cw_gte, cw_eq, cw_ne, eq_ss, eq_ii, eq_tt, eq_ll, eq_lo, eq_nn, eq_bb, cw_in, cw_nin, bi_len, lw_tup, lw_lst, lw_str, lw_loc, bi_abs, bi_sum, bi_alls, bi_any, bi_int, bi_intb, bi_tup, bi_lst, bi_srt, bi_rpr, bi_max2, bi_min2, bi_max, bi_min, sw_tup, sw_lst, sw_loc, rw_tup, rw_lst, rw_loc, mw_app, mw_pop, mw_ext, iw, stw, seqOf_tup, seqOf_lst, lstOf_lst, intsOf_map, eqv_int, lay_int, List.length_cons, List.length_nil, permute, List.filterMap_cons, List.filterMap_nil, gd_v, Its.ok, List.not_mem_nil, List.map_cons, List.map_nil, List.cons_append, List.nil_append, List.replicate, Nat.reduceAdd, Nat.reduceSub, Nat.zero_add, Nat.reduceLT, Nat.reduceLeDiff, false_implies, implies_true, isNone, wipeE, fnW, List.cons.injEq, and_assoc, eq_self, decide_true, decide_false, Bool.not_true, Bool.not_false, Bool.true_and, Bool.false_and, Bool.and_true, Bool.and_false, Bool.or_true, Bool.true_or, Bool.or_false, Bool.false_or, beq_self_eq_true, not_true_eq_false, not_false_eq_true, up_same, up_up, Option.isSome_some, t.band]
      refine ⟨by omega, bs, kept, total, rfl, g, k0, fun k I' => ?_⟩
      have ek := I'.uniq I
      subst ek
      try simp only [evSs, evS, evR, evL, evO, evB, evT, evTs, evSrc, asVal_val, asVal_fl, asVal_flD, asVal_fd0, asNew_fl, List.getElem?_cons_zero, List.getElem?_cons_succ, List.getElem?_nil, Option.some.injEq, D.v.injEq, D.loc.injEq, Ob.lst.injEq, PyData.bool.injEq, PyData.int.injEq, PyData.str.injEq, PyData.tuple.injEq, PyData.list.injEq, exists_eq_left, exists_eq_left', exists_and_left, and_true, true_and, vw_v, dataOf_nil, dataOf_cons, dataOf_map, Option.map_some, if_true, Bool.false_eq_true, if_false, setE, List.set_cons_zero, List.set_cons_succ, exists_eq', exists_eq, isiW, bw_add, bw_sub, bw_mul, bw_fdiv, bw_mod, bw_pow, bw_adds, bw_addt, bw_addl, bw_addn, bw_mull, bw_mult, uw_neg, uw_not, cw_lt, cw_lte, cw_gt, cw_gte, cw_eq, cw_ne, eq_ss, eq_ii, eq_tt, eq_ll, eq_lo, eq_nn, eq_bb, cw_in, cw_nin, bi_len, lw_tup, lw_lst, lw_str, lw_loc, bi_abs, bi_sum, bi_alls, bi_any, bi_int, bi_intb, bi_tup, bi_lst, bi_srt, bi_rpr, bi_max2, bi_min2, bi_max, bi_min, sw_tup, sw_lst, sw_loc, rw_tup, rw_lst, rw_loc, mw_app, mw_pop, mw_ext, iw, stw, seqOf_tup, seqOf_lst, lstOf_lst, intsOf_map, eqv_int, lay_int, List.length_cons, List.length_nil, permute, List.filterMap_cons, List.filterMap_nil, gd_v, Its.ok, List.not_mem_nil, List.map_cons, List.map_nil, List.cons_append, List.nil_append, List.replicate, Nat.reduceAdd, Nat.reduceSub, Nat.zero_add, Nat.reduceLT, Nat.reduceLeDiff, false_implies, implies_true, isNone, wipeE, fnW, List.cons.injEq, and_assoc, eq_self, decide_true, decide_false, Bool.not_true, Bool.not_false, Bool.true_and, Bool.false_and, Bool.and_true, Bool.and_false, Bool.or_true, Bool.true_or, Bool.or_false, Bool.false_or, beq_self_eq_true, not_true_eq_false, not_false_eq_true, up_same, up_up, Option.isSome_some, t.owed]
      refine ⟨bs, kept, total, price, rfl, g, k0, p0, p1, fun k I' => ?_⟩
      have ek := I'.uniq I
      subst ek
      try simp only [evSs, evS, evR, evL, evO, evB, evT, evTs, evSrc, asVal_val, asVal_fl, asVal_flD, asVal_fd0, asNew_fl, List.getElem?_cons_zero, List.getElem?_cons_succ, List.getElem?_nil, Option.some.injEq, D.v.injEq, D.loc.injEq, Ob.lst.injEq, PyData.bool.injEq, PyData.int.injEq, PyData.str.injEq, PyData.tuple.injEq, PyData.list.injEq, exists_eq_left, exists_eq_left', exists_and_left, and_true, true_and, vw_v, dataOf_nil, dataOf_cons, dataOf_map, Option.map_some, if_true, Bool.false_eq_true, if_false, setE, List.set_cons_zero, List.set_cons_succ, exists_eq', exists_eq, isiW, bw_add, bw_sub, bw_mul, bw_fdiv, bw_mod, bw_pow, bw_adds, bw_addt, bw_addl, bw_addn, bw_mull, bw_mult, uw_neg, uw_not, cw_lt, cw_lte, cw_gt, cw_gte, cw_eq, cw_ne, eq_ss, eq_ii, eq_tt, eq_ll, eq_lo, eq_nn, eq_bb, cw_in, cw_nin, bi_len, lw_tup, lw_lst, lw_str, lw_loc, bi_abs, bi_sum, bi_alls, bi_any, bi_int, bi_intb, bi_tup, bi_lst, bi_srt, bi_rpr, bi_max2, bi_min2, bi_max, bi_min, sw_tup, sw_lst, sw_loc, rw_tup, rw_lst, rw_loc, mw_app, mw_pop, mw_ext, iw, stw, seqOf_tup, seqOf_lst, lstOf_lst, intsOf_map, eqv_int, lay_int, List.length_cons, List.length_nil, permute, List.filterMap_cons, List.filterMap_nil, gd_v, Its.ok, List.not_mem_nil, List.map_cons, List.map_nil, List.cons_append, List.nil_append, List.replicate, Nat.reduceAdd, Nat.reduceSub, Nat.zero_add, Nat.reduceLT, Nat.reduceLeDiff, false_implies, implies_true, isNone, wipeE, fnW, List.cons.injEq, and_assoc, eq_self, decide_true, decide_false, Bool.not_true, Bool.not_false, Bool.true_and, Bool.false_and, Bool.and_true, Bool.and_false, Bool.or_true, Bool.true_or, Bool.or_false, Bool.false_or, beq_self_eq_true, not_true_eq_false, not_false_eq_true, up_same, up_up, Option.isSome_some, t.more]
      refine ⟨bs, kept, total, rfl, g, k0, fun k I' => ?_⟩
      have ek := I'.uniq I
      subst ek
      generalize ho : (2 * price * (bs.getD k (0, 0)).2 + 10000) / 20000 = o
      generalize hmo : more bs kept total k = mo
      generalize hmi : missed bs kept total k = mi
      try simp only [evSs, evS, evR, evL, evO, evB, evT, evTs, evSrc, asVal_val, asVal_fl, asVal_flD, asVal_fd0, asNew_fl, List.getElem?_cons_zero, List.getElem?_cons_succ, List.getElem?_nil, Option.some.injEq, D.v.injEq, D.loc.injEq, Ob.lst.injEq, PyData.bool.injEq, PyData.int.injEq, PyData.str.injEq, PyData.tuple.injEq, PyData.list.injEq, exists_eq_left, exists_eq_left', exists_and_left, and_true, true_and, vw_v, dataOf_nil, dataOf_cons, dataOf_map, Option.map_some, if_true, Bool.false_eq_true, if_false, setE, List.set_cons_zero, List.set_cons_succ, exists_eq', exists_eq, isiW, bw_add, bw_sub, bw_mul, bw_fdiv, bw_mod, bw_pow, bw_adds, bw_addt, bw_addl, bw_addn, bw_mull, bw_mult, uw_neg, uw_not, cw_lt, cw_lte, cw_gt, cw_gte, cw_eq, cw_ne, eq_ss, eq_ii, eq_tt, eq_ll, eq_lo, eq_nn, eq_bb, cw_in, cw_nin, bi_len, lw_tup, lw_lst, lw_str, lw_loc, bi_abs, bi_sum, bi_alls, bi_any, bi_int, bi_intb, bi_tup, bi_lst, bi_srt, bi_rpr, bi_max2, bi_min2, bi_max, bi_min, sw_tup, sw_lst, sw_loc, rw_tup, rw_lst, rw_loc, mw_app, mw_pop, mw_ext, iw, stw, seqOf_tup, seqOf_lst, lstOf_lst, intsOf_map, eqv_int, lay_int, List.length_cons, List.length_nil, permute, List.filterMap_cons, List.filterMap_nil, gd_v, Its.ok, List.not_mem_nil, List.map_cons, List.map_nil, List.cons_append, List.nil_append, List.replicate, Nat.reduceAdd, Nat.reduceSub, Nat.zero_add, Nat.reduceLT, Nat.reduceLeDiff, false_implies, implies_true, isNone, wipeE, fnW, List.cons.injEq, and_assoc, eq_self, decide_true, decide_false, Bool.not_true, Bool.not_false, Bool.true_and, Bool.false_and, Bool.and_true, Bool.and_false, Bool.or_true, Bool.true_or, Bool.or_false, Bool.false_or, beq_self_eq_true, not_true_eq_false, not_false_eq_true, up_same, up_up, Option.isSome_some]
      refine ⟨by omega, fun nt hnt => ?_⟩
      have ntd : nt ≠ nd := fun e => by rw [e, up_same] at hnt; cases hnt
      rw [up_ne ntd] at hnt
      have hntb := B8.some hnt
      try simp only [evSs, evS, evR, evL, evO, evB, evT, evTs, evSrc, asVal_val, asVal_fl, asVal_flD, asVal_fd0, asNew_fl, List.getElem?_cons_zero, List.getElem?_cons_succ, List.getElem?_nil, Option.some.injEq, D.v.injEq, D.loc.injEq, Ob.lst.injEq, PyData.bool.injEq, PyData.int.injEq, PyData.str.injEq, PyData.tuple.injEq, PyData.list.injEq, exists_eq_left, exists_eq_left', exists_and_left, and_true, true_and, vw_v, dataOf_nil, dataOf_cons, dataOf_map, Option.map_some, if_true, Bool.false_eq_true, if_false, setE, List.set_cons_zero, List.set_cons_succ, exists_eq', exists_eq, isiW, bw_add, bw_sub, bw_mul, bw_fdiv, bw_mod, bw_pow, bw_adds, bw_addt, bw_addl, bw_addn, bw_mull, bw_mult, uw_neg, uw_not, cw_lt, cw_lte, cw_gt, cw_gte, cw_eq, cw_ne, eq_ss, eq_ii, eq_tt, eq_ll, eq_lo, eq_nn, eq_bb, cw_in, cw_nin, bi_len, lw_tup, lw_lst, lw_str, lw_loc, bi_abs, bi_sum, bi_alls, bi_any, bi_int, bi_intb, bi_tup, bi_lst, bi_srt, bi_rpr, bi_max2, bi_min2, bi_max, bi_min, sw_tup, sw_lst, sw_loc, rw_tup, rw_lst, rw_loc, mw_app, mw_pop, mw_ext, iw, stw, seqOf_tup, seqOf_lst, lstOf_lst, intsOf_map, eqv_int, lay_int, List.length_cons, List.length_nil, permute, List.filterMap_cons, List.filterMap_nil, gd_v, Its.ok, List.not_mem_nil, List.map_cons, List.map_nil, List.cons_append, List.nil_append, List.replicate, Nat.reduceAdd, Nat.reduceSub, Nat.zero_add, Nat.reduceLT, Nat.reduceLeDiff, false_implies, implies_true, isNone, wipeE, fnW, List.cons.injEq, and_assoc, eq_self, decide_true, decide_false, Bool.not_true, Bool.not_false, Bool.true_and, Bool.false_and, Bool.and_true, Bool.and_false, Bool.or_true, Bool.true_or, Bool.or_false, Bool.false_or, beq_self_eq_true, not_true_eq_false, not_false_eq_true, up_same, up_up, Option.isSome_some, lstOf_loc (up_same _ _ _), Option.isSome_some, t.miss, up_same, up_up]
      refine ⟨bs, kept, total, rfl, g, k0, fun k I' => ?_⟩
      have ek := I'.uniq I
      subst ek
      rw [hmi]
      try simp only [evSs, evS, evR, evL, evO, evB, evT, evTs, evSrc, asVal_val, asVal_fl, asVal_flD, asVal_fd0, asNew_fl, List.getElem?_cons_zero, List.getElem?_cons_succ, List.getElem?_nil, Option.some.injEq, D.v.injEq, D.loc.injEq, Ob.lst.injEq, PyData.bool.injEq, PyData.int.injEq, PyData.str.injEq, PyData.tuple.injEq, PyData.list.injEq, exists_eq_left, exists_eq_left', exists_and_left, and_true, true_and, vw_v, dataOf_nil, dataOf_cons, dataOf_map, Option.map_some, if_true, Bool.false_eq_true, if_false, setE, List.set_cons_zero, List.set_cons_succ, exists_eq', exists_eq, isiW, bw_add, bw_sub, bw_mul, bw_fdiv, bw_mod, bw_pow, bw_adds, bw_addt, bw_addl, bw_addn, bw_mull, bw_mult, uw_neg, uw_not, cw_lt, cw_lte, cw_gt, cw_gte, cw_eq, cw_ne, eq_ss, eq_ii, eq_tt, eq_ll, eq_lo, eq_nn, eq_bb, cw_in, cw_nin, bi_len, lw_tup, lw_lst, lw_str, lw_loc, bi_abs, bi_sum, bi_alls, bi_any, bi_int, bi_intb, bi_tup, bi_lst, bi_srt, bi_rpr, bi_max2, bi_min2, bi_max, bi_min, sw_tup, sw_lst, sw_loc, rw_tup, rw_lst, rw_loc, mw_app, mw_pop, mw_ext, iw, stw, seqOf_tup, seqOf_lst, lstOf_lst, intsOf_map, eqv_int, lay_int, List.length_cons, List.length_nil, permute, List.filterMap_cons, List.filterMap_nil, gd_v, Its.ok, List.not_mem_nil, List.map_cons, List.map_nil, List.cons_append, List.nil_append, List.replicate, Nat.reduceAdd, Nat.reduceSub, Nat.zero_add, Nat.reduceLT, Nat.reduceLeDiff, false_implies, implies_true, isNone, wipeE, fnW, List.cons.injEq, and_assoc, eq_self, decide_true, decide_false, Bool.not_true, Bool.not_false, Bool.true_and, Bool.false_and, Bool.and_true, Bool.and_false, Bool.or_true, Bool.true_or, Bool.or_false, Bool.false_or, beq_self_eq_true, not_true_eq_false, not_false_eq_true, up_same, up_up, Option.isSome_some, t.band]
      refine ⟨by omega, bs, kept, total, rfl, g, k0, fun k I' => ?_⟩
      have ek := I'.uniq I
      subst ek
      try simp only [evSs, evS, evR, evL, evO, evB, evT, evTs, evSrc, asVal_val, asVal_fl, asVal_flD, asVal_fd0, asNew_fl, List.getElem?_cons_zero, List.getElem?_cons_succ, List.getElem?_nil, Option.some.injEq, D.v.injEq, D.loc.injEq, Ob.lst.injEq, PyData.bool.injEq, PyData.int.injEq, PyData.str.injEq, PyData.tuple.injEq, PyData.list.injEq, exists_eq_left, exists_eq_left', exists_and_left, and_true, true_and, vw_v, dataOf_nil, dataOf_cons, dataOf_map, Option.map_some, if_true, Bool.false_eq_true, if_false, setE, List.set_cons_zero, List.set_cons_succ, exists_eq', exists_eq, isiW, bw_add, bw_sub, bw_mul, bw_fdiv, bw_mod, bw_pow, bw_adds, bw_addt, bw_addl, bw_addn, bw_mull, bw_mult, uw_neg, uw_not, cw_lt, cw_lte, cw_gt, cw_gte, cw_eq, cw_ne, eq_ss, eq_ii, eq_tt, eq_ll, eq_lo, eq_nn, eq_bb, cw_in, cw_nin, bi_len, lw_tup, lw_lst, lw_str, lw_loc, bi_abs, bi_sum, bi_alls, bi_any, bi_int, bi_intb, bi_tup, bi_lst, bi_srt, bi_rpr, bi_max2, bi_min2, bi_max, bi_min, sw_tup, sw_lst, sw_loc, rw_tup, rw_lst, rw_loc, mw_app, mw_pop, mw_ext, iw, stw, seqOf_tup, seqOf_lst, lstOf_lst, intsOf_map, eqv_int, lay_int, List.length_cons, List.length_nil, permute, List.filterMap_cons, List.filterMap_nil, gd_v, Its.ok, List.not_mem_nil, List.map_cons, List.map_nil, List.cons_append, List.nil_append, List.replicate, Nat.reduceAdd, Nat.reduceSub, Nat.zero_add, Nat.reduceLT, Nat.reduceLeDiff, false_implies, implies_true, isNone, wipeE, fnW, List.cons.injEq, and_assoc, eq_self, decide_true, decide_false, Bool.not_true, Bool.not_false, Bool.true_and, Bool.false_and, Bool.and_true, Bool.and_false, Bool.or_true, Bool.true_or, Bool.or_false, Bool.false_or, beq_self_eq_true, not_true_eq_false, not_false_eq_true, up_same, up_up, Option.isSome_some, t.owed]
      refine ⟨bs, kept, total, price, rfl, g, k0, p0, p1, fun k I' => ?_⟩
      have ek := I'.uniq I
      subst ek
      rw [ho]
      try simp only [evSs, evS, evR, evL, evO, evB, evT, evTs, evSrc, asVal_val, asVal_fl, asVal_flD, asVal_fd0, asNew_fl, List.getElem?_cons_zero, List.getElem?_cons_succ, List.getElem?_nil, Option.some.injEq, D.v.injEq, D.loc.injEq, Ob.lst.injEq, PyData.bool.injEq, PyData.int.injEq, PyData.str.injEq, PyData.tuple.injEq, PyData.list.injEq, exists_eq_left, exists_eq_left', exists_and_left, and_true, true_and, vw_v, dataOf_nil, dataOf_cons, dataOf_map, Option.map_some, if_true, Bool.false_eq_true, if_false, setE, List.set_cons_zero, List.set_cons_succ, exists_eq', exists_eq, isiW, bw_add, bw_sub, bw_mul, bw_fdiv, bw_mod, bw_pow, bw_adds, bw_addt, bw_addl, bw_addn, bw_mull, bw_mult, uw_neg, uw_not, cw_lt, cw_lte, cw_gt, cw_gte, cw_eq, cw_ne, eq_ss, eq_ii, eq_tt, eq_ll, eq_lo, eq_nn, eq_bb, cw_in, cw_nin, bi_len, lw_tup, lw_lst, lw_str, lw_loc, bi_abs, bi_sum, bi_alls, bi_any, bi_int, bi_intb, bi_tup, bi_lst, bi_srt, bi_rpr, bi_max2, bi_min2, bi_max, bi_min, sw_tup, sw_lst, sw_loc, rw_tup, rw_lst, rw_loc, mw_app, mw_pop, mw_ext, iw, stw, seqOf_tup, seqOf_lst, lstOf_lst, intsOf_map, eqv_int, lay_int, List.length_cons, List.length_nil, permute, List.filterMap_cons, List.filterMap_nil, gd_v, Its.ok, List.not_mem_nil, List.map_cons, List.map_nil, List.cons_append, List.nil_append, List.replicate, Nat.reduceAdd, Nat.reduceSub, Nat.zero_add, Nat.reduceLT, Nat.reduceLeDiff, false_implies, implies_true, isNone, wipeE, fnW, List.cons.injEq, and_assoc, eq_self, decide_true, decide_false, Bool.not_true, Bool.not_false, Bool.true_and, Bool.false_and, Bool.and_true, Bool.and_false, Bool.or_true, Bool.true_or, Bool.or_false, Bool.false_or, beq_self_eq_true, not_true_eq_false, not_false_eq_true, up_same, up_up, Option.isSome_some]
      refine ⟨by omega, fun nn hnn => ?_⟩
      have nnt : nn ≠ nt := fun e => by rw [e, up_same] at hnn; cases hnn
      rw [up_ne nnt] at hnn
      have nnd : nn ≠ nd := fun e => by rw [e, up_same] at hnn; cases hnn
      rw [up_ne nnd] at hnn
      have hnnb := B8.some hnn
      try simp only [evSs, evS, evR, evL, evO, evB, evT, evTs, evSrc, asVal_val, asVal_fl, asVal_flD, asVal_fd0, asNew_fl, List.getElem?_cons_zero, List.getElem?_cons_succ, List.getElem?_nil, Option.some.injEq, D.v.injEq, D.loc.injEq, Ob.lst.injEq, PyData.bool.injEq, PyData.int.injEq, PyData.str.injEq, PyData.tuple.injEq, PyData.list.injEq, exists_eq_left, exists_eq_left', exists_and_left, and_true, true_and, vw_v, dataOf_nil, dataOf_cons, dataOf_map, Option.map_some, if_true, Bool.false_eq_true, if_false, setE, List.set_cons_zero, List.set_cons_succ, exists_eq', exists_eq, isiW, bw_add, bw_sub, bw_mul, bw_fdiv, bw_mod, bw_pow, bw_adds, bw_addt, bw_addl, bw_addn, bw_mull, bw_mult, uw_neg, uw_not, cw_lt, cw_lte, cw_gt, cw_gte, cw_eq, cw_ne, eq_ss, eq_ii, eq_tt, eq_ll, eq_lo, eq_nn, eq_bb, cw_in, cw_nin, bi_len, lw_tup, lw_lst, lw_str, lw_loc, bi_abs, bi_sum, bi_alls, bi_any, bi_int, bi_intb, bi_tup, bi_lst, bi_srt, bi_rpr, bi_max2, bi_min2, bi_max, bi_min, sw_tup, sw_lst, sw_loc, rw_tup, rw_lst, rw_loc, mw_app, mw_pop, mw_ext, iw, stw, seqOf_tup, seqOf_lst, lstOf_lst, intsOf_map, eqv_int, lay_int, List.length_cons, List.length_nil, permute, List.filterMap_cons, List.filterMap_nil, gd_v, Its.ok, List.not_mem_nil, List.map_cons, List.map_nil, List.cons_append, List.nil_append, List.replicate, Nat.reduceAdd, Nat.reduceSub, Nat.zero_add, Nat.reduceLT, Nat.reduceLeDiff, false_implies, implies_true, isNone, wipeE, fnW, List.cons.injEq, and_assoc, eq_self, decide_true, decide_false, Bool.not_true, Bool.not_false, Bool.true_and, Bool.false_and, Bool.and_true, Bool.and_false, Bool.or_true, Bool.true_or, Bool.or_false, Bool.false_or, beq_self_eq_true, not_true_eq_false, not_false_eq_true, up_same, up_up, Option.isSome_some, lstOf_loc (up_same _ _ _), Option.isSome_some, t.more, up_same, up_up]
      refine ⟨bs, kept, total, rfl, g, k0, fun k I' => ?_⟩
      have ek := I'.uniq I
      subst ek
      rw [hmo]
      try simp only [evSs, evS, evR, evL, evO, evB, evT, evTs, evSrc, asVal_val, asVal_fl, asVal_flD, asVal_fd0, asNew_fl, List.getElem?_cons_zero, List.getElem?_cons_succ, List.getElem?_nil, Option.some.injEq, D.v.injEq, D.loc.injEq, Ob.lst.injEq, PyData.bool.injEq, PyData.int.injEq, PyData.str.injEq, PyData.tuple.injEq, PyData.list.injEq, exists_eq_left, exists_eq_left', exists_and_left, and_true, true_and, vw_v, dataOf_nil, dataOf_cons, dataOf_map, Option.map_some, if_true, Bool.false_eq_true, if_false, setE, List.set_cons_zero, List.set_cons_succ, exists_eq', exists_eq, isiW, bw_add, bw_sub, bw_mul, bw_fdiv, bw_mod, bw_pow, bw_adds, bw_addt, bw_addl, bw_addn, bw_mull, bw_mult, uw_neg, uw_not, cw_lt, cw_lte, cw_gt, cw_gte, cw_eq, cw_ne, eq_ss, eq_ii, eq_tt, eq_ll, eq_lo, eq_nn, eq_bb, cw_in, cw_nin, bi_len, lw_tup, lw_lst, lw_str, lw_loc, bi_abs, bi_sum, bi_alls, bi_any, bi_int, bi_intb, bi_tup, bi_lst, bi_srt, bi_rpr, bi_max2, bi_min2, bi_max, bi_min, sw_tup, sw_lst, sw_loc, rw_tup, rw_lst, rw_loc, mw_app, mw_pop, mw_ext, iw, stw, seqOf_tup, seqOf_lst, lstOf_lst, intsOf_map, eqv_int, lay_int, List.length_cons, List.length_nil, permute, List.filterMap_cons, List.filterMap_nil, gd_v, Its.ok, List.not_mem_nil, List.map_cons, List.map_nil, List.cons_append, List.nil_append, List.replicate, Nat.reduceAdd, Nat.reduceSub, Nat.zero_add, Nat.reduceLT, Nat.reduceLeDiff, false_implies, implies_true, isNone, wipeE, fnW, List.cons.injEq, and_assoc, eq_self, decide_true, decide_false, Bool.not_true, Bool.not_false, Bool.true_and, Bool.false_and, Bool.and_true, Bool.and_false, Bool.or_true, Bool.true_or, Bool.or_false, Bool.false_or, beq_self_eq_true, not_true_eq_false, not_false_eq_true, up_same, up_up, Option.isSome_some, lstOf_loc (up_same _ _ _), Option.isSome_some, t.miss, up_same, up_up]
      refine ⟨by omega, bs, kept, total, rfl, g, k0, fun k I' => ?_⟩
      have ek := I'.uniq I
      subst ek
      rw [hmi]
      simp only [evSs, evS, evR, evL, evO, evB, evT, evTs, evSrc, asVal_val, asVal_fl, asVal_flD, asVal_fd0, asNew_fl, List.getElem?_cons_zero, List.getElem?_cons_succ, List.getElem?_nil, Option.some.injEq, D.v.injEq, D.loc.injEq, Ob.lst.injEq, PyData.bool.injEq, PyData.int.injEq, PyData.str.injEq, PyData.tuple.injEq, PyData.list.injEq, exists_eq_left, exists_eq_left', exists_and_left, and_true, true_and, vw_v, dataOf_nil, dataOf_cons, dataOf_map, Option.map_some, if_true, Bool.false_eq_true, if_false, setE, List.set_cons_zero, List.set_cons_succ, exists_eq', exists_eq, isiW, bw_add, bw_sub, bw_mul, bw_fdiv, bw_mod, bw_pow, bw_adds, bw_addt, bw_addl, bw_addn, bw_mull, bw_mult, uw_neg, uw_not, cw_lt, cw_lte, cw_gt, cw_gte, cw_eq, cw_ne, eq_ss, eq_ii, eq_tt, eq_ll, eq_lo, eq_nn, eq_bb, cw_in, cw_nin, bi_len, lw_tup, lw_lst, lw_str, lw_loc, bi_abs, bi_sum, bi_alls, bi_any, bi_int, bi_intb, bi_tup, bi_lst, bi_srt, bi_rpr, bi_max2, bi_min2, bi_max, bi_min, sw_tup, sw_lst, sw_loc, rw_tup, rw_lst, rw_loc, mw_app, mw_pop, mw_ext, iw, stw, seqOf_tup, seqOf_lst, lstOf_lst, intsOf_map, eqv_int, lay_int, List.length_cons, List.length_nil, permute, List.filterMap_cons, List.filterMap_nil, gd_v, Its.ok, List.not_mem_nil, List.map_cons, List.map_nil, List.cons_append, List.nil_append, List.replicate, Nat.reduceAdd, Nat.reduceSub, Nat.zero_add, Nat.reduceLT, Nat.reduceLeDiff, false_implies, implies_true, isNone, wipeE, fnW, List.cons.injEq, and_assoc, eq_self, decide_true, decide_false, Bool.not_true, Bool.not_false, Bool.true_and, Bool.false_and, Bool.and_true, Bool.and_false, Bool.or_true, Bool.true_or, Bool.or_false, Bool.false_or, beq_self_eq_true, not_true_eq_false, not_false_eq_true, up_same, up_up, Option.isSome_some]
      generalize hM9 : up (up (up M8 nd (.lst [.v (.int k), .v (.int o), .v mo, .v mi])) nt (.lst [.v (.int k), .v (.int o), .v mo, .v mi])) nn (.lst [.v (.int k), .v (.int o), .v mo, .v mi]) = M9
      have B9 : Bag M9 b m := by rw [← hM9]; exact ((B8.up hnb.1 hnb.2).up hntb.1 hntb.2).up hnnb.1 hnnb.2
      have e1 : M9 nd = some (.lst [.v (.int k), .v (.int o), .v mo, .v mi]) := by rw [← hM9, up_ne (Ne.symm nnd), up_ne (Ne.symm ntd), up_same]
      have e2 : M9 nt = some (.lst [.v (.int k), .v (.int o), .v mo, .v mi]) := by rw [← hM9, up_ne (Ne.symm nnt), up_same]
      have e3 : M9 nn = some (.lst [.v (.int k), .v (.int o), .v mo, .v mi]) := by rw [← hM9, up_same]
      refine ⟨by omega, by omega, fun n1 hn1 => ?_⟩
      have hn1b := B9.some hn1
      have n1t : n1 ≠ nt := fun e => by rw [e, e2] at hn1; cases hn1
      have n1n : n1 ≠ nn := fun e => by rw [e, e3] at hn1; cases hn1
      have n1d : n1 ≠ nd := fun e => by rw [e, e1] at hn1; cases hn1
      have v1 : ∀ n, M9 n = some (.lst [.v (.int k), .v (.int o), .v mo, .v mi]) → n1 ≠ n → ∀ q, vw 3 (up M9 n1 q) (.loc n) = some (.list [.int k, .int o, mo, mi]) := fun n e ne q => vw_loc (ps := [.int k, .int o, mo, mi]) ((up_ne (Ne.symm ne)).trans e)
      have w1 : vw 4 (up M9 n1 (.lst [.loc nt, .loc nn])) (.loc n1) = some (.list [.list [.int k, .int o, mo, mi], .list [.int k, .int o, mo, mi]]) := vw_two (up_same _ _ _) (v1 nt e2 n1t _) (v1 nn e3 n1n _)
      have hoo : o.natAbs < 10 ^ 90 := by
        rw [← ho]
        refine ediv_small (by omega) ?_
        have : 2 * price * (bs.getD k (0, 0)).2 ≤ 2 * 1000000 * 10000 := Int.mul_le_mul (by omega) hb2.2.2.2 hb2.2.2.1 (by omega)
        have : 0 ≤ 2 * price * (bs.getD k (0, 0)).2 := Int.mul_nonneg (by omega) hb2.2.2.1
        have h3 : (2 * price * (bs.getD k (0, 0)).2 + 10000).natAbs < 100000000000 := by omega
        exact Nat.lt_trans h3 (by decide)
      have smo : Sm 0 400 mo := by rw [← hmo]; exact more_sm g hlt ⟨k0, k1⟩ ⟨t0, t1⟩
      have smi : Sm 0 400 mi := by rw [← hmi]; exact missed_sm g hlt ⟨k0, k1⟩ ⟨t0, t1⟩
      have smd := sm_due (k := k) (by omega) hoo smo smi
      have smdd := (sm_list (d := 1) (n := 2000) (ps := [.list [.int k, .int o, mo, mi], .list [.int k, .int o, mo, mi]]) (by simpa using smd)).mono (Nat.le_refl _) (by simp : _ ≤ 5000)
      try simp only [evSs, evS, evR, evL, evO, evB, evT, evTs, evSrc, asVal_val, asVal_fl, asVal_flD, asVal_fd0, asNew_fl, List.getElem?_cons_zero, List.getElem?_cons_succ, List.getElem?_nil, Option.some.injEq, D.v.injEq, D.loc.injEq, Ob.lst.injEq, PyData.bool.injEq, PyData.int.injEq, PyData.str.injEq, PyData.tuple.injEq, PyData.list.injEq, exists_eq_left, exists_eq_left', exists_and_left, and_true, true_and, vw_v, dataOf_nil, dataOf_cons, dataOf_map, Option.map_some, if_true, Bool.false_eq_true, if_false, setE, List.set_cons_zero, List.set_cons_succ, exists_eq', exists_eq, isiW, bw_add, bw_sub, bw_mul, bw_fdiv, bw_mod, bw_pow, bw_adds, bw_addt, bw_addl, bw_addn, bw_mull, bw_mult, uw_neg, uw_not, cw_lt, cw_lte, cw_gt, cw_gte, cw_eq, cw_ne, eq_ss, eq_ii, eq_tt, eq_ll, eq_lo, eq_nn, eq_bb, cw_in, cw_nin, bi_len, lw_tup, lw_lst, lw_str, lw_loc, bi_abs, bi_sum, bi_alls, bi_any, bi_int, bi_intb, bi_tup, bi_lst, bi_srt, bi_rpr, bi_max2, bi_min2, bi_max, bi_min, sw_tup, sw_lst, sw_loc, rw_tup, rw_lst, rw_loc, mw_app, mw_pop, mw_ext, iw, stw, seqOf_tup, seqOf_lst, lstOf_lst, intsOf_map, eqv_int, lay_int, List.length_cons, List.length_nil, permute, List.filterMap_cons, List.filterMap_nil, gd_v, Its.ok, List.not_mem_nil, List.map_cons, List.map_nil, List.cons_append, List.nil_append, List.replicate, Nat.reduceAdd, Nat.reduceSub, Nat.zero_add, Nat.reduceLT, Nat.reduceLeDiff, false_implies, implies_true, isNone, wipeE, fnW, List.cons.injEq, and_assoc, eq_self, decide_true, decide_false, Bool.not_true, Bool.not_false, Bool.true_and, Bool.false_and, Bool.and_true, Bool.and_false, Bool.or_true, Bool.true_or, Bool.or_false, Bool.false_or, beq_self_eq_true, not_true_eq_false, not_false_eq_true, up_same, up_up, Option.isSome_some, w1]
      refine ⟨smdd.sh, Nat.le_trans smdd.dp (by omega), smdd.fits (by omega), by omega, fun n2 hn2 => ?_⟩
      have n21 : n2 ≠ n1 := fun e => by rw [e, up_same] at hn2; cases hn2
      rw [up_ne n21] at hn2
      have hn2b := B9.some hn2
      have n2d : n2 ≠ nd := fun e => by rw [e, e1] at hn2; cases hn2
      have w2 : vw 4 (up (up M9 n1 (.lst [.loc nt, .loc nn])) n2 (.lst [.loc nd, .loc nd])) (.loc n2) = some (.list [.list [.int k, .int o, mo, mi], .list [.int k, .int o, mo, mi]]) := by
        have : vw 3 (up (up M9 n1 (.lst [.loc nt, .loc nn])) n2 (.lst [.loc nd, .loc nd])) (.loc nd) = some (.list [.int k, .int o, mo, mi]) := vw_loc (ps := [.int k, .int o, mo, mi]) (by rw [up_ne (Ne.symm n2d), up_ne (Ne.symm n1d)]; exact e1)
        exact vw_two (up_same _ _ _) this this
      have B10 : Bag (up (up M9 n1 (.lst [.loc nt, .loc nn])) n2 (.lst [.loc nd, .loc nd])) b m := (B9.up hn1b.1 hn1b.2).up hn2b.1 hn2b.2
      have q1 : seqOf (up (up M9 n1 (.lst [.loc nt, .loc nn])) n2 (.lst [.loc nd, .loc nd])) (.loc nd) = some [.v (.int k), .v (.int o), .v mo, .v mi] := seqOf_loc (by rw [up_ne (Ne.symm n2d), up_ne (Ne.symm n1d)]; exact e1)
      generalize hM10 : up (up M9 n1 (.lst [.loc nt, .loc nn])) n2 (.lst [.loc nd, .loc nd]) = M10 at w2 B10 q1 ⊢
      have x2 : atI [D.v (.int k), .v (.int o), .v mo, .v mi] 2 = some (.v mo) := rfl
      have x3 : atI [D.v (.int k), .v (.int o), .v mo, .v mi] 3 = some (.v mi) := rfl
      try simp only [evSs, evS, evR, evL, evO, evB, evT, evTs, evSrc, asVal_val, asVal_fl, asVal_flD, asVal_fd0, asNew_fl, List.getElem?_cons_zero, List.getElem?_cons_succ, List.getElem?_nil, Option.some.injEq, D.v.injEq, D.loc.injEq, Ob.lst.injEq, PyData.bool.injEq, PyData.int.injEq, PyData.str.injEq, PyData.tuple.injEq, PyData.list.injEq, exists_eq_left, exists_eq_left', exists_and_left, and_true, true_and, vw_v, dataOf_nil, dataOf_cons, dataOf_map, Option.map_some, if_true, Bool.false_eq_true, if_false, setE, List.set_cons_zero, List.set_cons_succ, exists_eq', exists_eq, isiW, bw_add, bw_sub, bw_mul, bw_fdiv, bw_mod, bw_pow, bw_adds, bw_addt, bw_addl, bw_addn, bw_mull, bw_mult, uw_neg, uw_not, cw_lt, cw_lte, cw_gt, cw_gte, cw_eq, cw_ne, eq_ss, eq_ii, eq_tt, eq_ll, eq_lo, eq_nn, eq_bb, cw_in, cw_nin, bi_len, lw_tup, lw_lst, lw_str, lw_loc, bi_abs, bi_sum, bi_alls, bi_any, bi_int, bi_intb, bi_tup, bi_lst, bi_srt, bi_rpr, bi_max2, bi_min2, bi_max, bi_min, sw_tup, sw_lst, sw_loc, rw_tup, rw_lst, rw_loc, mw_app, mw_pop, mw_ext, iw, stw, seqOf_tup, seqOf_lst, lstOf_lst, intsOf_map, eqv_int, lay_int, List.length_cons, List.length_nil, permute, List.filterMap_cons, List.filterMap_nil, gd_v, Its.ok, List.not_mem_nil, List.map_cons, List.map_nil, List.cons_append, List.nil_append, List.replicate, Nat.reduceAdd, Nat.reduceSub, Nat.zero_add, Nat.reduceLT, Nat.reduceLeDiff, false_implies, implies_true, isNone, wipeE, fnW, List.cons.injEq, and_assoc, eq_self, decide_true, decide_false, Bool.not_true, Bool.not_false, Bool.true_and, Bool.false_and, Bool.and_true, Bool.and_false, Bool.or_true, Bool.true_or, Bool.or_false, Bool.false_or, beq_self_eq_true, not_true_eq_false, not_false_eq_true, up_same, up_up, Option.isSome_some, w2, q1, x2, x3]
      refine ⟨smdd.sh, Nat.le_trans smdd.dp (by omega), smdd.fits (by omega), Nat.le_trans smb.dp (by omega), ?_⟩
      have last : ∀ d14 d15, evSs T (fun x x_1 M' => PX x (restr M M')) i_law_6 [some (.loc 0), some (.loc b), some (.v (.tuple (bs.map pr))), d3, some x, d5, some (.loc nd), some (.v (.int kept)), some (.v (.int total)), some (.v (.int price)), some (.v (.str (PyData.tuple (bs.map pr)).shown)), some (.v (.int k)), some (.loc nt), some (.loc nn), d14, d15] M10
          ⟨fun e m => K e m, fun d M' => exitW false M P d M', fun e m => evSs T (fun x x_1 M' => PX x (restr M M')) i_law_7 e m ⟨fun x M' => exitW false M P (.v .none) M', fun d M' => exitW false M P d M', fun x x_1 => False, fun x x_1 => False⟩, fun e m => K e m⟩ := fun d14 d15 => by
        unfold i_law_6
        have fin : K [some (.loc 0), some (.loc b), some (.v (.tuple (bs.map pr))), d3, some x, d5, some (.loc nd), some (.v (.int kept)), some (.v (.int total)), some (.v (.int price)), some (.v (.str (PyData.tuple (bs.map pr)).shown)), some (.v (.int k)), some (.loc nt), some (.loc nn), d14, d15] M10 := hK _ _ ⟨_, _, _, _, _, _, _, _, _, _, _, _, _, rfl, B10⟩
        simp only [evSs, evS, evR, evL, evO, evB, evT, evTs, evSrc, asVal_val, asVal_fl, asVal_flD, asVal_fd0, asNew_fl, List.getElem?_cons_zero, List.getElem?_cons_succ, List.getElem?_nil, Option.some.injEq, D.v.injEq, D.loc.injEq, Ob.lst.injEq, PyData.bool.injEq, PyData.int.injEq, PyData.str.injEq, PyData.tuple.injEq, PyData.list.injEq, exists_eq_left, exists_eq_left', exists_and_left, and_true, true_and, vw_v, dataOf_nil, dataOf_cons, dataOf_map, Option.map_some, if_true, Bool.false_eq_true, if_false, setE, List.set_cons_zero, List.set_cons_succ, exists_eq', exists_eq, isiW, bw_add, bw_sub, bw_mul, bw_fdiv, bw_mod, bw_pow, bw_adds, bw_addt, bw_addl, bw_addn, bw_mull, bw_mult, uw_neg, uw_not, cw_lt, cw_lte, cw_gt, cw_gte, cw_eq, cw_ne, eq_ss, eq_ii, eq_tt, eq_ll, eq_lo, eq_nn, eq_bb, cw_in, cw_nin, bi_len, lw_tup, lw_lst, lw_str, lw_loc, bi_abs, bi_sum, bi_alls, bi_any, bi_int, bi_intb, bi_tup, bi_lst, bi_srt, bi_rpr, bi_max2, bi_min2, bi_max, bi_min, sw_tup, sw_lst, sw_loc, rw_tup, rw_lst, rw_loc, mw_app, mw_pop, mw_ext, iw, stw, seqOf_tup, seqOf_lst, lstOf_lst, intsOf_map, eqv_int, lay_int, List.length_cons, List.length_nil, permute, List.filterMap_cons, List.filterMap_nil, gd_v, Its.ok, List.not_mem_nil, List.map_cons, List.map_nil, List.cons_append, List.nil_append, List.replicate, Nat.reduceAdd, Nat.reduceSub, Nat.zero_add, Nat.reduceLT, Nat.reduceLeDiff, false_implies, implies_true, isNone, wipeE, fnW, List.cons.injEq, and_assoc, eq_self, decide_true, decide_false, Bool.not_true, Bool.not_false, Bool.true_and, Bool.false_and, Bool.and_true, Bool.and_false, Bool.or_true, Bool.true_or, Bool.or_false, Bool.false_or, beq_self_eq_true, not_true_eq_false, not_false_eq_true, up_same, up_up, Option.isSome_some, t.band]
        by_cases c : total < 1000000
        · simp only [c, evSs, evS, evR, evL, evO, evB, evT, evTs, evSrc, asVal_val, asVal_fl, asVal_flD, asVal_fd0, asNew_fl, List.getElem?_cons_zero, List.getElem?_cons_succ, List.getElem?_nil, Option.some.injEq, D.v.injEq, D.loc.injEq, Ob.lst.injEq, PyData.bool.injEq, PyData.int.injEq, PyData.str.injEq, PyData.tuple.injEq, PyData.list.injEq, exists_eq_left, exists_eq_left', exists_and_left, and_true, true_and, vw_v, dataOf_nil, dataOf_cons, dataOf_map, Option.map_some, if_true, Bool.false_eq_true, if_false, setE, List.set_cons_zero, List.set_cons_succ, exists_eq', exists_eq, isiW, bw_add, bw_sub, bw_mul, bw_fdiv, bw_mod, bw_pow, bw_adds, bw_addt, bw_addl, bw_addn, bw_mull, bw_mult, uw_neg, uw_not, cw_lt, cw_lte, cw_gt, cw_gte, cw_eq, cw_ne, eq_ss, eq_ii, eq_tt, eq_ll, eq_lo, eq_nn, eq_bb, cw_in, cw_nin, bi_len, lw_tup, lw_lst, lw_str, lw_loc, bi_abs, bi_sum, bi_alls, bi_any, bi_int, bi_intb, bi_tup, bi_lst, bi_srt, bi_rpr, bi_max2, bi_min2, bi_max, bi_min, sw_tup, sw_lst, sw_loc, rw_tup, rw_lst, rw_loc, mw_app, mw_pop, mw_ext, iw, stw, seqOf_tup, seqOf_lst, lstOf_lst, intsOf_map, eqv_int, lay_int, List.length_cons, List.length_nil, permute, List.filterMap_cons, List.filterMap_nil, gd_v, Its.ok, List.not_mem_nil, List.map_cons, List.map_nil, List.cons_append, List.nil_append, List.replicate, Nat.reduceAdd, Nat.reduceSub, Nat.zero_add, Nat.reduceLT, Nat.reduceLeDiff, false_implies, implies_true, isNone, wipeE, fnW, List.cons.injEq, and_assoc, eq_self, decide_true, decide_false, Bool.not_true, Bool.not_false, Bool.true_and, Bool.false_and, Bool.and_true, Bool.and_false, Bool.or_true, Bool.true_or, Bool.or_false, Bool.false_or, beq_self_eq_true, not_true_eq_false, not_false_eq_true, up_same, up_up, Option.isSome_some]
          refine ⟨bs, kept, total + 1, rfl, g, k0, fun k7 I7 => ?_⟩
          have h7 := one_more g I t0 I7
          simp only [evSs, evS, evR, evL, evO, evB, evT, evTs, evSrc, asVal_val, asVal_fl, asVal_flD, asVal_fd0, asNew_fl, List.getElem?_cons_zero, List.getElem?_cons_succ, List.getElem?_nil, Option.some.injEq, D.v.injEq, D.loc.injEq, Ob.lst.injEq, PyData.bool.injEq, PyData.int.injEq, PyData.str.injEq, PyData.tuple.injEq, PyData.list.injEq, exists_eq_left, exists_eq_left', exists_and_left, and_true, true_and, vw_v, dataOf_nil, dataOf_cons, dataOf_map, Option.map_some, if_true, Bool.false_eq_true, if_false, setE, List.set_cons_zero, List.set_cons_succ, exists_eq', exists_eq, isiW, bw_add, bw_sub, bw_mul, bw_fdiv, bw_mod, bw_pow, bw_adds, bw_addt, bw_addl, bw_addn, bw_mull, bw_mult, uw_neg, uw_not, cw_lt, cw_lte, cw_gt, cw_gte, cw_eq, cw_ne, eq_ss, eq_ii, eq_tt, eq_ll, eq_lo, eq_nn, eq_bb, cw_in, cw_nin, bi_len, lw_tup, lw_lst, lw_str, lw_loc, bi_abs, bi_sum, bi_alls, bi_any, bi_int, bi_intb, bi_tup, bi_lst, bi_srt, bi_rpr, bi_max2, bi_min2, bi_max, bi_min, sw_tup, sw_lst, sw_loc, rw_tup, rw_lst, rw_loc, mw_app, mw_pop, mw_ext, iw, stw, seqOf_tup, seqOf_lst, lstOf_lst, intsOf_map, eqv_int, lay_int, List.length_cons, List.length_nil, permute, List.filterMap_cons, List.filterMap_nil, gd_v, Its.ok, List.not_mem_nil, List.map_cons, List.map_nil, List.cons_append, List.nil_append, List.replicate, Nat.reduceAdd, Nat.reduceSub, Nat.zero_add, Nat.reduceLT, Nat.reduceLeDiff, false_implies, implies_true, isNone, wipeE, fnW, List.cons.injEq, and_assoc, eq_self, decide_true, decide_false, Bool.not_true, Bool.not_false, Bool.true_and, Bool.false_and, Bool.and_true, Bool.and_false, Bool.or_true, Bool.true_or, Bool.or_false, Bool.false_or, beq_self_eq_true, not_true_eq_false, not_false_eq_true, up_same, up_up, Option.isSome_some, t.band, decide_eq_true (show (k7 : Int) ≤ k by omega)]
          refine ⟨bs, kept + 1, total + 1, rfl, g, by omega, fun k8 I8 => ?_⟩
          have h8 := one_kept g I I8
          simp only [evSs, evS, evR, evL, evO, evB, evT, evTs, evSrc, asVal_val, asVal_fl, asVal_flD, asVal_fd0, asNew_fl, List.getElem?_cons_zero, List.getElem?_cons_succ, List.getElem?_nil, Option.some.injEq, D.v.injEq, D.loc.injEq, Ob.lst.injEq, PyData.bool.injEq, PyData.int.injEq, PyData.str.injEq, PyData.tuple.injEq, PyData.list.injEq, exists_eq_left, exists_eq_left', exists_and_left, and_true, true_and, vw_v, dataOf_nil, dataOf_cons, dataOf_map, Option.map_some, if_true, Bool.false_eq_true, if_false, setE, List.set_cons_zero, List.set_cons_succ, exists_eq', exists_eq, isiW, bw_add, bw_sub, bw_mul, bw_fdiv, bw_mod, bw_pow, bw_adds, bw_addt, bw_addl, bw_addn, bw_mull, bw_mult, uw_neg, uw_not, cw_lt, cw_lte, cw_gt, cw_gte, cw_eq, cw_ne, eq_ss, eq_ii, eq_tt, eq_ll, eq_lo, eq_nn, eq_bb, cw_in, cw_nin, bi_len, lw_tup, lw_lst, lw_str, lw_loc, bi_abs, bi_sum, bi_alls, bi_any, bi_int, bi_intb, bi_tup, bi_lst, bi_srt, bi_rpr, bi_max2, bi_min2, bi_max, bi_min, sw_tup, sw_lst, sw_loc, rw_tup, rw_lst, rw_loc, mw_app, mw_pop, mw_ext, iw, stw, seqOf_tup, seqOf_lst, lstOf_lst, intsOf_map, eqv_int, lay_int, List.length_cons, List.length_nil, permute, List.filterMap_cons, List.filterMap_nil, gd_v, Its.ok, List.not_mem_nil, List.map_cons, List.map_nil, List.cons_append, List.nil_append, List.replicate, Nat.reduceAdd, Nat.reduceSub, Nat.zero_add, Nat.reduceLT, Nat.reduceLeDiff, false_implies, implies_true, isNone, wipeE, fnW, List.cons.injEq, and_assoc, eq_self, decide_true, decide_false, Bool.not_true, Bool.not_false, Bool.true_and, Bool.false_and, Bool.and_true, Bool.and_false, Bool.or_true, Bool.true_or, Bool.or_false, Bool.false_or, beq_self_eq_true, not_true_eq_false, not_false_eq_true, up_same, up_up, Option.isSome_some, decide_eq_true (show (k : Int) ≤ k8 by omega)]
          exact fin
        · simp only [c, evSs, evS, evR, evL, evO, evB, evT, evTs, evSrc, asVal_val, asVal_fl, asVal_flD, asVal_fd0, asNew_fl, List.getElem?_cons_zero, List.getElem?_cons_succ, List.getElem?_nil, Option.some.injEq, D.v.injEq, D.loc.injEq, Ob.lst.injEq, PyData.bool.injEq, PyData.int.injEq, PyData.str.injEq, PyData.tuple.injEq, PyData.list.injEq, exists_eq_left, exists_eq_left', exists_and_left, and_true, true_and, vw_v, dataOf_nil, dataOf_cons, dataOf_map, Option.map_some, if_true, Bool.false_eq_true, if_false, setE, List.set_cons_zero, List.set_cons_succ, exists_eq', exists_eq, isiW, bw_add, bw_sub, bw_mul, bw_fdiv, bw_mod, bw_pow, bw_adds, bw_addt, bw_addl, bw_addn, bw_mull, bw_mult, uw_neg, uw_not, cw_lt, cw_lte, cw_gt, cw_gte, cw_eq, cw_ne, eq_ss, eq_ii, eq_tt, eq_ll, eq_lo, eq_nn, eq_bb, cw_in, cw_nin, bi_len, lw_tup, lw_lst, lw_str, lw_loc, bi_abs, bi_sum, bi_alls, bi_any, bi_int, bi_intb, bi_tup, bi_lst, bi_srt, bi_rpr, bi_max2, bi_min2, bi_max, bi_min, sw_tup, sw_lst, sw_loc, rw_tup, rw_lst, rw_loc, mw_app, mw_pop, mw_ext, iw, stw, seqOf_tup, seqOf_lst, lstOf_lst, intsOf_map, eqv_int, lay_int, List.length_cons, List.length_nil, permute, List.filterMap_cons, List.filterMap_nil, gd_v, Its.ok, List.not_mem_nil, List.map_cons, List.map_nil, List.cons_append, List.nil_append, List.replicate, Nat.reduceAdd, Nat.reduceSub, Nat.zero_add, Nat.reduceLT, Nat.reduceLeDiff, false_implies, implies_true, isNone, wipeE, fnW, List.cons.injEq, and_assoc, eq_self, decide_true, decide_false, Bool.not_true, Bool.not_false, Bool.true_and, Bool.false_and, Bool.and_true, Bool.and_false, Bool.or_true, Bool.true_or, Bool.or_false, Bool.false_or, beq_self_eq_true, not_true_eq_false, not_false_eq_true, up_same, up_up, Option.isSome_some]
          exact fin
      have mid : ∀ d14, evSs T (fun x x_1 M' => PX x (restr M M')) i_law_5 [some (.loc 0), some (.loc b), some (.v (.tuple (bs.map pr))), d3, some x, d5, some (.loc nd), some (.v (.int kept)), some (.v (.int total)), some (.v (.int price)), some (.v (.str (PyData.tuple (bs.map pr)).shown)), some (.v (.int k)), some (.loc nt), some (.loc nn), d14, some (.v mi)] M10
          ⟨fun e m => K e m, fun d M' => exitW false M P d M', fun e m => evSs T (fun x x_1 M' => PX x (restr M M')) i_law_7 e m ⟨fun x M' => exitW false M P (.v .none) M', fun d M' => exitW false M P d M', fun x x_1 => False, fun x x_1 => False⟩, fun e m => K e m⟩ := fun d14 => by
        unfold i_law_5
        unfold missed at hmi
        by_cases ck : k = 0
        · rw [if_pos ck] at hmi
          subst hmi
          simp only [evSs, evS, evR, evL, evO, evB, evT, evTs, evSrc, asVal_val, asVal_fl, asVal_flD, asVal_fd0, asNew_fl, List.getElem?_cons_zero, List.getElem?_cons_succ, List.getElem?_nil, Option.some.injEq, D.v.injEq, D.loc.injEq, Ob.lst.injEq, PyData.bool.injEq, PyData.int.injEq, PyData.str.injEq, PyData.tuple.injEq, PyData.list.injEq, exists_eq_left, exists_eq_left', exists_and_left, and_true, true_and, vw_v, dataOf_nil, dataOf_cons, dataOf_map, Option.map_some, if_true, Bool.false_eq_true, if_false, setE, List.set_cons_zero, List.set_cons_succ, exists_eq', exists_eq, isiW, bw_add, bw_sub, bw_mul, bw_fdiv, bw_mod, bw_pow, bw_adds, bw_addt, bw_addl, bw_addn, bw_mull, bw_mult, uw_neg, uw_not, cw_lt, cw_lte, cw_gt, cw_gte, cw_eq, cw_ne, eq_ss, eq_ii, eq_tt, eq_ll, eq_lo, eq_nn, eq_bb, cw_in, cw_nin, bi_len, lw_tup, lw_lst, lw_str, lw_loc, bi_abs, bi_sum, bi_alls, bi_any, bi_int, bi_intb, bi_tup, bi_lst, bi_srt, bi_rpr, bi_max2, bi_min2, bi_max, bi_min, sw_tup, sw_lst, sw_loc, rw_tup, rw_lst, rw_loc, mw_app, mw_pop, mw_ext, iw, stw, seqOf_tup, seqOf_lst, lstOf_lst, intsOf_map, eqv_int, lay_int, List.length_cons, List.length_nil, permute, List.filterMap_cons, List.filterMap_nil, gd_v, Its.ok, List.not_mem_nil, List.map_cons, List.map_nil, List.cons_append, List.nil_append, List.replicate, Nat.reduceAdd, Nat.reduceSub, Nat.zero_add, Nat.reduceLT, Nat.reduceLeDiff, false_implies, implies_true, isNone, wipeE, fnW, List.cons.injEq, and_assoc, eq_self, decide_true, decide_false, Bool.not_true, Bool.not_false, Bool.true_and, Bool.false_and, Bool.and_true, Bool.and_false, Bool.or_true, Bool.true_or, Bool.or_false, Bool.false_or, beq_self_eq_true, not_true_eq_false, not_false_eq_true, up_same, up_up, Option.isSome_some]
          exact last _ _
        · rw [if_neg ck] at hmi
          subst hmi
          simp only [evSs, evS, evR, evL, evO, evB, evT, evTs, evSrc, asVal_val, asVal_fl, asVal_flD, asVal_fd0, asNew_fl, List.getElem?_cons_zero, List.getElem?_cons_succ, List.getElem?_nil, Option.some.injEq, D.v.injEq, D.loc.injEq, Ob.lst.injEq, PyData.bool.injEq, PyData.int.injEq, PyData.str.injEq, PyData.tuple.injEq, PyData.list.injEq, exists_eq_left, exists_eq_left', exists_and_left, and_true, true_and, vw_v, dataOf_nil, dataOf_cons, dataOf_map, Option.map_some, if_true, Bool.false_eq_true, if_false, setE, List.set_cons_zero, List.set_cons_succ, exists_eq', exists_eq, isiW, bw_add, bw_sub, bw_mul, bw_fdiv, bw_mod, bw_pow, bw_adds, bw_addt, bw_addl, bw_addn, bw_mull, bw_mult, uw_neg, uw_not, cw_lt, cw_lte, cw_gt, cw_gte, cw_eq, cw_ne, eq_ss, eq_ii, eq_tt, eq_ll, eq_lo, eq_nn, eq_bb, cw_in, cw_nin, bi_len, lw_tup, lw_lst, lw_str, lw_loc, bi_abs, bi_sum, bi_alls, bi_any, bi_int, bi_intb, bi_tup, bi_lst, bi_srt, bi_rpr, bi_max2, bi_min2, bi_max, bi_min, sw_tup, sw_lst, sw_loc, rw_tup, rw_lst, rw_loc, mw_app, mw_pop, mw_ext, iw, stw, seqOf_tup, seqOf_lst, lstOf_lst, intsOf_map, eqv_int, lay_int, List.length_cons, List.length_nil, permute, List.filterMap_cons, List.filterMap_nil, gd_v, Its.ok, List.not_mem_nil, List.map_cons, List.map_nil, List.cons_append, List.nil_append, List.replicate, Nat.reduceAdd, Nat.reduceSub, Nat.zero_add, Nat.reduceLT, Nat.reduceLeDiff, false_implies, implies_true, isNone, wipeE, fnW, List.cons.injEq, and_assoc, eq_self, decide_true, decide_false, Bool.not_true, Bool.not_false, Bool.true_and, Bool.false_and, Bool.and_true, Bool.and_false, Bool.or_true, Bool.true_or, Bool.or_false, Bool.false_or, beq_self_eq_true, not_true_eq_false, not_false_eq_true, up_same, up_up, Option.isSome_some, t.lband]
          by_cases c : 0 < total
          · simp only [c, evSs, evS, evR, evL, evO, evB, evT, evTs, evSrc, asVal_val, asVal_fl, asVal_flD, asVal_fd0, asNew_fl, List.getElem?_cons_zero, List.getElem?_cons_succ, List.getElem?_nil, Option.some.injEq, D.v.injEq, D.loc.injEq, Ob.lst.injEq, PyData.bool.injEq, PyData.int.injEq, PyData.str.injEq, PyData.tuple.injEq, PyData.list.injEq, exists_eq_left, exists_eq_left', exists_and_left, and_true, true_and, vw_v, dataOf_nil, dataOf_cons, dataOf_map, Option.map_some, if_true, Bool.false_eq_true, if_false, setE, List.set_cons_zero, List.set_cons_succ, exists_eq', exists_eq, isiW, bw_add, bw_sub, bw_mul, bw_fdiv, bw_mod, bw_pow, bw_adds, bw_addt, bw_addl, bw_addn, bw_mull, bw_mult, uw_neg, uw_not, cw_lt, cw_lte, cw_gt, cw_gte, cw_eq, cw_ne, eq_ss, eq_ii, eq_tt, eq_ll, eq_lo, eq_nn, eq_bb, cw_in, cw_nin, bi_len, lw_tup, lw_lst, lw_str, lw_loc, bi_abs, bi_sum, bi_alls, bi_any, bi_int, bi_intb, bi_tup, bi_lst, bi_srt, bi_rpr, bi_max2, bi_min2, bi_max, bi_min, sw_tup, sw_lst, sw_loc, rw_tup, rw_lst, rw_loc, mw_app, mw_pop, mw_ext, iw, stw, seqOf_tup, seqOf_lst, lstOf_lst, intsOf_map, eqv_int, lay_int, List.length_cons, List.length_nil, permute, List.filterMap_cons, List.filterMap_nil, gd_v, Its.ok, List.not_mem_nil, List.map_cons, List.map_nil, List.cons_append, List.nil_append, List.replicate, Nat.reduceAdd, Nat.reduceSub, Nat.zero_add, Nat.reduceLT, Nat.reduceLeDiff, false_implies, implies_true, isNone, wipeE, fnW, List.cons.injEq, and_assoc, eq_self, decide_true, decide_false, Bool.not_true, Bool.not_false, Bool.true_and, Bool.false_and, Bool.and_true, Bool.and_false, Bool.or_true, Bool.true_or, Bool.or_false, Bool.false_or, beq_self_eq_true, not_true_eq_false, not_false_eq_true, up_same, up_up, Option.isSome_some]
            obtain ⟨l1, l2⟩ := less_ok g I ck k0
            refine ⟨bs, kept, _, rfl, g, k0, fun k5 I5 => ?_⟩
            have e5 := l1 k5 I5
            subst e5
            simp only [evSs, evS, evR, evL, evO, evB, evT, evTs, evSrc, asVal_val, asVal_fl, asVal_flD, asVal_fd0, asNew_fl, List.getElem?_cons_zero, List.getElem?_cons_succ, List.getElem?_nil, Option.some.injEq, D.v.injEq, D.loc.injEq, Ob.lst.injEq, PyData.bool.injEq, PyData.int.injEq, PyData.str.injEq, PyData.tuple.injEq, PyData.list.injEq, exists_eq_left, exists_eq_left', exists_and_left, and_true, true_and, vw_v, dataOf_nil, dataOf_cons, dataOf_map, Option.map_some, if_true, Bool.false_eq_true, if_false, setE, List.set_cons_zero, List.set_cons_succ, exists_eq', exists_eq, isiW, bw_add, bw_sub, bw_mul, bw_fdiv, bw_mod, bw_pow, bw_adds, bw_addt, bw_addl, bw_addn, bw_mull, bw_mult, uw_neg, uw_not, cw_lt, cw_lte, cw_gt, cw_gte, cw_eq, cw_ne, eq_ss, eq_ii, eq_tt, eq_ll, eq_lo, eq_nn, eq_bb, cw_in, cw_nin, bi_len, lw_tup, lw_lst, lw_str, lw_loc, bi_abs, bi_sum, bi_alls, bi_any, bi_int, bi_intb, bi_tup, bi_lst, bi_srt, bi_rpr, bi_max2, bi_min2, bi_max, bi_min, sw_tup, sw_lst, sw_loc, rw_tup, rw_lst, rw_loc, mw_app, mw_pop, mw_ext, iw, stw, seqOf_tup, seqOf_lst, lstOf_lst, intsOf_map, eqv_int, lay_int, List.length_cons, List.length_nil, permute, List.filterMap_cons, List.filterMap_nil, gd_v, Its.ok, List.not_mem_nil, List.map_cons, List.map_nil, List.cons_append, List.nil_append, List.replicate, Nat.reduceAdd, Nat.reduceSub, Nat.zero_add, Nat.reduceLT, Nat.reduceLeDiff, false_implies, implies_true, isNone, wipeE, fnW, List.cons.injEq, and_assoc, eq_self, decide_true, decide_false, Bool.not_true, Bool.not_false, Bool.true_and, Bool.false_and, Bool.and_true, Bool.and_false, Bool.or_true, Bool.true_or, Bool.or_false, Bool.false_or, beq_self_eq_true, not_true_eq_false, not_false_eq_true, up_same, up_up, Option.isSome_some, t.lband]
            refine ⟨bs, kept, _, rfl, g, k0, fun k6 I6 => ?_⟩
            have e6 := l2 k6 I6
            simp only [evSs, evS, evR, evL, evO, evB, evT, evTs, evSrc, asVal_val, asVal_fl, asVal_flD, asVal_fd0, asNew_fl, List.getElem?_cons_zero, List.getElem?_cons_succ, List.getElem?_nil, Option.some.injEq, D.v.injEq, D.loc.injEq, Ob.lst.injEq, PyData.bool.injEq, PyData.int.injEq, PyData.str.injEq, PyData.tuple.injEq, PyData.list.injEq, exists_eq_left, exists_eq_left', exists_and_left, and_true, true_and, vw_v, dataOf_nil, dataOf_cons, dataOf_map, Option.map_some, if_true, Bool.false_eq_true, if_false, setE, List.set_cons_zero, List.set_cons_succ, exists_eq', exists_eq, isiW, bw_add, bw_sub, bw_mul, bw_fdiv, bw_mod, bw_pow, bw_adds, bw_addt, bw_addl, bw_addn, bw_mull, bw_mult, uw_neg, uw_not, cw_lt, cw_lte, cw_gt, cw_gte, cw_eq, cw_ne, eq_ss, eq_ii, eq_tt, eq_ll, eq_lo, eq_nn, eq_bb, cw_in, cw_nin, bi_len, lw_tup, lw_lst, lw_str, lw_loc, bi_abs, bi_sum, bi_alls, bi_any, bi_int, bi_intb, bi_tup, bi_lst, bi_srt, bi_rpr, bi_max2, bi_min2, bi_max, bi_min, sw_tup, sw_lst, sw_loc, rw_tup, rw_lst, rw_loc, mw_app, mw_pop, mw_ext, iw, stw, seqOf_tup, seqOf_lst, lstOf_lst, intsOf_map, eqv_int, lay_int, List.length_cons, List.length_nil, permute, List.filterMap_cons, List.filterMap_nil, gd_v, Its.ok, List.not_mem_nil, List.map_cons, List.map_nil, List.cons_append, List.nil_append, List.replicate, Nat.reduceAdd, Nat.reduceSub, Nat.zero_add, Nat.reduceLT, Nat.reduceLeDiff, false_implies, implies_true, isNone, wipeE, fnW, List.cons.injEq, and_assoc, eq_self, decide_true, decide_false, Bool.not_true, Bool.not_false, Bool.true_and, Bool.false_and, Bool.and_true, Bool.and_false, Bool.or_true, Bool.true_or, Bool.or_false, Bool.false_or, beq_self_eq_true, not_true_eq_false, not_false_eq_true, up_same, up_up, Option.isSome_some, beq_eq_false_iff_ne.mpr (show (k6 : Int) ≠ k5 by omega)]
            exact last _ _
          · simp only [c, evSs, evS, evR, evL, evO, evB, evT, evTs, evSrc, asVal_val, asVal_fl, asVal_flD, asVal_fd0, asNew_fl, List.getElem?_cons_zero, List.getElem?_cons_succ, List.getElem?_nil, Option.some.injEq, D.v.injEq, D.loc.injEq, Ob.lst.injEq, PyData.bool.injEq, PyData.int.injEq, PyData.str.injEq, PyData.tuple.injEq, PyData.list.injEq, exists_eq_left, exists_eq_left', exists_and_left, and_true, true_and, vw_v, dataOf_nil, dataOf_cons, dataOf_map, Option.map_some, if_true, Bool.false_eq_true, if_false, setE, List.set_cons_zero, List.set_cons_succ, exists_eq', exists_eq, isiW, bw_add, bw_sub, bw_mul, bw_fdiv, bw_mod, bw_pow, bw_adds, bw_addt, bw_addl, bw_addn, bw_mull, bw_mult, uw_neg, uw_not, cw_lt, cw_lte, cw_gt, cw_gte, cw_eq, cw_ne, eq_ss, eq_ii, eq_tt, eq_ll, eq_lo, eq_nn, eq_bb, cw_in, cw_nin, bi_len, lw_tup, lw_lst, lw_str, lw_loc, bi_abs, bi_sum, bi_alls, bi_any, bi_int, bi_intb, bi_tup, bi_lst, bi_srt, bi_rpr, bi_max2, bi_min2, bi_max, bi_min, sw_tup, sw_lst, sw_loc, rw_tup, rw_lst, rw_loc, mw_app, mw_pop, mw_ext, iw, stw, seqOf_tup, seqOf_lst, lstOf_lst, intsOf_map, eqv_int, lay_int, List.length_cons, List.length_nil, permute, List.filterMap_cons, List.filterMap_nil, gd_v, Its.ok, List.not_mem_nil, List.map_cons, List.map_nil, List.cons_append, List.nil_append, List.replicate, Nat.reduceAdd, Nat.reduceSub, Nat.zero_add, Nat.reduceLT, Nat.reduceLeDiff, false_implies, implies_true, isNone, wipeE, fnW, List.cons.injEq, and_assoc, eq_self, decide_true, decide_false, Bool.not_true, Bool.not_false, Bool.true_and, Bool.false_and, Bool.and_true, Bool.and_false, Bool.or_true, Bool.true_or, Bool.or_false, Bool.false_or, beq_self_eq_true, not_true_eq_false, not_false_eq_true, up_same, up_up, Option.isSome_some]
            exact last _ _
      refine ⟨by omega, ?_⟩
      unfold more at hmo
      by_cases c1 : k + 1 = bs.length
      · rw [if_pos c1] at hmo
        subst hmo
        simp only [evSs, evS, evR, evL, evO, evB, evT, evTs, evSrc, asVal_val, asVal_fl, asVal_flD, asVal_fd0, asNew_fl, List.getElem?_cons_zero, List.getElem?_cons_succ, List.getElem?_nil, Option.some.injEq, D.v.injEq, D.loc.injEq, Ob.lst.injEq, PyData.bool.injEq, PyData.int.injEq, PyData.str.injEq, PyData.tuple.injEq, PyData.list.injEq, exists_eq_left, exists_eq_left', exists_and_left, and_true, true_and, vw_v, dataOf_nil, dataOf_cons, dataOf_map, Option.map_some, if_true, Bool.false_eq_true, if_false, setE, List.set_cons_zero, List.set_cons_succ, exists_eq', exists_eq, isiW, bw_add, bw_sub, bw_mul, bw_fdiv, bw_mod, bw_pow, bw_adds, bw_addt, bw_addl, bw_addn, bw_mull, bw_mult, uw_neg, uw_not, cw_lt, cw_lte, cw_gt, cw_gte, cw_eq, cw_ne, eq_ss, eq_ii, eq_tt, eq_ll, eq_lo, eq_nn, eq_bb, cw_in, cw_nin, bi_len, lw_tup, lw_lst, lw_str, lw_loc, bi_abs, bi_sum, bi_alls, bi_any, bi_int, bi_intb, bi_tup, bi_lst, bi_srt, bi_rpr, bi_max2, bi_min2, bi_max, bi_min, sw_tup, sw_lst, sw_loc, rw_tup, rw_lst, rw_loc, mw_app, mw_pop, mw_ext, iw, stw, seqOf_tup, seqOf_lst, lstOf_lst, intsOf_map, eqv_int, lay_int, List.length_cons, List.length_nil, permute, List.filterMap_cons, List.filterMap_nil, gd_v, Its.ok, List.not_mem_nil, List.map_cons, List.map_nil, List.cons_append, List.nil_append, List.replicate, Nat.reduceAdd, Nat.reduceSub, Nat.zero_add, Nat.reduceLT, Nat.reduceLeDiff, false_implies, implies_true, isNone, wipeE, fnW, List.cons.injEq, and_assoc, eq_self, decide_true, decide_false, Bool.not_true, Bool.not_false, Bool.true_and, Bool.false_and, Bool.and_true, Bool.and_false, Bool.or_true, Bool.true_or, Bool.or_false, Bool.false_or, beq_self_eq_true, not_true_eq_false, not_false_eq_true, up_same, up_up, Option.isSome_some, t.lband]
        refine ⟨bs, kept + 5000, total + 5000, rfl, g, by omega, fun k4 I4 => ?_⟩
        have h4 := still_ok g I (.inl c1) I4
        simp only [evSs, evS, evR, evL, evO, evB, evT, evTs, evSrc, asVal_val, asVal_fl, asVal_flD, asVal_fd0, asNew_fl, List.getElem?_cons_zero, List.getElem?_cons_succ, List.getElem?_nil, Option.some.injEq, D.v.injEq, D.loc.injEq, Ob.lst.injEq, PyData.bool.injEq, PyData.int.injEq, PyData.str.injEq, PyData.tuple.injEq, PyData.list.injEq, exists_eq_left, exists_eq_left', exists_and_left, and_true, true_and, vw_v, dataOf_nil, dataOf_cons, dataOf_map, Option.map_some, if_true, Bool.false_eq_true, if_false, setE, List.set_cons_zero, List.set_cons_succ, exists_eq', exists_eq, isiW, bw_add, bw_sub, bw_mul, bw_fdiv, bw_mod, bw_pow, bw_adds, bw_addt, bw_addl, bw_addn, bw_mull, bw_mult, uw_neg, uw_not, cw_lt, cw_lte, cw_gt, cw_gte, cw_eq, cw_ne, eq_ss, eq_ii, eq_tt, eq_ll, eq_lo, eq_nn, eq_bb, cw_in, cw_nin, bi_len, lw_tup, lw_lst, lw_str, lw_loc, bi_abs, bi_sum, bi_alls, bi_any, bi_int, bi_intb, bi_tup, bi_lst, bi_srt, bi_rpr, bi_max2, bi_min2, bi_max, bi_min, sw_tup, sw_lst, sw_loc, rw_tup, rw_lst, rw_loc, mw_app, mw_pop, mw_ext, iw, stw, seqOf_tup, seqOf_lst, lstOf_lst, intsOf_map, eqv_int, lay_int, List.length_cons, List.length_nil, permute, List.filterMap_cons, List.filterMap_nil, gd_v, Its.ok, List.not_mem_nil, List.map_cons, List.map_nil, List.cons_append, List.nil_append, List.replicate, Nat.reduceAdd, Nat.reduceSub, Nat.zero_add, Nat.reduceLT, Nat.reduceLeDiff, false_implies, implies_true, isNone, wipeE, fnW, List.cons.injEq, and_assoc, eq_self, decide_true, decide_false, Bool.not_true, Bool.not_false, Bool.true_and, Bool.false_and, Bool.and_true, Bool.and_false, Bool.or_true, Bool.true_or, Bool.or_false, Bool.false_or, beq_self_eq_true, not_true_eq_false, not_false_eq_true, up_same, up_up, Option.isSome_some, decide_eq_false (show ¬ (k : Int) < k4 by omega)]
        exact mid _
      · rw [if_neg c1] at hmo
        by_cases c2 : (bs.getD (k + 1) (0, 0)).1 = 10000
        · rw [if_pos c2] at hmo
          subst hmo
          simp only [evSs, evS, evR, evL, evO, evB, evT, evTs, evSrc, asVal_val, asVal_fl, asVal_flD, asVal_fd0, asNew_fl, List.getElem?_cons_zero, List.getElem?_cons_succ, List.getElem?_nil, Option.some.injEq, D.v.injEq, D.loc.injEq, Ob.lst.injEq, PyData.bool.injEq, PyData.int.injEq, PyData.str.injEq, PyData.tuple.injEq, PyData.list.injEq, exists_eq_left, exists_eq_left', exists_and_left, and_true, true_and, vw_v, dataOf_nil, dataOf_cons, dataOf_map, Option.map_some, if_true, Bool.false_eq_true, if_false, setE, List.set_cons_zero, List.set_cons_succ, exists_eq', exists_eq, isiW, bw_add, bw_sub, bw_mul, bw_fdiv, bw_mod, bw_pow, bw_adds, bw_addt, bw_addl, bw_addn, bw_mull, bw_mult, uw_neg, uw_not, cw_lt, cw_lte, cw_gt, cw_gte, cw_eq, cw_ne, eq_ss, eq_ii, eq_tt, eq_ll, eq_lo, eq_nn, eq_bb, cw_in, cw_nin, bi_len, lw_tup, lw_lst, lw_str, lw_loc, bi_abs, bi_sum, bi_alls, bi_any, bi_int, bi_intb, bi_tup, bi_lst, bi_srt, bi_rpr, bi_max2, bi_min2, bi_max, bi_min, sw_tup, sw_lst, sw_loc, rw_tup, rw_lst, rw_loc, mw_app, mw_pop, mw_ext, iw, stw, seqOf_tup, seqOf_lst, lstOf_lst, intsOf_map, eqv_int, lay_int, List.length_cons, List.length_nil, permute, List.filterMap_cons, List.filterMap_nil, gd_v, Its.ok, List.not_mem_nil, List.map_cons, List.map_nil, List.cons_append, List.nil_append, List.replicate, Nat.reduceAdd, Nat.reduceSub, Nat.zero_add, Nat.reduceLT, Nat.reduceLeDiff, false_implies, implies_true, isNone, wipeE, fnW, List.cons.injEq, and_assoc, eq_self, decide_true, decide_false, Bool.not_true, Bool.not_false, Bool.true_and, Bool.false_and, Bool.and_true, Bool.and_false, Bool.or_true, Bool.true_or, Bool.or_false, Bool.false_or, beq_self_eq_true, not_true_eq_false, not_false_eq_true, up_same, up_up, Option.isSome_some, t.lband]
          refine ⟨bs, kept + 5000, total + 5000, rfl, g, by omega, fun k4 I4 => ?_⟩
          have h4 := still_ok g I (.inr c2) I4
          simp only [evSs, evS, evR, evL, evO, evB, evT, evTs, evSrc, asVal_val, asVal_fl, asVal_flD, asVal_fd0, asNew_fl, List.getElem?_cons_zero, List.getElem?_cons_succ, List.getElem?_nil, Option.some.injEq, D.v.injEq, D.loc.injEq, Ob.lst.injEq, PyData.bool.injEq, PyData.int.injEq, PyData.str.injEq, PyData.tuple.injEq, PyData.list.injEq, exists_eq_left, exists_eq_left', exists_and_left, and_true, true_and, vw_v, dataOf_nil, dataOf_cons, dataOf_map, Option.map_some, if_true, Bool.false_eq_true, if_false, setE, List.set_cons_zero, List.set_cons_succ, exists_eq', exists_eq, isiW, bw_add, bw_sub, bw_mul, bw_fdiv, bw_mod, bw_pow, bw_adds, bw_addt, bw_addl, bw_addn, bw_mull, bw_mult, uw_neg, uw_not, cw_lt, cw_lte, cw_gt, cw_gte, cw_eq, cw_ne, eq_ss, eq_ii, eq_tt, eq_ll, eq_lo, eq_nn, eq_bb, cw_in, cw_nin, bi_len, lw_tup, lw_lst, lw_str, lw_loc, bi_abs, bi_sum, bi_alls, bi_any, bi_int, bi_intb, bi_tup, bi_lst, bi_srt, bi_rpr, bi_max2, bi_min2, bi_max, bi_min, sw_tup, sw_lst, sw_loc, rw_tup, rw_lst, rw_loc, mw_app, mw_pop, mw_ext, iw, stw, seqOf_tup, seqOf_lst, lstOf_lst, intsOf_map, eqv_int, lay_int, List.length_cons, List.length_nil, permute, List.filterMap_cons, List.filterMap_nil, gd_v, Its.ok, List.not_mem_nil, List.map_cons, List.map_nil, List.cons_append, List.nil_append, List.replicate, Nat.reduceAdd, Nat.reduceSub, Nat.zero_add, Nat.reduceLT, Nat.reduceLeDiff, false_implies, implies_true, isNone, wipeE, fnW, List.cons.injEq, and_assoc, eq_self, decide_true, decide_false, Bool.not_true, Bool.not_false, Bool.true_and, Bool.false_and, Bool.and_true, Bool.and_false, Bool.or_true, Bool.true_or, Bool.or_false, Bool.false_or, beq_self_eq_true, not_true_eq_false, not_false_eq_true, up_same, up_up, Option.isSome_some, decide_eq_false (show ¬ (k : Int) < k4 by omega)]
          exact mid _
        · rw [if_neg c2] at hmo
          obtain ⟨m0, m1, m2⟩ := more_ok g I (by omega) c2 t0 rfl
          generalize hw : -((10000 * kept - (bs.getD (k + 1) (0, 0)).1 * total) / (10000 - (bs.getD (k + 1) (0, 0)).1)) = w at *
          subst hmo
          simp only [evSs, evS, evR, evL, evO, evB, evT, evTs, evSrc, asVal_val, asVal_fl, asVal_flD, asVal_fd0, asNew_fl, List.getElem?_cons_zero, List.getElem?_cons_succ, List.getElem?_nil, Option.some.injEq, D.v.injEq, D.loc.injEq, Ob.lst.injEq, PyData.bool.injEq, PyData.int.injEq, PyData.str.injEq, PyData.tuple.injEq, PyData.list.injEq, exists_eq_left, exists_eq_left', exists_and_left, and_true, true_and, vw_v, dataOf_nil, dataOf_cons, dataOf_map, Option.map_some, if_true, Bool.false_eq_true, if_false, setE, List.set_cons_zero, List.set_cons_succ, exists_eq', exists_eq, isiW, bw_add, bw_sub, bw_mul, bw_fdiv, bw_mod, bw_pow, bw_adds, bw_addt, bw_addl, bw_addn, bw_mull, bw_mult, uw_neg, uw_not, cw_lt, cw_lte, cw_gt, cw_gte, cw_eq, cw_ne, eq_ss, eq_ii, eq_tt, eq_ll, eq_lo, eq_nn, eq_bb, cw_in, cw_nin, bi_len, lw_tup, lw_lst, lw_str, lw_loc, bi_abs, bi_sum, bi_alls, bi_any, bi_int, bi_intb, bi_tup, bi_lst, bi_srt, bi_rpr, bi_max2, bi_min2, bi_max, bi_min, sw_tup, sw_lst, sw_loc, rw_tup, rw_lst, rw_loc, mw_app, mw_pop, mw_ext, iw, stw, seqOf_tup, seqOf_lst, lstOf_lst, intsOf_map, eqv_int, lay_int, List.length_cons, List.length_nil, permute, List.filterMap_cons, List.filterMap_nil, gd_v, Its.ok, List.not_mem_nil, List.map_cons, List.map_nil, List.cons_append, List.nil_append, List.replicate, Nat.reduceAdd, Nat.reduceSub, Nat.zero_add, Nat.reduceLT, Nat.reduceLeDiff, false_implies, implies_true, isNone, wipeE, fnW, List.cons.injEq, and_assoc, eq_self, decide_true, decide_false, Bool.not_true, Bool.not_false, Bool.true_and, Bool.false_and, Bool.and_true, Bool.and_false, Bool.or_true, Bool.true_or, Bool.or_false, Bool.false_or, beq_self_eq_true, not_true_eq_false, not_false_eq_true, up_same, up_up, Option.isSome_some, t.lband]
          refine ⟨bs, kept + w, total + w, rfl, g, by omega, fun k4 I4 => ?_⟩
          have h4 := m1 k4 I4
          simp only [evSs, evS, evR, evL, evO, evB, evT, evTs, evSrc, asVal_val, asVal_fl, asVal_flD, asVal_fd0, asNew_fl, List.getElem?_cons_zero, List.getElem?_cons_succ, List.getElem?_nil, Option.some.injEq, D.v.injEq, D.loc.injEq, Ob.lst.injEq, PyData.bool.injEq, PyData.int.injEq, PyData.str.injEq, PyData.tuple.injEq, PyData.list.injEq, exists_eq_left, exists_eq_left', exists_and_left, and_true, true_and, vw_v, dataOf_nil, dataOf_cons, dataOf_map, Option.map_some, if_true, Bool.false_eq_true, if_false, setE, List.set_cons_zero, List.set_cons_succ, exists_eq', exists_eq, isiW, bw_add, bw_sub, bw_mul, bw_fdiv, bw_mod, bw_pow, bw_adds, bw_addt, bw_addl, bw_addn, bw_mull, bw_mult, uw_neg, uw_not, cw_lt, cw_lte, cw_gt, cw_gte, cw_eq, cw_ne, eq_ss, eq_ii, eq_tt, eq_ll, eq_lo, eq_nn, eq_bb, cw_in, cw_nin, bi_len, lw_tup, lw_lst, lw_str, lw_loc, bi_abs, bi_sum, bi_alls, bi_any, bi_int, bi_intb, bi_tup, bi_lst, bi_srt, bi_rpr, bi_max2, bi_min2, bi_max, bi_min, sw_tup, sw_lst, sw_loc, rw_tup, rw_lst, rw_loc, mw_app, mw_pop, mw_ext, iw, stw, seqOf_tup, seqOf_lst, lstOf_lst, intsOf_map, eqv_int, lay_int, List.length_cons, List.length_nil, permute, List.filterMap_cons, List.filterMap_nil, gd_v, Its.ok, List.not_mem_nil, List.map_cons, List.map_nil, List.cons_append, List.nil_append, List.replicate, Nat.reduceAdd, Nat.reduceSub, Nat.zero_add, Nat.reduceLT, Nat.reduceLeDiff, false_implies, implies_true, isNone, wipeE, fnW, List.cons.injEq, and_assoc, eq_self, decide_true, decide_false, Bool.not_true, Bool.not_false, Bool.true_and, Bool.false_and, Bool.and_true, Bool.and_false, Bool.or_true, Bool.true_or, Bool.or_false, Bool.false_or, beq_self_eq_true, not_true_eq_false, not_false_eq_true, up_same, up_up, Option.isSome_some, t.lband, decide_eq_false (show ¬ (k4 : Int) ≤ k by omega)]
          refine ⟨bs, kept + w - 1, total + w - 1, rfl, g, by omega, fun k5 I5 => ?_⟩
          have h5 := m2 k5 I5
          simp only [evSs, evS, evR, evL, evO, evB, evT, evTs, evSrc, asVal_val, asVal_fl, asVal_flD, asVal_fd0, asNew_fl, List.getElem?_cons_zero, List.getElem?_cons_succ, List.getElem?_nil, Option.some.injEq, D.v.injEq, D.loc.injEq, Ob.lst.injEq, PyData.bool.injEq, PyData.int.injEq, PyData.str.injEq, PyData.tuple.injEq, PyData.list.injEq, exists_eq_left, exists_eq_left', exists_and_left, and_true, true_and, vw_v, dataOf_nil, dataOf_cons, dataOf_map, Option.map_some, if_true, Bool.false_eq_true, if_false, setE, List.set_cons_zero, List.set_cons_succ, exists_eq', exists_eq, isiW, bw_add, bw_sub, bw_mul, bw_fdiv, bw_mod, bw_pow, bw_adds, bw_addt, bw_addl, bw_addn, bw_mull, bw_mult, uw_neg, uw_not, cw_lt, cw_lte, cw_gt, cw_gte, cw_eq, cw_ne, eq_ss, eq_ii, eq_tt, eq_ll, eq_lo, eq_nn, eq_bb, cw_in, cw_nin, bi_len, lw_tup, lw_lst, lw_str, lw_loc, bi_abs, bi_sum, bi_alls, bi_any, bi_int, bi_intb, bi_tup, bi_lst, bi_srt, bi_rpr, bi_max2, bi_min2, bi_max, bi_min, sw_tup, sw_lst, sw_loc, rw_tup, rw_lst, rw_loc, mw_app, mw_pop, mw_ext, iw, stw, seqOf_tup, seqOf_lst, lstOf_lst, intsOf_map, eqv_int, lay_int, List.length_cons, List.length_nil, permute, List.filterMap_cons, List.filterMap_nil, gd_v, Its.ok, List.not_mem_nil, List.map_cons, List.map_nil, List.cons_append, List.nil_append, List.replicate, Nat.reduceAdd, Nat.reduceSub, Nat.zero_add, Nat.reduceLT, Nat.reduceLeDiff, false_implies, implies_true, isNone, wipeE, fnW, List.cons.injEq, and_assoc, eq_self, decide_true, decide_false, Bool.not_true, Bool.not_false, Bool.true_and, Bool.false_and, Bool.and_true, Bool.and_false, Bool.or_true, Bool.true_or, Bool.or_false, Bool.false_or, beq_self_eq_true, not_true_eq_false, not_false_eq_true, up_same, up_up, Option.isSome_some, decide_eq_false (show ¬ (k : Int) < k5 by omega)]
          exact mid _
    · rintro env M4 ⟨d3, d4, d5, d6, d7, d8, d9, d10, d11, d12, d13, d14, d15, rfl, B4⟩
      unfold i_law_7
      try simp only [evSs, evS, evR, evL, evO, evB, evT, evTs, evSrc, asVal_val, asVal_fl, asVal_flD, asVal_fd0, asNew_fl, List.getElem?_cons_zero, List.getElem?_cons_succ, List.getElem?_nil, Option.some.injEq, D.v.injEq, D.loc.injEq, Ob.lst.injEq, PyData.bool.injEq, PyData.int.injEq, PyData.str.injEq, PyData.tuple.injEq, PyData.list.injEq, exists_eq_left, exists_eq_left', exists_and_left, and_true, true_and, vw_v, dataOf_nil, dataOf_cons, dataOf_map, Option.map_some, if_true, Bool.false_eq_true, if_false, setE, List.set_cons_zero, List.set_cons_succ, exists_eq', exists_eq, isiW, bw_add, bw_sub, bw_mul, bw_fdiv, bw_mod, bw_pow, bw_adds, bw_addt, bw_addl, bw_addn, bw_mull, bw_mult, uw_neg, uw_not, cw_lt, cw_lte, cw_gt, cw_gte, cw_eq, cw_ne, eq_ss, eq_ii, eq_tt, eq_ll, eq_lo, eq_nn, eq_bb, cw_in, cw_nin, bi_len, lw_tup, lw_lst, lw_str, lw_loc, bi_abs, bi_sum, bi_alls, bi_any, bi_int, bi_intb, bi_tup, bi_lst, bi_srt, bi_rpr, bi_max2, bi_min2, bi_max, bi_min, sw_tup, sw_lst, sw_loc, rw_tup, rw_lst, rw_loc, mw_app, mw_pop, mw_ext, iw, stw, seqOf_tup, seqOf_lst, lstOf_lst, intsOf_map, eqv_int, lay_int, List.length_cons, List.length_nil, permute, List.filterMap_cons, List.filterMap_nil, gd_v, Its.ok, List.not_mem_nil, List.map_cons, List.map_nil, List.cons_append, List.nil_append, List.replicate, Nat.reduceAdd, Nat.reduceSub, Nat.zero_add, Nat.reduceLT, Nat.reduceLeDiff, false_implies, implies_true, isNone, wipeE, fnW, List.cons.injEq, and_assoc, eq_self, decide_true, decide_false, Bool.not_true, Bool.not_false, Bool.true_and, Bool.false_and, Bool.and_true, Bool.and_false, Bool.or_true, Bool.true_or, Bool.or_false, Bool.false_or, beq_self_eq_true, not_true_eq_false, not_false_eq_true, up_same, up_up, Option.isSome_some]
      exact exit_v (h _)
end Lw

namespace Lw
open PySem L2 Pd PyProof.Rows
def XrMono (K : PySem.W.Frag) (XR : List Addr → Wd → Value → Option Addr → XN → Prop) : Prop := ∀ (R : List Addr) (wd wd' : Wd) (c : Value) (dx : Option Addr) (x : XN), Le K wd wd' → SimG K R wd' → XR R wd c dx x → XR R wd' c dx x
theorem fnsNil {Q : Str → Fi → Prop} : ∀ x fi, ([] : List (Str × Fi)).lookup x = some fi → Q x fi := fun _ _ h => nomatch h
theorem fnsCons {Q : Str → Fi → Prop} {p : Str × Fi} {r : List (Str × Fi)} (h0 : Q p.1 p.2) (hr : ∀ x fi, r.lookup x = some fi → Q x fi) : ∀ x fi, (p :: r).lookup x = some fi → Q x fi := fun x fi h => by
  obtain ⟨a, b⟩ := p
  rw [List.lookup_cons] at h
  split at h
  · rename_i e
    cases h
    have : x = a := by simpa using e
    rw [this]; exact h0
  · exact hr x fi h
theorem patNil {Q : Nat × List Str → Prop} : ∀ pt, pt ∈ ([] : List (Nat × List Str)) → Q pt := fun _ h => nomatch h
theorem patCons {Q : Nat × List Str → Prop} {p : Nat × List Str} {r : List (Nat × List Str)} (h0 : Q p) (hr : ∀ pt, pt ∈ r → Q pt) : ∀ pt, pt ∈ p :: r → Q pt := fun pt h => by
  rcases List.mem_cons.mp h with e | h
  · rw [e]; exact h0
  · exact hr pt h
def T : Tb := fun x => if x = "_law_bag" then spBag else if x = "_law_draw" then spDraw else if x = "_law_bands" then spBands else if x = "_law_pick" then spPick else if x = "_law_odd" then (spA Bag sgOdd) else if x = "_law_values" then (spA Bag sgValues) else if x = "_law_counts" then (spA Bag sgCounts) else if x = "_law_band" then spBand else if x = "_law_is_whole" then spIsW else if x = "_law_due" then spBandsErr else if x = "_law_least_more" then spMore else if x = "_law_most_missed" then spMissed else if x = "band_of" then spBand else if x = "owed" then spOwed else if x = "least_more" then spMore else if x = "most_missed" then spMissed else if x = "is_whole" then spNum else if x = "is_band" then spIsBand else if x = "bands_error" then spBandsErr else if x = "law" then spLaw else fun _ _ _ _ => False
theorem t_law_bag : T "_law_bag" = spBag := by kernel_rfl
theorem t_law_draw : T "_law_draw" = spDraw := by kernel_rfl
theorem t_law_bands : T "_law_bands" = spBands := by kernel_rfl
theorem t_law_pick : T "_law_pick" = spPick := by kernel_rfl
theorem t_law_odd : T "_law_odd" = (spA Bag sgOdd) := by kernel_rfl
theorem t_law_values : T "_law_values" = (spA Bag sgValues) := by kernel_rfl
theorem t_law_counts : T "_law_counts" = (spA Bag sgCounts) := by kernel_rfl
theorem t_law_band : T "_law_band" = spBand := by kernel_rfl
theorem t_law_is_whole : T "_law_is_whole" = spIsW := by kernel_rfl
theorem t_law_due : T "_law_due" = spBandsErr := by kernel_rfl
theorem t_law_least_more : T "_law_least_more" = spMore := by kernel_rfl
theorem t_law_most_missed : T "_law_most_missed" = spMissed := by kernel_rfl
theorem t_band_of : T "band_of" = spBand := by kernel_rfl
theorem t_owed : T "owed" = spOwed := by kernel_rfl
theorem t_least_more : T "least_more" = spMore := by kernel_rfl
theorem t_most_missed : T "most_missed" = spMissed := by kernel_rfl
theorem t_is_whole : T "is_whole" = spNum := by kernel_rfl
theorem t_is_band : T "is_band" = spIsBand := by kernel_rfl
theorem t_bands_error : T "bands_error" = spBandsErr := by kernel_rfl
theorem t_law : T "law" = spLaw := by kernel_rfl
structure Lk (K : PySem.W.Frag) (mg : Str → Option Value) where
  a_law_bag : Addr
  d_law_bag : FuncData
  F_law_bag : L2.Fun K "_law_bag" "_law_bag" s_law_bag a_law_bag d_law_bag
  m_law_bag : mg "_law_bag" = some (.ref a_law_bag)
  a_law_draw : Addr
  d_law_draw : FuncData
  F_law_draw : L2.Fun K "_law_draw" "_law_draw" s_law_draw a_law_draw d_law_draw
  m_law_draw : mg "_law_draw" = some (.ref a_law_draw)
  a_law_bands : Addr
  d_law_bands : FuncData
  F_law_bands : L2.Fun K "_law_bands" "_law_bands" s_law_bands a_law_bands d_law_bands
  m_law_bands : mg "_law_bands" = some (.ref a_law_bands)
  a_law_pick : Addr
  d_law_pick : FuncData
  F_law_pick : L2.Fun K "_law_pick" "_law_pick" s_law_pick a_law_pick d_law_pick
  m_law_pick : mg "_law_pick" = some (.ref a_law_pick)
  a_law_odd : Addr
  d_law_odd : FuncData
  F_law_odd : L2.Fun K "_law_odd" "_law_odd" s_law_odd a_law_odd d_law_odd
  m_law_odd : mg "_law_odd" = some (.ref a_law_odd)
  a_law_values : Addr
  d_law_values : FuncData
  F_law_values : L2.Fun K "_law_values" "_law_values" s_law_values a_law_values d_law_values
  m_law_values : mg "_law_values" = some (.ref a_law_values)
  a_law_counts : Addr
  d_law_counts : FuncData
  F_law_counts : L2.Fun K "_law_counts" "_law_counts" s_law_counts a_law_counts d_law_counts
  m_law_counts : mg "_law_counts" = some (.ref a_law_counts)
  a_law_band : Addr
  d_law_band : FuncData
  F_law_band : L2.Fun K "_law_band" "_law_band" s_law_band a_law_band d_law_band
  m_law_band : mg "_law_band" = some (.ref a_law_band)
  a_law_is_whole : Addr
  d_law_is_whole : FuncData
  F_law_is_whole : L2.Fun K "_law_is_whole" "_law_is_whole" s_law_is_whole a_law_is_whole d_law_is_whole
  m_law_is_whole : mg "_law_is_whole" = some (.ref a_law_is_whole)
  a_law_due : Addr
  d_law_due : FuncData
  F_law_due : L2.Fun K "_law_due" "_law_due" s_law_due a_law_due d_law_due
  m_law_due : mg "_law_due" = some (.ref a_law_due)
  a_law_least_more : Addr
  d_law_least_more : FuncData
  F_law_least_more : L2.Fun K "_law_least_more" "_law_least_more" s_law_least_more a_law_least_more d_law_least_more
  m_law_least_more : mg "_law_least_more" = some (.ref a_law_least_more)
  a_law_most_missed : Addr
  d_law_most_missed : FuncData
  F_law_most_missed : L2.Fun K "_law_most_missed" "_law_most_missed" s_law_most_missed a_law_most_missed d_law_most_missed
  m_law_most_missed : mg "_law_most_missed" = some (.ref a_law_most_missed)
  a_band_of : Addr
  d_band_of : FuncData
  F_band_of : L2.Fun K "band_of" "band_of" s_band_of a_band_of d_band_of
  m_band_of : mg "band_of" = some (.ref a_band_of)
  a_owed : Addr
  d_owed : FuncData
  F_owed : L2.Fun K "owed" "owed" s_owed a_owed d_owed
  m_owed : mg "owed" = some (.ref a_owed)
  a_least_more : Addr
  d_least_more : FuncData
  F_least_more : L2.Fun K "least_more" "least_more" s_least_more a_least_more d_least_more
  m_least_more : mg "least_more" = some (.ref a_least_more)
  a_most_missed : Addr
  d_most_missed : FuncData
  F_most_missed : L2.Fun K "most_missed" "most_missed" s_most_missed a_most_missed d_most_missed
  m_most_missed : mg "most_missed" = some (.ref a_most_missed)
  a_is_whole : Addr
  d_is_whole : FuncData
  F_is_whole : L2.Fun K "is_whole" "is_whole" s_is_whole a_is_whole d_is_whole
  m_is_whole : mg "is_whole" = some (.ref a_is_whole)
  a_is_band : Addr
  d_is_band : FuncData
  F_is_band : L2.Fun K "is_band" "is_band" s_is_band a_is_band d_is_band
  m_is_band : mg "is_band" = some (.ref a_is_band)
  a_bands_error : Addr
  d_bands_error : FuncData
  F_bands_error : L2.Fun K "bands_error" "bands_error" s_bands_error a_bands_error d_bands_error
  m_bands_error : mg "bands_error" = some (.ref a_bands_error)
  a_law : Addr
  d_law : FuncData
  F_law : L2.Fun K "law" "law" s_law a_law d_law
  m_law : mg "law" = some (.ref a_law)
  nb : ∀ x, x ∈ bn → mg x = none
  t_MAX_BANDS : PySem.Tok
  v_MAX_BANDS : mg "MAX_BANDS" = some (.int 8 t_MAX_BANDS)
  t_MAX_SHARE : PySem.Tok
  v_MAX_SHARE : mg "MAX_SHARE" = some (.int 10000 t_MAX_SHARE)
theorem bp_law_bag_0 {K : PySem.W.Frag} {a : Addr} {d : FuncData} (F : L2.Fun K "_law_bag" "_law_bag" s_law_bag a d) : BindsP d ["script"] 1 [] := by
  obtain ⟨oc, od, kV, doc, pm, an, cdv, ct, osl, rfl, lk, hcd⟩ := F.ex
  exact fun us ws h1 h2 => match us, ws, h1, h2 with
    | [_], [], _, _ => rfl
theorem bp_law_draw_0 {K : PySem.W.Frag} {a : Addr} {d : FuncData} (F : L2.Fun K "_law_draw" "_law_draw" s_law_draw a d) : BindsP d ["bag", "below"] 2 [] := by
  obtain ⟨oc, od, kV, doc, pm, an, cdv, ct, osl, rfl, lk, hcd⟩ := F.ex
  exact fun us ws h1 h2 => match us, ws, h1, h2 with
    | [_, _], [], _, _ => rfl
theorem bp_law_bands_0 {K : PySem.W.Frag} {a : Addr} {d : FuncData} (F : L2.Fun K "_law_bands" "_law_bands" s_law_bands a d) : BindsP d ["bag"] 1 [] := by
  obtain ⟨oc, od, kV, doc, pm, an, cdv, ct, osl, rfl, lk, hcd⟩ := F.ex
  exact fun us ws h1 h2 => match us, ws, h1, h2 with
    | [_], [], _, _ => rfl
theorem bp_law_pick_0 {K : PySem.W.Frag} {a : Addr} {d : FuncData} (F : L2.Fun K "_law_pick" "_law_pick" s_law_pick a d) : BindsP d ["bag", "some"] 2 [] := by
  obtain ⟨oc, od, kV, doc, pm, an, cdv, ct, osl, rfl, lk, hcd⟩ := F.ex
  exact fun us ws h1 h2 => match us, ws, h1, h2 with
    | [_, _], [], _, _ => rfl
theorem bp_law_odd_0 {K : PySem.W.Frag} {a : Addr} {d : FuncData} (F : L2.Fun K "_law_odd" "_law_odd" s_law_odd a d) : BindsP d ["bag"] 1 [] := by
  obtain ⟨oc, od, kV, doc, pm, an, cdv, ct, osl, rfl, lk, hcd⟩ := F.ex
  exact fun us ws h1 h2 => match us, ws, h1, h2 with
    | [_], [], _, _ => rfl
theorem bp_law_values_0 {K : PySem.W.Frag} {a : Addr} {d : FuncData} (F : L2.Fun K "_law_values" "_law_values" s_law_values a d) : BindsP d ["bag", "bands"] 2 [] := by
  obtain ⟨oc, od, kV, doc, pm, an, cdv, ct, osl, rfl, lk, hcd⟩ := F.ex
  exact fun us ws h1 h2 => match us, ws, h1, h2 with
    | [_, _], [], _, _ => rfl
theorem bp_law_counts_0 {K : PySem.W.Frag} {a : Addr} {d : FuncData} (F : L2.Fun K "_law_counts" "_law_counts" s_law_counts a d) : BindsP d ["bag", "bands"] 2 [] := by
  obtain ⟨oc, od, kV, doc, pm, an, cdv, ct, osl, rfl, lk, hcd⟩ := F.ex
  exact fun us ws h1 h2 => match us, ws, h1, h2 with
    | [_, _], [], _, _ => rfl
theorem bp_law_band_0 {K : PySem.W.Frag} {a : Addr} {d : FuncData} (F : L2.Fun K "_law_band" "_law_band" s_law_band a d) : BindsP d ["bands", "kept", "total"] 3 [] := by
  obtain ⟨oc, od, kV, doc, pm, an, cdv, ct, osl, rfl, lk, hcd⟩ := F.ex
  exact fun us ws h1 h2 => match us, ws, h1, h2 with
    | [_, _, _], [], _, _ => rfl
theorem bp_law_is_whole_0 {K : PySem.W.Frag} {a : Addr} {d : FuncData} (F : L2.Fun K "_law_is_whole" "_law_is_whole" s_law_is_whole a d) : BindsP d ["value"] 1 [] := by
  obtain ⟨oc, od, kV, doc, pm, an, cdv, ct, osl, rfl, lk, hcd⟩ := F.ex
  exact fun us ws h1 h2 => match us, ws, h1, h2 with
    | [_], [], _, _ => rfl
theorem bp_law_due_0 {K : PySem.W.Frag} {a : Addr} {d : FuncData} (F : L2.Fun K "_law_due" "_law_due" s_law_due a d) : BindsP d ["value"] 1 [] := by
  obtain ⟨oc, od, kV, doc, pm, an, cdv, ct, osl, rfl, lk, hcd⟩ := F.ex
  exact fun us ws h1 h2 => match us, ws, h1, h2 with
    | [_], [], _, _ => rfl
theorem bp_law_least_more_0 {K : PySem.W.Frag} {a : Addr} {d : FuncData} (F : L2.Fun K "_law_least_more" "_law_least_more" s_law_least_more a d) : BindsP d ["bands", "kept", "total"] 3 [] := by
  obtain ⟨oc, od, kV, doc, pm, an, cdv, ct, osl, rfl, lk, hcd⟩ := F.ex
  exact fun us ws h1 h2 => match us, ws, h1, h2 with
    | [_, _, _], [], _, _ => rfl
theorem bp_law_most_missed_0 {K : PySem.W.Frag} {a : Addr} {d : FuncData} (F : L2.Fun K "_law_most_missed" "_law_most_missed" s_law_most_missed a d) : BindsP d ["bands", "kept", "total"] 3 [] := by
  obtain ⟨oc, od, kV, doc, pm, an, cdv, ct, osl, rfl, lk, hcd⟩ := F.ex
  exact fun us ws h1 h2 => match us, ws, h1, h2 with
    | [_, _, _], [], _, _ => rfl
theorem bp_band_of_0 {K : PySem.W.Frag} {a : Addr} {d : FuncData} (F : L2.Fun K "band_of" "band_of" s_band_of a d) : BindsP d ["bands", "kept", "total"] 0 ["total", "kept", "bands"] := by
  obtain ⟨oc, od, kV, doc, pm, an, cdv, ct, osl, rfl, lk, hcd⟩ := F.ex
  exact fun us ws h1 h2 => match us, ws, h1, h2 with
    | [], [_, _, _], _, _ => rfl
theorem bp_band_of_1 {K : PySem.W.Frag} {a : Addr} {d : FuncData} (F : L2.Fun K "band_of" "band_of" s_band_of a d) : BindsP d ["bands", "kept", "total"] 3 [] := by
  obtain ⟨oc, od, kV, doc, pm, an, cdv, ct, osl, rfl, lk, hcd⟩ := F.ex
  exact fun us ws h1 h2 => match us, ws, h1, h2 with
    | [_, _, _], [], _, _ => rfl
theorem bp_owed_0 {K : PySem.W.Frag} {a : Addr} {d : FuncData} (F : L2.Fun K "owed" "owed" s_owed a d) : BindsP d ["bands", "kept", "total", "price"] 0 ["price", "total", "kept", "bands"] := by
  obtain ⟨oc, od, kV, doc, pm, an, cdv, ct, osl, rfl, lk, hcd⟩ := F.ex
  exact fun us ws h1 h2 => match us, ws, h1, h2 with
    | [], [_, _, _, _], _, _ => rfl
theorem bp_owed_1 {K : PySem.W.Frag} {a : Addr} {d : FuncData} (F : L2.Fun K "owed" "owed" s_owed a d) : BindsP d ["bands", "kept", "total", "price"] 4 [] := by
  obtain ⟨oc, od, kV, doc, pm, an, cdv, ct, osl, rfl, lk, hcd⟩ := F.ex
  exact fun us ws h1 h2 => match us, ws, h1, h2 with
    | [_, _, _, _], [], _, _ => rfl
theorem bp_least_more_0 {K : PySem.W.Frag} {a : Addr} {d : FuncData} (F : L2.Fun K "least_more" "least_more" s_least_more a d) : BindsP d ["bands", "kept", "total"] 0 ["total", "kept", "bands"] := by
  obtain ⟨oc, od, kV, doc, pm, an, cdv, ct, osl, rfl, lk, hcd⟩ := F.ex
  exact fun us ws h1 h2 => match us, ws, h1, h2 with
    | [], [_, _, _], _, _ => rfl
theorem bp_least_more_1 {K : PySem.W.Frag} {a : Addr} {d : FuncData} (F : L2.Fun K "least_more" "least_more" s_least_more a d) : BindsP d ["bands", "kept", "total"] 3 [] := by
  obtain ⟨oc, od, kV, doc, pm, an, cdv, ct, osl, rfl, lk, hcd⟩ := F.ex
  exact fun us ws h1 h2 => match us, ws, h1, h2 with
    | [_, _, _], [], _, _ => rfl
theorem bp_most_missed_0 {K : PySem.W.Frag} {a : Addr} {d : FuncData} (F : L2.Fun K "most_missed" "most_missed" s_most_missed a d) : BindsP d ["bands", "kept", "total"] 0 ["total", "kept", "bands"] := by
  obtain ⟨oc, od, kV, doc, pm, an, cdv, ct, osl, rfl, lk, hcd⟩ := F.ex
  exact fun us ws h1 h2 => match us, ws, h1, h2 with
    | [], [_, _, _], _, _ => rfl
theorem bp_most_missed_1 {K : PySem.W.Frag} {a : Addr} {d : FuncData} (F : L2.Fun K "most_missed" "most_missed" s_most_missed a d) : BindsP d ["bands", "kept", "total"] 3 [] := by
  obtain ⟨oc, od, kV, doc, pm, an, cdv, ct, osl, rfl, lk, hcd⟩ := F.ex
  exact fun us ws h1 h2 => match us, ws, h1, h2 with
    | [_, _, _], [], _, _ => rfl
theorem bp_is_whole_0 {K : PySem.W.Frag} {a : Addr} {d : FuncData} (F : L2.Fun K "is_whole" "is_whole" s_is_whole a d) : BindsP d ["value", "low", "high"] 3 [] := by
  obtain ⟨oc, od, kV, doc, pm, an, cdv, ct, osl, rfl, lk, hcd⟩ := F.ex
  exact fun us ws h1 h2 => match us, ws, h1, h2 with
    | [_, _, _], [], _, _ => rfl
theorem bp_is_band_0 {K : PySem.W.Frag} {a : Addr} {d : FuncData} (F : L2.Fun K "is_band" "is_band" s_is_band a d) : BindsP d ["value"] 1 [] := by
  obtain ⟨oc, od, kV, doc, pm, an, cdv, ct, osl, rfl, lk, hcd⟩ := F.ex
  exact fun us ws h1 h2 => match us, ws, h1, h2 with
    | [_], [], _, _ => rfl
theorem bp_bands_error_0 {K : PySem.W.Frag} {a : Addr} {d : FuncData} (F : L2.Fun K "bands_error" "bands_error" s_bands_error a d) : BindsP d ["value"] 0 ["value"] := by
  obtain ⟨oc, od, kV, doc, pm, an, cdv, ct, osl, rfl, lk, hcd⟩ := F.ex
  exact fun us ws h1 h2 => match us, ws, h1, h2 with
    | [], [_], _, _ => rfl
theorem bp_bands_error_1 {K : PySem.W.Frag} {a : Addr} {d : FuncData} (F : L2.Fun K "bands_error" "bands_error" s_bands_error a d) : BindsP d ["value"] 1 [] := by
  obtain ⟨oc, od, kV, doc, pm, an, cdv, ct, osl, rfl, lk, hcd⟩ := F.ex
  exact fun us ws h1 h2 => match us, ws, h1, h2 with
    | [_], [], _, _ => rfl
theorem cnsNil {Q : Str → PyData → Prop} : ∀ x p, ([] : List (Str × PyData)).lookup x = some p → Q x p := fun _ _ h => nomatch h
theorem cnsCons {Q : Str → PyData → Prop} {e : Str × PyData} {r : List (Str × PyData)} (h0 : Q e.1 e.2) (hr : ∀ x p, r.lookup x = some p → Q x p) : ∀ x p, (e :: r).lookup x = some p → Q x p := fun x p h => by
  obtain ⟨a, b⟩ := e
  rw [List.lookup_cons] at h
  split at h
  · rename_i e
    cases h
    have : x = a := by simpa using e
    rw [this]; exact h0
  · exact hr x p h
section
variable {P : Program} {w : World} {K : PySem.W.Frag} {mg : Str → Option Value} {base : Heap} {XR : List Addr → Wd → Value → Option Addr → XN → Prop}
theorem g_law_bag (l : Lk K mg) (hs : ∃ o, base.get? sysModules = some o) (hx : XrMono K XR) : FnG P w K mg base XR 1 l.a_law_bag l.d_law_bag ["script"] spBag := by
  refine (g_of (C := c_law_bag) (T := T) (k := 0) (n := 60) (ir := i_law_bag) true l.F_law_bag z_law_bag rfl rfl e_law_bag hs hx ⟨fun x h => l.nb x (List.contains_iff_mem.mp h), ?_, cnsNil⟩).imp (bag_ok T 16146 (by decide) (by decide))
  exact fnsNil
theorem g_law_draw (l : Lk K mg) (hs : ∃ o, base.get? sysModules = some o) (hx : XrMono K XR) : FnG P w K mg base XR 1 l.a_law_draw l.d_law_draw ["bag", "below"] spDraw := by
  refine (g_of (C := c_law_draw) (T := T) (k := 0) (n := 60) (ir := i_law_draw) true l.F_law_draw z_law_draw rfl rfl e_law_draw hs hx ⟨fun x h => l.nb x (List.contains_iff_mem.mp h), ?_, cnsNil⟩).imp (draw_ok T)
  exact fnsNil
theorem g_law_bands (l : Lk K mg) (hs : ∃ o, base.get? sysModules = some o) (hx : XrMono K XR) : FnG P w K mg base XR 2 l.a_law_bands l.d_law_bands ["bag"] spBands := by
  refine (g_of (C := c_law_bands) (T := T) (k := 1) (n := 60) (ir := i_law_bands) false l.F_law_bands z_law_bands rfl rfl e_law_bands hs hx ⟨fun x h => l.nb x (List.contains_iff_mem.mp h), ?_, cnsNil⟩).imp (ok_law_bands T t_law_draw)
  exact (fnsCons ⟨_, _, l.m_law_draw, l.F_law_draw.kp, t_law_draw ▸ (g_law_draw l hs hx).mono (by decide), (patCons (bp_law_draw_0 l.F_law_draw) patNil)⟩ fnsNil)
theorem g_law_pick (l : Lk K mg) (hs : ∃ o, base.get? sysModules = some o) (hx : XrMono K XR) : FnG P w K mg base XR 2 l.a_law_pick l.d_law_pick ["bag", "some"] spPick := by
  refine (g_of (C := c_law_pick) (T := T) (k := 1) (n := 60) (ir := i_law_pick) true l.F_law_pick z_law_pick rfl rfl e_law_pick hs hx ⟨fun x h => l.nb x (List.contains_iff_mem.mp h), ?_, cnsNil⟩).imp (pick_ok T t_law_draw)
  exact (fnsCons ⟨_, _, l.m_law_draw, l.F_law_draw.kp, t_law_draw ▸ (g_law_draw l hs hx).mono (by decide), (patCons (bp_law_draw_0 l.F_law_draw) patNil)⟩ fnsNil)
theorem g_law_odd (l : Lk K mg) (hs : ∃ o, base.get? sysModules = some o) (hx : XrMono K XR) : FnG P w K mg base XR 3 l.a_law_odd l.d_law_odd ["bag"] (spA Bag sgOdd) := by
  refine (g_of (C := c_law_odd) (T := T) (k := 2) (n := 60) (ir := i_law_odd) false l.F_law_odd z_law_odd rfl rfl e_law_odd hs hx ⟨fun x h => l.nb x (List.contains_iff_mem.mp h), ?_, cnsNil⟩).imp (ok_law_odd T t_law_draw t_law_pick)
  exact (fnsCons ⟨_, _, l.m_law_pick, l.F_law_pick.kp, t_law_pick ▸ (g_law_pick l hs hx).mono (by decide), (patCons (bp_law_pick_0 l.F_law_pick) patNil)⟩ fnsNil)
theorem g_law_values (l : Lk K mg) (hs : ∃ o, base.get? sysModules = some o) (hx : XrMono K XR) : FnG P w K mg base XR 4 l.a_law_values l.d_law_values ["bag", "bands"] (spA Bag sgValues) := by
  refine (g_of (C := c_law_values) (T := T) (k := 3) (n := 60) (ir := i_law_values) false l.F_law_values z_law_values rfl rfl e_law_values hs hx ⟨fun x h => l.nb x (List.contains_iff_mem.mp h), ?_, cnsNil⟩).imp (ok_law_values T t_law_draw t_law_pick t_law_odd)
  exact (fnsCons ⟨_, _, l.m_law_odd, l.F_law_odd.kp, t_law_odd ▸ (g_law_odd l hs hx).mono (by decide), (patCons (bp_law_odd_0 l.F_law_odd) patNil)⟩ (fnsCons ⟨_, _, l.m_law_draw, l.F_law_draw.kp, t_law_draw ▸ (g_law_draw l hs hx).mono (by decide), (patCons (bp_law_draw_0 l.F_law_draw) patNil)⟩ fnsNil))
theorem g_law_counts (l : Lk K mg) (hs : ∃ o, base.get? sysModules = some o) (hx : XrMono K XR) : FnG P w K mg base XR 3 l.a_law_counts l.d_law_counts ["bag", "bands"] (spA Bag sgCounts) := by
  refine (g_of (C := c_law_counts) (T := T) (k := 2) (n := 60) (ir := i_law_counts) false l.F_law_counts z_law_counts rfl rfl e_law_counts hs hx ⟨fun x h => l.nb x (List.contains_iff_mem.mp h), ?_, cnsNil⟩).imp (ok_law_counts T t_law_draw t_law_pick t_law_odd)
  exact (fnsCons ⟨_, _, l.m_law_pick, l.F_law_pick.kp, t_law_pick ▸ (g_law_pick l hs hx).mono (by decide), (patCons (bp_law_pick_0 l.F_law_pick) patNil)⟩ (fnsCons ⟨_, _, l.m_law_draw, l.F_law_draw.kp, t_law_draw ▸ (g_law_draw l hs hx).mono (by decide), (patCons (bp_law_draw_0 l.F_law_draw) patNil)⟩ fnsNil))
theorem g_law_band (l : Lk K mg) (hs : ∃ o, base.get? sysModules = some o) (hx : XrMono K XR) : FnG P w K mg base XR 1 l.a_law_band l.d_law_band ["bands", "kept", "total"] spBand := by
  refine (g_of (C := c_law_band) (T := T) (k := 0) (n := 60) (ir := i_law_band) true l.F_law_band z_law_band rfl rfl e_law_band hs hx ⟨fun x h => l.nb x (List.contains_iff_mem.mp h), ?_, cnsNil⟩).imp (ok_law_band T)
  exact fnsNil
theorem g_law_is_whole (l : Lk K mg) (hs : ∃ o, base.get? sysModules = some o) (hx : XrMono K XR) : FnG P w K mg base XR 1 l.a_law_is_whole l.d_law_is_whole ["value"] spIsW := by
  refine (g_of (C := c_law_is_whole) (T := T) (k := 0) (n := 60) (ir := i_law_is_whole) true l.F_law_is_whole z_law_is_whole rfl rfl e_law_is_whole hs hx ⟨fun x h => l.nb x (List.contains_iff_mem.mp h), ?_, cnsNil⟩).imp (ok_law_is_whole T)
  exact fnsNil
theorem g_law_due (l : Lk K mg) (hs : ∃ o, base.get? sysModules = some o) (hx : XrMono K XR) : FnG P w K mg base XR 2 l.a_law_due l.d_law_due ["value"] spBandsErr := by
  refine (g_of (C := c_law_due) (T := T) (k := 1) (n := 60) (ir := i_law_due) true l.F_law_due z_law_due rfl rfl e_law_due hs hx ⟨fun x h => l.nb x (List.contains_iff_mem.mp h), ?_, cnsNil⟩).imp (ok_law_due T t_law_is_whole)
  exact (fnsCons ⟨_, _, l.m_law_is_whole, l.F_law_is_whole.kp, t_law_is_whole ▸ (g_law_is_whole l hs hx).mono (by decide), (patCons (bp_law_is_whole_0 l.F_law_is_whole) patNil)⟩ fnsNil)
theorem g_law_least_more (l : Lk K mg) (hs : ∃ o, base.get? sysModules = some o) (hx : XrMono K XR) : FnG P w K mg base XR 2 l.a_law_least_more l.d_law_least_more ["bands", "kept", "total"] spMore := by
  refine (g_of (C := c_law_least_more) (T := T) (k := 1) (n := 60) (ir := i_law_least_more) true l.F_law_least_more z_law_least_more rfl rfl e_law_least_more hs hx ⟨fun x h => l.nb x (List.contains_iff_mem.mp h), ?_, cnsNil⟩).imp (ok_law_least_more T t_law_band)
  exact (fnsCons ⟨_, _, l.m_law_band, l.F_law_band.kp, t_law_band ▸ (g_law_band l hs hx).mono (by decide), (patCons (bp_law_band_0 l.F_law_band) patNil)⟩ fnsNil)
theorem g_law_most_missed (l : Lk K mg) (hs : ∃ o, base.get? sysModules = some o) (hx : XrMono K XR) : FnG P w K mg base XR 2 l.a_law_most_missed l.d_law_most_missed ["bands", "kept", "total"] spMissed := by
  refine (g_of (C := c_law_most_missed) (T := T) (k := 1) (n := 60) (ir := i_law_most_missed) true l.F_law_most_missed z_law_most_missed rfl rfl e_law_most_missed hs hx ⟨fun x h => l.nb x (List.contains_iff_mem.mp h), ?_, cnsNil⟩).imp (ok_law_most_missed T t_law_band)
  exact (fnsCons ⟨_, _, l.m_law_band, l.F_law_band.kp, t_law_band ▸ (g_law_band l hs hx).mono (by decide), (patCons (bp_law_band_0 l.F_law_band) patNil)⟩ fnsNil)
theorem g_band_of (l : Lk K mg) (hs : ∃ o, base.get? sysModules = some o) (hx : XrMono K XR) : FnG P w K mg base XR 1 l.a_band_of l.d_band_of ["bands", "kept", "total"] spBand := by
  refine (g_of (C := c_band_of) (T := T) (k := 0) (n := 60) (ir := i_band_of) true l.F_band_of z_band_of rfl rfl e_band_of hs hx ⟨fun x h => l.nb x (List.contains_iff_mem.mp h), ?_, (cnsCons ⟨(.int 10000), _, l.v_MAX_SHARE, ⟨_, rfl⟩, fun _ _ => .int _⟩ cnsNil)⟩).imp (ok_band_of T)
  exact fnsNil
theorem g_owed (l : Lk K mg) (hs : ∃ o, base.get? sysModules = some o) (hx : XrMono K XR) : FnG P w K mg base XR 2 l.a_owed l.d_owed ["bands", "kept", "total", "price"] spOwed := by
  refine (g_of (C := c_owed) (T := T) (k := 1) (n := 60) (ir := i_owed) true l.F_owed z_owed rfl rfl e_owed hs hx ⟨fun x h => l.nb x (List.contains_iff_mem.mp h), ?_, (cnsCons ⟨(.int 10000), _, l.v_MAX_SHARE, ⟨_, rfl⟩, fun _ _ => .int _⟩ cnsNil)⟩).imp (ok_owed T t_band_of)
  exact (fnsCons ⟨_, _, l.m_band_of, l.F_band_of.kp, t_band_of ▸ (g_band_of l hs hx).mono (by decide), (patCons (bp_band_of_0 l.F_band_of) (patCons (bp_band_of_1 l.F_band_of) patNil))⟩ fnsNil)
theorem g_least_more (l : Lk K mg) (hs : ∃ o, base.get? sysModules = some o) (hx : XrMono K XR) : FnG P w K mg base XR 2 l.a_least_more l.d_least_more ["bands", "kept", "total"] spMore := by
  refine (g_of (C := c_least_more) (T := T) (k := 1) (n := 60) (ir := i_least_more) true l.F_least_more z_least_more rfl rfl e_least_more hs hx ⟨fun x h => l.nb x (List.contains_iff_mem.mp h), ?_, (cnsCons ⟨(.int 10000), _, l.v_MAX_SHARE, ⟨_, rfl⟩, fun _ _ => .int _⟩ cnsNil)⟩).imp (ok_least_more T t_band_of)
  exact (fnsCons ⟨_, _, l.m_band_of, l.F_band_of.kp, t_band_of ▸ (g_band_of l hs hx).mono (by decide), (patCons (bp_band_of_0 l.F_band_of) (patCons (bp_band_of_1 l.F_band_of) patNil))⟩ fnsNil)
theorem g_most_missed (l : Lk K mg) (hs : ∃ o, base.get? sysModules = some o) (hx : XrMono K XR) : FnG P w K mg base XR 2 l.a_most_missed l.d_most_missed ["bands", "kept", "total"] spMissed := by
  refine (g_of (C := c_most_missed) (T := T) (k := 1) (n := 60) (ir := i_most_missed) true l.F_most_missed z_most_missed rfl rfl e_most_missed hs hx ⟨fun x h => l.nb x (List.contains_iff_mem.mp h), ?_, (cnsCons ⟨(.int 10000), _, l.v_MAX_SHARE, ⟨_, rfl⟩, fun _ _ => .int _⟩ cnsNil)⟩).imp (ok_most_missed T t_band_of)
  exact (fnsCons ⟨_, _, l.m_band_of, l.F_band_of.kp, t_band_of ▸ (g_band_of l hs hx).mono (by decide), (patCons (bp_band_of_0 l.F_band_of) (patCons (bp_band_of_1 l.F_band_of) patNil))⟩ fnsNil)
theorem g_is_whole (l : Lk K mg) (hs : ∃ o, base.get? sysModules = some o) (hx : XrMono K XR) : FnG P w K mg base XR 1 l.a_is_whole l.d_is_whole ["value", "low", "high"] spNum := by
  refine (g_of (C := c_is_whole) (T := T) (k := 0) (n := 60) (ir := i_is_whole) true l.F_is_whole z_is_whole rfl rfl e_is_whole hs hx ⟨fun x h => l.nb x (List.contains_iff_mem.mp h), ?_, cnsNil⟩).imp (ok_is_whole T)
  exact fnsNil
theorem g_is_band (l : Lk K mg) (hs : ∃ o, base.get? sysModules = some o) (hx : XrMono K XR) : FnG P w K mg base XR 2 l.a_is_band l.d_is_band ["value"] spIsBand := by
  refine (g_of (C := c_is_band) (T := T) (k := 1) (n := 60) (ir := i_is_band) true l.F_is_band z_is_band rfl rfl e_is_band hs hx ⟨fun x h => l.nb x (List.contains_iff_mem.mp h), ?_, (cnsCons ⟨(.int 10000), _, l.v_MAX_SHARE, ⟨_, rfl⟩, fun _ _ => .int _⟩ cnsNil)⟩).imp (ok_is_band T t_is_whole)
  exact (fnsCons ⟨_, _, l.m_is_whole, l.F_is_whole.kp, t_is_whole ▸ (g_is_whole l hs hx).mono (by decide), (patCons (bp_is_whole_0 l.F_is_whole) patNil)⟩ fnsNil)
theorem g_bands_error (l : Lk K mg) (hs : ∃ o, base.get? sysModules = some o) (hx : XrMono K XR) : FnG P w K mg base XR 3 l.a_bands_error l.d_bands_error ["value"] spBandsErr := by
  refine (g_of (C := c_bands_error) (T := T) (k := 2) (n := 60) (ir := i_bands_error) true l.F_bands_error z_bands_error rfl rfl e_bands_error hs hx ⟨fun x h => l.nb x (List.contains_iff_mem.mp h), ?_, (cnsCons ⟨(.int 8), _, l.v_MAX_BANDS, ⟨_, rfl⟩, fun _ _ => .int _⟩ cnsNil)⟩).imp (ok_bands_error T t_is_band)
  exact (fnsCons ⟨_, _, l.m_is_band, l.F_is_band.kp, t_is_band ▸ (g_is_band l hs hx).mono (by decide), (patCons (bp_is_band_0 l.F_is_band) patNil)⟩ fnsNil)
theorem g_law (l : Lk K mg) (hs : ∃ o, base.get? sysModules = some o) (hx : XrMono K XR) : FnG P w K mg base XR 5 l.a_law l.d_law ["script"] spLaw := by
  refine (g_of (C := c_law) (T := T) (k := 4) (n := 60) (ir := i_law) false l.F_law z_law rfl rfl e_law hs hx ⟨fun x h => l.nb x (List.contains_iff_mem.mp h), ?_, cnsNil⟩).imp (ok_law T ⟨t_law_bag, t_law_draw, t_law_pick, t_law_bands, t_law_values, t_law_counts, t_law_due, t_bands_error, t_law_band, t_band_of, t_owed, t_law_least_more, t_least_more, t_law_most_missed, t_most_missed⟩)
  exact (fnsCons ⟨_, _, l.m_law_bag, l.F_law_bag.kp, t_law_bag ▸ (g_law_bag l hs hx).mono (by decide), (patCons (bp_law_bag_0 l.F_law_bag) patNil)⟩ (fnsCons ⟨_, _, l.m_law_bands, l.F_law_bands.kp, t_law_bands ▸ (g_law_bands l hs hx).mono (by decide), (patCons (bp_law_bands_0 l.F_law_bands) patNil)⟩ (fnsCons ⟨_, _, l.m_law_values, l.F_law_values.kp, t_law_values ▸ (g_law_values l hs hx).mono (by decide), (patCons (bp_law_values_0 l.F_law_values) patNil)⟩ (fnsCons ⟨_, _, l.m_law_counts, l.F_law_counts.kp, t_law_counts ▸ (g_law_counts l hs hx).mono (by decide), (patCons (bp_law_counts_0 l.F_law_counts) patNil)⟩ (fnsCons ⟨_, _, l.m_law_band, l.F_law_band.kp, t_law_band ▸ (g_law_band l hs hx).mono (by decide), (patCons (bp_law_band_0 l.F_law_band) patNil)⟩ (fnsCons ⟨_, _, l.m_law_due, l.F_law_due.kp, t_law_due ▸ (g_law_due l hs hx).mono (by decide), (patCons (bp_law_due_0 l.F_law_due) patNil)⟩ (fnsCons ⟨_, _, l.m_law_pick, l.F_law_pick.kp, t_law_pick ▸ (g_law_pick l hs hx).mono (by decide), (patCons (bp_law_pick_0 l.F_law_pick) patNil)⟩ (fnsCons ⟨_, _, l.m_law_least_more, l.F_law_least_more.kp, t_law_least_more ▸ (g_law_least_more l hs hx).mono (by decide), (patCons (bp_law_least_more_0 l.F_law_least_more) patNil)⟩ (fnsCons ⟨_, _, l.m_law_most_missed, l.F_law_most_missed.kp, t_law_most_missed ▸ (g_law_most_missed l hs hx).mono (by decide), (patCons (bp_law_most_missed_0 l.F_law_most_missed) patNil)⟩ (fnsCons ⟨_, _, l.m_band_of, l.F_band_of.kp, t_band_of ▸ (g_band_of l hs hx).mono (by decide), (patCons (bp_band_of_0 l.F_band_of) (patCons (bp_band_of_1 l.F_band_of) patNil))⟩ (fnsCons ⟨_, _, l.m_owed, l.F_owed.kp, t_owed ▸ (g_owed l hs hx).mono (by decide), (patCons (bp_owed_0 l.F_owed) (patCons (bp_owed_1 l.F_owed) patNil))⟩ (fnsCons ⟨_, _, l.m_least_more, l.F_least_more.kp, t_least_more ▸ (g_least_more l hs hx).mono (by decide), (patCons (bp_least_more_0 l.F_least_more) (patCons (bp_least_more_1 l.F_least_more) patNil))⟩ (fnsCons ⟨_, _, l.m_most_missed, l.F_most_missed.kp, t_most_missed ▸ (g_most_missed l hs hx).mono (by decide), (patCons (bp_most_missed_0 l.F_most_missed) (patCons (bp_most_missed_1 l.F_most_missed) patNil))⟩ (fnsCons ⟨_, _, l.m_law_draw, l.F_law_draw.kp, t_law_draw ▸ (g_law_draw l hs hx).mono (by decide), (patCons (bp_law_draw_0 l.F_law_draw) patNil)⟩ (fnsCons ⟨_, _, l.m_bands_error, l.F_bands_error.kp, t_bands_error ▸ (g_bands_error l hs hx).mono (by decide), (patCons (bp_bands_error_0 l.F_bands_error) (patCons (bp_bands_error_1 l.F_bands_error) patNil))⟩ fnsNil)))))))))))))))
end
theorem all_mk {l : PySem.W.OpenLaw} {w : World} {K : PySem.W.Frag} {mg : Str → Option Value} {fa : Addr} {h : Heap} (X : K.In h) (G : h.Ns mainGlobals mg) (hfa : mg "law" = some (.ref fa))
    {f_law_bag : Addr} {oc_law_bag kV_law_bag dc_law_bag pm_law_bag cd_law_bag ct_law_bag : Value} {od_law_bag an_law_bag : Option Addr} {sl_law_bag : Array (Option Value)}
    {f_law_draw : Addr} {oc_law_draw kV_law_draw dc_law_draw pm_law_draw cd_law_draw ct_law_draw : Value} {od_law_draw an_law_draw : Option Addr} {sl_law_draw : Array (Option Value)}
    {f_law_bands : Addr} {oc_law_bands kV_law_bands dc_law_bands pm_law_bands cd_law_bands ct_law_bands : Value} {od_law_bands an_law_bands : Option Addr} {sl_law_bands : Array (Option Value)}
    {f_law_pick : Addr} {oc_law_pick kV_law_pick dc_law_pick pm_law_pick cd_law_pick ct_law_pick : Value} {od_law_pick an_law_pick : Option Addr} {sl_law_pick : Array (Option Value)}
    {f_law_odd : Addr} {oc_law_odd kV_law_odd dc_law_odd pm_law_odd cd_law_odd ct_law_odd : Value} {od_law_odd an_law_odd : Option Addr} {sl_law_odd : Array (Option Value)}
    {f_law_values : Addr} {oc_law_values kV_law_values dc_law_values pm_law_values cd_law_values ct_law_values : Value} {od_law_values an_law_values : Option Addr} {sl_law_values : Array (Option Value)}
    {f_law_counts : Addr} {oc_law_counts kV_law_counts dc_law_counts pm_law_counts cd_law_counts ct_law_counts : Value} {od_law_counts an_law_counts : Option Addr} {sl_law_counts : Array (Option Value)}
    {f_law_band : Addr} {oc_law_band kV_law_band dc_law_band pm_law_band cd_law_band ct_law_band : Value} {od_law_band an_law_band : Option Addr} {sl_law_band : Array (Option Value)}
    {f_law_is_whole : Addr} {oc_law_is_whole kV_law_is_whole dc_law_is_whole pm_law_is_whole cd_law_is_whole ct_law_is_whole : Value} {od_law_is_whole an_law_is_whole : Option Addr} {sl_law_is_whole : Array (Option Value)}
    {f_law_due : Addr} {oc_law_due kV_law_due dc_law_due pm_law_due cd_law_due ct_law_due : Value} {od_law_due an_law_due : Option Addr} {sl_law_due : Array (Option Value)}
    {f_law_least_more : Addr} {oc_law_least_more kV_law_least_more dc_law_least_more pm_law_least_more cd_law_least_more ct_law_least_more : Value} {od_law_least_more an_law_least_more : Option Addr} {sl_law_least_more : Array (Option Value)}
    {f_law_most_missed : Addr} {oc_law_most_missed kV_law_most_missed dc_law_most_missed pm_law_most_missed cd_law_most_missed ct_law_most_missed : Value} {od_law_most_missed an_law_most_missed : Option Addr} {sl_law_most_missed : Array (Option Value)}
    {f_band_of : Addr} {oc_band_of kV_band_of dc_band_of pm_band_of cd_band_of ct_band_of : Value} {od_band_of an_band_of : Option Addr} {sl_band_of : Array (Option Value)}
    {f_owed : Addr} {oc_owed kV_owed dc_owed pm_owed cd_owed ct_owed : Value} {od_owed an_owed : Option Addr} {sl_owed : Array (Option Value)}
    {f_least_more : Addr} {oc_least_more kV_least_more dc_least_more pm_least_more cd_least_more ct_least_more : Value} {od_least_more an_least_more : Option Addr} {sl_least_more : Array (Option Value)}
    {f_most_missed : Addr} {oc_most_missed kV_most_missed dc_most_missed pm_most_missed cd_most_missed ct_most_missed : Value} {od_most_missed an_most_missed : Option Addr} {sl_most_missed : Array (Option Value)}
    {f_is_whole : Addr} {oc_is_whole kV_is_whole dc_is_whole pm_is_whole cd_is_whole ct_is_whole : Value} {od_is_whole an_is_whole : Option Addr} {sl_is_whole : Array (Option Value)}
    {f_is_band : Addr} {oc_is_band kV_is_band dc_is_band pm_is_band cd_is_band ct_is_band : Value} {od_is_band an_is_band : Option Addr} {sl_is_band : Array (Option Value)}
    {f_bands_error : Addr} {oc_bands_error kV_bands_error dc_bands_error pm_bands_error cd_bands_error ct_bands_error : Value} {od_bands_error an_bands_error : Option Addr} {sl_bands_error : Array (Option Value)}
    {f_law : Addr} {oc_law kV_law dc_law pm_law cd_law ct_law : Value} {od_law an_law : Option Addr} {sl_law : Array (Option Value)}
    (a_law_bag : PySem.W.nsIn K mainGlobals "_law_bag" = some (some (.ref f_law_bag))) (l_law_bag : K.lookup f_law_bag = some ⟨oc_law_bag, od_law_bag, .func (PySem.W.fnOf "_law_bag" "_law_bag" (defArgs s_law_bag) (defBody s_law_bag) (defScope s_law_bag) .none kV_law_bag dc_law_bag pm_law_bag an_law_bag cd_law_bag ct_law_bag), sl_law_bag⟩) (c_law_bag : PySem.W.codeIn K cd_law_bag "_law_bag" = true) (k_law_bag : PySem.W.keepIn K (.ref f_law_bag) = true)
    (a_law_draw : PySem.W.nsIn K mainGlobals "_law_draw" = some (some (.ref f_law_draw))) (l_law_draw : K.lookup f_law_draw = some ⟨oc_law_draw, od_law_draw, .func (PySem.W.fnOf "_law_draw" "_law_draw" (defArgs s_law_draw) (defBody s_law_draw) (defScope s_law_draw) .none kV_law_draw dc_law_draw pm_law_draw an_law_draw cd_law_draw ct_law_draw), sl_law_draw⟩) (c_law_draw : PySem.W.codeIn K cd_law_draw "_law_draw" = true) (k_law_draw : PySem.W.keepIn K (.ref f_law_draw) = true)
    (a_law_bands : PySem.W.nsIn K mainGlobals "_law_bands" = some (some (.ref f_law_bands))) (l_law_bands : K.lookup f_law_bands = some ⟨oc_law_bands, od_law_bands, .func (PySem.W.fnOf "_law_bands" "_law_bands" (defArgs s_law_bands) (defBody s_law_bands) (defScope s_law_bands) .none kV_law_bands dc_law_bands pm_law_bands an_law_bands cd_law_bands ct_law_bands), sl_law_bands⟩) (c_law_bands : PySem.W.codeIn K cd_law_bands "_law_bands" = true) (k_law_bands : PySem.W.keepIn K (.ref f_law_bands) = true)
    (a_law_pick : PySem.W.nsIn K mainGlobals "_law_pick" = some (some (.ref f_law_pick))) (l_law_pick : K.lookup f_law_pick = some ⟨oc_law_pick, od_law_pick, .func (PySem.W.fnOf "_law_pick" "_law_pick" (defArgs s_law_pick) (defBody s_law_pick) (defScope s_law_pick) .none kV_law_pick dc_law_pick pm_law_pick an_law_pick cd_law_pick ct_law_pick), sl_law_pick⟩) (c_law_pick : PySem.W.codeIn K cd_law_pick "_law_pick" = true) (k_law_pick : PySem.W.keepIn K (.ref f_law_pick) = true)
    (a_law_odd : PySem.W.nsIn K mainGlobals "_law_odd" = some (some (.ref f_law_odd))) (l_law_odd : K.lookup f_law_odd = some ⟨oc_law_odd, od_law_odd, .func (PySem.W.fnOf "_law_odd" "_law_odd" (defArgs s_law_odd) (defBody s_law_odd) (defScope s_law_odd) .none kV_law_odd dc_law_odd pm_law_odd an_law_odd cd_law_odd ct_law_odd), sl_law_odd⟩) (c_law_odd : PySem.W.codeIn K cd_law_odd "_law_odd" = true) (k_law_odd : PySem.W.keepIn K (.ref f_law_odd) = true)
    (a_law_values : PySem.W.nsIn K mainGlobals "_law_values" = some (some (.ref f_law_values))) (l_law_values : K.lookup f_law_values = some ⟨oc_law_values, od_law_values, .func (PySem.W.fnOf "_law_values" "_law_values" (defArgs s_law_values) (defBody s_law_values) (defScope s_law_values) .none kV_law_values dc_law_values pm_law_values an_law_values cd_law_values ct_law_values), sl_law_values⟩) (c_law_values : PySem.W.codeIn K cd_law_values "_law_values" = true) (k_law_values : PySem.W.keepIn K (.ref f_law_values) = true)
    (a_law_counts : PySem.W.nsIn K mainGlobals "_law_counts" = some (some (.ref f_law_counts))) (l_law_counts : K.lookup f_law_counts = some ⟨oc_law_counts, od_law_counts, .func (PySem.W.fnOf "_law_counts" "_law_counts" (defArgs s_law_counts) (defBody s_law_counts) (defScope s_law_counts) .none kV_law_counts dc_law_counts pm_law_counts an_law_counts cd_law_counts ct_law_counts), sl_law_counts⟩) (c_law_counts : PySem.W.codeIn K cd_law_counts "_law_counts" = true) (k_law_counts : PySem.W.keepIn K (.ref f_law_counts) = true)
    (a_law_band : PySem.W.nsIn K mainGlobals "_law_band" = some (some (.ref f_law_band))) (l_law_band : K.lookup f_law_band = some ⟨oc_law_band, od_law_band, .func (PySem.W.fnOf "_law_band" "_law_band" (defArgs s_law_band) (defBody s_law_band) (defScope s_law_band) .none kV_law_band dc_law_band pm_law_band an_law_band cd_law_band ct_law_band), sl_law_band⟩) (c_law_band : PySem.W.codeIn K cd_law_band "_law_band" = true) (k_law_band : PySem.W.keepIn K (.ref f_law_band) = true)
    (a_law_is_whole : PySem.W.nsIn K mainGlobals "_law_is_whole" = some (some (.ref f_law_is_whole))) (l_law_is_whole : K.lookup f_law_is_whole = some ⟨oc_law_is_whole, od_law_is_whole, .func (PySem.W.fnOf "_law_is_whole" "_law_is_whole" (defArgs s_law_is_whole) (defBody s_law_is_whole) (defScope s_law_is_whole) .none kV_law_is_whole dc_law_is_whole pm_law_is_whole an_law_is_whole cd_law_is_whole ct_law_is_whole), sl_law_is_whole⟩) (c_law_is_whole : PySem.W.codeIn K cd_law_is_whole "_law_is_whole" = true) (k_law_is_whole : PySem.W.keepIn K (.ref f_law_is_whole) = true)
    (a_law_due : PySem.W.nsIn K mainGlobals "_law_due" = some (some (.ref f_law_due))) (l_law_due : K.lookup f_law_due = some ⟨oc_law_due, od_law_due, .func (PySem.W.fnOf "_law_due" "_law_due" (defArgs s_law_due) (defBody s_law_due) (defScope s_law_due) .none kV_law_due dc_law_due pm_law_due an_law_due cd_law_due ct_law_due), sl_law_due⟩) (c_law_due : PySem.W.codeIn K cd_law_due "_law_due" = true) (k_law_due : PySem.W.keepIn K (.ref f_law_due) = true)
    (a_law_least_more : PySem.W.nsIn K mainGlobals "_law_least_more" = some (some (.ref f_law_least_more))) (l_law_least_more : K.lookup f_law_least_more = some ⟨oc_law_least_more, od_law_least_more, .func (PySem.W.fnOf "_law_least_more" "_law_least_more" (defArgs s_law_least_more) (defBody s_law_least_more) (defScope s_law_least_more) .none kV_law_least_more dc_law_least_more pm_law_least_more an_law_least_more cd_law_least_more ct_law_least_more), sl_law_least_more⟩) (c_law_least_more : PySem.W.codeIn K cd_law_least_more "_law_least_more" = true) (k_law_least_more : PySem.W.keepIn K (.ref f_law_least_more) = true)
    (a_law_most_missed : PySem.W.nsIn K mainGlobals "_law_most_missed" = some (some (.ref f_law_most_missed))) (l_law_most_missed : K.lookup f_law_most_missed = some ⟨oc_law_most_missed, od_law_most_missed, .func (PySem.W.fnOf "_law_most_missed" "_law_most_missed" (defArgs s_law_most_missed) (defBody s_law_most_missed) (defScope s_law_most_missed) .none kV_law_most_missed dc_law_most_missed pm_law_most_missed an_law_most_missed cd_law_most_missed ct_law_most_missed), sl_law_most_missed⟩) (c_law_most_missed : PySem.W.codeIn K cd_law_most_missed "_law_most_missed" = true) (k_law_most_missed : PySem.W.keepIn K (.ref f_law_most_missed) = true)
    (a_band_of : PySem.W.nsIn K mainGlobals "band_of" = some (some (.ref f_band_of))) (l_band_of : K.lookup f_band_of = some ⟨oc_band_of, od_band_of, .func (PySem.W.fnOf "band_of" "band_of" (defArgs s_band_of) (defBody s_band_of) (defScope s_band_of) .none kV_band_of dc_band_of pm_band_of an_band_of cd_band_of ct_band_of), sl_band_of⟩) (c_band_of : PySem.W.codeIn K cd_band_of "band_of" = true) (k_band_of : PySem.W.keepIn K (.ref f_band_of) = true)
    (a_owed : PySem.W.nsIn K mainGlobals "owed" = some (some (.ref f_owed))) (l_owed : K.lookup f_owed = some ⟨oc_owed, od_owed, .func (PySem.W.fnOf "owed" "owed" (defArgs s_owed) (defBody s_owed) (defScope s_owed) .none kV_owed dc_owed pm_owed an_owed cd_owed ct_owed), sl_owed⟩) (c_owed : PySem.W.codeIn K cd_owed "owed" = true) (k_owed : PySem.W.keepIn K (.ref f_owed) = true)
    (a_least_more : PySem.W.nsIn K mainGlobals "least_more" = some (some (.ref f_least_more))) (l_least_more : K.lookup f_least_more = some ⟨oc_least_more, od_least_more, .func (PySem.W.fnOf "least_more" "least_more" (defArgs s_least_more) (defBody s_least_more) (defScope s_least_more) .none kV_least_more dc_least_more pm_least_more an_least_more cd_least_more ct_least_more), sl_least_more⟩) (c_least_more : PySem.W.codeIn K cd_least_more "least_more" = true) (k_least_more : PySem.W.keepIn K (.ref f_least_more) = true)
    (a_most_missed : PySem.W.nsIn K mainGlobals "most_missed" = some (some (.ref f_most_missed))) (l_most_missed : K.lookup f_most_missed = some ⟨oc_most_missed, od_most_missed, .func (PySem.W.fnOf "most_missed" "most_missed" (defArgs s_most_missed) (defBody s_most_missed) (defScope s_most_missed) .none kV_most_missed dc_most_missed pm_most_missed an_most_missed cd_most_missed ct_most_missed), sl_most_missed⟩) (c_most_missed : PySem.W.codeIn K cd_most_missed "most_missed" = true) (k_most_missed : PySem.W.keepIn K (.ref f_most_missed) = true)
    (a_is_whole : PySem.W.nsIn K mainGlobals "is_whole" = some (some (.ref f_is_whole))) (l_is_whole : K.lookup f_is_whole = some ⟨oc_is_whole, od_is_whole, .func (PySem.W.fnOf "is_whole" "is_whole" (defArgs s_is_whole) (defBody s_is_whole) (defScope s_is_whole) .none kV_is_whole dc_is_whole pm_is_whole an_is_whole cd_is_whole ct_is_whole), sl_is_whole⟩) (c_is_whole : PySem.W.codeIn K cd_is_whole "is_whole" = true) (k_is_whole : PySem.W.keepIn K (.ref f_is_whole) = true)
    (a_is_band : PySem.W.nsIn K mainGlobals "is_band" = some (some (.ref f_is_band))) (l_is_band : K.lookup f_is_band = some ⟨oc_is_band, od_is_band, .func (PySem.W.fnOf "is_band" "is_band" (defArgs s_is_band) (defBody s_is_band) (defScope s_is_band) .none kV_is_band dc_is_band pm_is_band an_is_band cd_is_band ct_is_band), sl_is_band⟩) (c_is_band : PySem.W.codeIn K cd_is_band "is_band" = true) (k_is_band : PySem.W.keepIn K (.ref f_is_band) = true)
    (a_bands_error : PySem.W.nsIn K mainGlobals "bands_error" = some (some (.ref f_bands_error))) (l_bands_error : K.lookup f_bands_error = some ⟨oc_bands_error, od_bands_error, .func (PySem.W.fnOf "bands_error" "bands_error" (defArgs s_bands_error) (defBody s_bands_error) (defScope s_bands_error) .none kV_bands_error dc_bands_error pm_bands_error an_bands_error cd_bands_error ct_bands_error), sl_bands_error⟩) (c_bands_error : PySem.W.codeIn K cd_bands_error "bands_error" = true) (k_bands_error : PySem.W.keepIn K (.ref f_bands_error) = true)
    (a_law : PySem.W.nsIn K mainGlobals "law" = some (some (.ref f_law))) (l_law : K.lookup f_law = some ⟨oc_law, od_law, .func (PySem.W.fnOf "law" "law" (defArgs s_law) (defBody s_law) (defScope s_law) .none kV_law dc_law pm_law an_law cd_law ct_law), sl_law⟩) (c_law : PySem.W.codeIn K cd_law "law" = true) (k_law : PySem.W.keepIn K (.ref f_law) = true)
    (n_0 : PySem.W.nsIn K mainGlobals "abs" = some none)
    (n_1 : PySem.W.nsIn K mainGlobals "all" = some none)
    (n_2 : PySem.W.nsIn K mainGlobals "bool" = some none)
    (n_3 : PySem.W.nsIn K mainGlobals "enumerate" = some none)
    (n_4 : PySem.W.nsIn K mainGlobals "int" = some none)
    (n_5 : PySem.W.nsIn K mainGlobals "isinstance" = some none)
    (n_6 : PySem.W.nsIn K mainGlobals "len" = some none)
    (n_7 : PySem.W.nsIn K mainGlobals "list" = some none)
    (n_8 : PySem.W.nsIn K mainGlobals "max" = some none)
    (n_9 : PySem.W.nsIn K mainGlobals "min" = some none)
    (n_10 : PySem.W.nsIn K mainGlobals "range" = some none)
    (n_11 : PySem.W.nsIn K mainGlobals "repr" = some none)
    (n_12 : PySem.W.nsIn K mainGlobals "tuple" = some none)
    {q_MAX_BANDS : PySem.Tok} (u_MAX_BANDS : PySem.W.nsIn K mainGlobals "MAX_BANDS" = some (some (.int 8 q_MAX_BANDS)))
    {q_MAX_SHARE : PySem.Tok} (u_MAX_SHARE : PySem.W.nsIn K mainGlobals "MAX_SHARE" = some (some (.int 10000 q_MAX_SHARE)))
    (nl : noLists K = true) :
    noLists K = true ∧ ∃ (XR : List Addr → Wd → Value → Option Addr → XN → Prop) (fd : FuncData), (∀ (s : Shared) (u : Value), BindsTo s fd ⟨[u], []⟩ [("script", u)]) ∧
      ∀ base : Heap, K.In base → base.Ns mainGlobals mg → (∃ o, base.get? sysModules = some o) → FnG l.prog w K mg base XR 5 fa fd ["script"] spLaw := by
  have e := hfa.symm.trans (PySem.W.mg_of X G a_law)
  cases e
  let lk : Lk K mg := {
    a_law_bag := _, d_law_bag := _, F_law_bag := fun_mk (st := s_law_bag) l_law_bag c_law_bag k_law_bag, m_law_bag := PySem.W.mg_of X G a_law_bag,
    a_law_draw := _, d_law_draw := _, F_law_draw := fun_mk (st := s_law_draw) l_law_draw c_law_draw k_law_draw, m_law_draw := PySem.W.mg_of X G a_law_draw,
    a_law_bands := _, d_law_bands := _, F_law_bands := fun_mk (st := s_law_bands) l_law_bands c_law_bands k_law_bands, m_law_bands := PySem.W.mg_of X G a_law_bands,
    a_law_pick := _, d_law_pick := _, F_law_pick := fun_mk (st := s_law_pick) l_law_pick c_law_pick k_law_pick, m_law_pick := PySem.W.mg_of X G a_law_pick,
    a_law_odd := _, d_law_odd := _, F_law_odd := fun_mk (st := s_law_odd) l_law_odd c_law_odd k_law_odd, m_law_odd := PySem.W.mg_of X G a_law_odd,
    a_law_values := _, d_law_values := _, F_law_values := fun_mk (st := s_law_values) l_law_values c_law_values k_law_values, m_law_values := PySem.W.mg_of X G a_law_values,
    a_law_counts := _, d_law_counts := _, F_law_counts := fun_mk (st := s_law_counts) l_law_counts c_law_counts k_law_counts, m_law_counts := PySem.W.mg_of X G a_law_counts,
    a_law_band := _, d_law_band := _, F_law_band := fun_mk (st := s_law_band) l_law_band c_law_band k_law_band, m_law_band := PySem.W.mg_of X G a_law_band,
    a_law_is_whole := _, d_law_is_whole := _, F_law_is_whole := fun_mk (st := s_law_is_whole) l_law_is_whole c_law_is_whole k_law_is_whole, m_law_is_whole := PySem.W.mg_of X G a_law_is_whole,
    a_law_due := _, d_law_due := _, F_law_due := fun_mk (st := s_law_due) l_law_due c_law_due k_law_due, m_law_due := PySem.W.mg_of X G a_law_due,
    a_law_least_more := _, d_law_least_more := _, F_law_least_more := fun_mk (st := s_law_least_more) l_law_least_more c_law_least_more k_law_least_more, m_law_least_more := PySem.W.mg_of X G a_law_least_more,
    a_law_most_missed := _, d_law_most_missed := _, F_law_most_missed := fun_mk (st := s_law_most_missed) l_law_most_missed c_law_most_missed k_law_most_missed, m_law_most_missed := PySem.W.mg_of X G a_law_most_missed,
    a_band_of := _, d_band_of := _, F_band_of := fun_mk (st := s_band_of) l_band_of c_band_of k_band_of, m_band_of := PySem.W.mg_of X G a_band_of,
    a_owed := _, d_owed := _, F_owed := fun_mk (st := s_owed) l_owed c_owed k_owed, m_owed := PySem.W.mg_of X G a_owed,
    a_least_more := _, d_least_more := _, F_least_more := fun_mk (st := s_least_more) l_least_more c_least_more k_least_more, m_least_more := PySem.W.mg_of X G a_least_more,
    a_most_missed := _, d_most_missed := _, F_most_missed := fun_mk (st := s_most_missed) l_most_missed c_most_missed k_most_missed, m_most_missed := PySem.W.mg_of X G a_most_missed,
    a_is_whole := _, d_is_whole := _, F_is_whole := fun_mk (st := s_is_whole) l_is_whole c_is_whole k_is_whole, m_is_whole := PySem.W.mg_of X G a_is_whole,
    a_is_band := _, d_is_band := _, F_is_band := fun_mk (st := s_is_band) l_is_band c_is_band k_is_band, m_is_band := PySem.W.mg_of X G a_is_band,
    a_bands_error := _, d_bands_error := _, F_bands_error := fun_mk (st := s_bands_error) l_bands_error c_bands_error k_bands_error, m_bands_error := PySem.W.mg_of X G a_bands_error,
    a_law := _, d_law := _, F_law := fun_mk (st := s_law) l_law c_law k_law, m_law := PySem.W.mg_of X G a_law,
    t_MAX_BANDS := _, v_MAX_BANDS := PySem.W.mg_of X G u_MAX_BANDS,
    t_MAX_SHARE := _, v_MAX_SHARE := PySem.W.mg_of X G u_MAX_SHARE,
    nb := fun x hx => by
      simp only [bn, List.mem_cons, List.not_mem_nil, or_false] at hx
      rcases hx with rfl | rfl | rfl | rfl | rfl | rfl | rfl | rfl | rfl | rfl | rfl | rfl | rfl
      · exact PySem.W.mg_none_of X G n_0
      · exact PySem.W.mg_none_of X G n_1
      · exact PySem.W.mg_none_of X G n_2
      · exact PySem.W.mg_none_of X G n_3
      · exact PySem.W.mg_none_of X G n_4
      · exact PySem.W.mg_none_of X G n_5
      · exact PySem.W.mg_none_of X G n_6
      · exact PySem.W.mg_none_of X G n_7
      · exact PySem.W.mg_none_of X G n_8
      · exact PySem.W.mg_none_of X G n_9
      · exact PySem.W.mg_none_of X G n_10
      · exact PySem.W.mg_none_of X G n_11
      · exact PySem.W.mg_none_of X G n_12
  }
  exact ⟨nl, fun _ _ _ _ _ => False, _, fun s v => .of_eq rfl, fun base _ _ hs => g_law lk hs fun _ _ _ _ _ _ _ _ h => h⟩
theorem walk {l : PySem.W.OpenLaw} {q : Program} {loose : List Str} {XP : (Str → Option Value) → Heap → Prop} {YP : World → Heap → Prop} {d : DefRec} {K : Params → PySem.W.Frag} (hn : l.most = some 63) (hdf : d.params.defaults = []) (hq : importsNone q = true)
    (hY : ∀ (w : World) (h : Heap), YP w h → (K w.params).In h)
    (F : ∀ (w : World) (mg : Str → Option Value) (fa : Addr) (h : Heap), (K w.params).In h → h.Ns mainGlobals mg → mg d.name = some (.ref fa) → noLists (K w.params) = true ∧ ∃ (XR : List Addr → Wd → Value → Option Addr → XN → Prop) (fd : FuncData), (∀ (s : Shared) (u : Value), BindsTo s fd ⟨[u], []⟩ [("script", u)]) ∧
      ∀ base : Heap, (K w.params).In base → base.Ns mainGlobals mg → (∃ o, base.get? sysModules = some o) → FnG l.prog w (K w.params) mg base XR 5 fa fd ["script"] spLaw) :
    PySem.W.WalkO q loose XP YP l.row.toRowW d [] (fun f vs => PySem.call f vs) :=
  walk_G (n := 63) (k := 5) (x := "script") hn (by decide) hdf ⟨rfl, by decide, by decide⟩ hq hY F fun ns hl => ⟨ns, rfl, rfl, hl, fun _ => rfl⟩
end Lw
open PySem PySem.W PyProof.Rows
set_option maxRecDepth 100000 in
set_option maxHeartbeats 0 in
theorem PySem.Challenge.cw_deskhours_k76_whole_owed_holds : PySem.Challenge.rw_deskhours_k76_whole_owed.Holds := by
  w_on; o_law; k_head; (case hw => w_witness2)
  k_fill
  refine Lw.walk (l := PySem.Challenge.rw_deskhours_k76_whole_owed) rfl rfl (by kernel_rfl) (fun w h Y => PySem.W.kIn_of Y) ?F
  case F =>
    intro w mg fa h KX G hmg
    refine' Lw.all_mk KX G hmg ?a_law_bag ?l_law_bag ?c_law_bag ?k_law_bag ?a_law_draw ?l_law_draw ?c_law_draw ?k_law_draw ?a_law_bands ?l_law_bands ?c_law_bands ?k_law_bands ?a_law_pick ?l_law_pick ?c_law_pick ?k_law_pick ?a_law_odd ?l_law_odd ?c_law_odd ?k_law_odd ?a_law_values ?l_law_values ?c_law_values ?k_law_values ?a_law_counts ?l_law_counts ?c_law_counts ?k_law_counts ?a_law_band ?l_law_band ?c_law_band ?k_law_band ?a_law_is_whole ?l_law_is_whole ?c_law_is_whole ?k_law_is_whole ?a_law_due ?l_law_due ?c_law_due ?k_law_due ?a_law_least_more ?l_law_least_more ?c_law_least_more ?k_law_least_more ?a_law_most_missed ?l_law_most_missed ?c_law_most_missed ?k_law_most_missed ?a_band_of ?l_band_of ?c_band_of ?k_band_of ?a_owed ?l_owed ?c_owed ?k_owed ?a_least_more ?l_least_more ?c_least_more ?k_least_more ?a_most_missed ?l_most_missed ?c_most_missed ?k_most_missed ?a_is_whole ?l_is_whole ?c_is_whole ?k_is_whole ?a_is_band ?l_is_band ?c_is_band ?k_is_band ?a_bands_error ?l_bands_error ?c_bands_error ?k_bands_error ?a_law ?l_law ?c_law ?k_law ?n_0 ?n_1 ?n_2 ?n_3 ?n_4 ?n_5 ?n_6 ?n_7 ?n_8 ?n_9 ?n_10 ?n_11 ?n_12 ?u_MAX_BANDS ?u_MAX_SHARE ?nl
    (case a_law_bag => k_is)
    (case l_law_bag => k_is)
    (case c_law_bag => k_is)
    (case k_law_bag => k_is)
    (case a_law_draw => k_is)
    (case l_law_draw => k_is)
    (case c_law_draw => k_is)
    (case k_law_draw => k_is)
    (case a_law_bands => k_is)
    (case l_law_bands => k_is)
    (case c_law_bands => k_is)
    (case k_law_bands => k_is)
    (case a_law_pick => k_is)
    (case l_law_pick => k_is)
    (case c_law_pick => k_is)
    (case k_law_pick => k_is)
    (case a_law_odd => k_is)
    (case l_law_odd => k_is)
    (case c_law_odd => k_is)
    (case k_law_odd => k_is)
    (case a_law_values => k_is)
    (case l_law_values => k_is)
    (case c_law_values => k_is)
    (case k_law_values => k_is)
    (case a_law_counts => k_is)
    (case l_law_counts => k_is)
    (case c_law_counts => k_is)
    (case k_law_counts => k_is)
    (case a_law_band => k_is)
    (case l_law_band => k_is)
    (case c_law_band => k_is)
    (case k_law_band => k_is)
    (case a_law_is_whole => k_is)
    (case l_law_is_whole => k_is)
    (case c_law_is_whole => k_is)
    (case k_law_is_whole => k_is)
    (case a_law_due => k_is)
    (case l_law_due => k_is)
    (case c_law_due => k_is)
    (case k_law_due => k_is)
    (case a_law_least_more => k_is)
    (case l_law_least_more => k_is)
    (case c_law_least_more => k_is)
    (case k_law_least_more => k_is)
    (case a_law_most_missed => k_is)
    (case l_law_most_missed => k_is)
    (case c_law_most_missed => k_is)
    (case k_law_most_missed => k_is)
    (case a_band_of => k_is)
    (case l_band_of => k_is)
    (case c_band_of => k_is)
    (case k_band_of => k_is)
    (case a_owed => k_is)
    (case l_owed => k_is)
    (case c_owed => k_is)
    (case k_owed => k_is)
    (case a_least_more => k_is)
    (case l_least_more => k_is)
    (case c_least_more => k_is)
    (case k_least_more => k_is)
    (case a_most_missed => k_is)
    (case l_most_missed => k_is)
    (case c_most_missed => k_is)
    (case k_most_missed => k_is)
    (case a_is_whole => k_is)
    (case l_is_whole => k_is)
    (case c_is_whole => k_is)
    (case k_is_whole => k_is)
    (case a_is_band => k_is)
    (case l_is_band => k_is)
    (case c_is_band => k_is)
    (case k_is_band => k_is)
    (case a_bands_error => k_is)
    (case l_bands_error => k_is)
    (case c_bands_error => k_is)
    (case k_bands_error => k_is)
    (case a_law => k_is)
    (case l_law => k_is)
    (case c_law => k_is)
    (case k_law => k_is)
    (case n_0 => k_is)
    (case n_1 => k_is)
    (case n_2 => k_is)
    (case n_3 => k_is)
    (case n_4 => k_is)
    (case n_5 => k_is)
    (case n_6 => k_is)
    (case n_7 => k_is)
    (case n_8 => k_is)
    (case n_9 => k_is)
    (case n_10 => k_is)
    (case n_11 => k_is)
    (case n_12 => k_is)
    (case u_MAX_BANDS => k_is)
    (case u_MAX_SHARE => k_is)
    (case nl => kernel_rfl)

