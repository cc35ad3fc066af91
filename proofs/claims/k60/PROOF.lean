import PyProof.Rows.All
import Wide.All
import OpenK.AllK
import Wide.FinOn
import HandS.ForMost
import HandS.ForExc
import HandS.CallSlots
import HandS.Deep
import HandS.TupAny
import HandS.IsInst
import HandS.Wide
import HandS.Walk
import HandS.Style
import HandS.MakeKwOnly
import KE.GoesMore
import HandS.Iter
import HandS.NoneIn
import OpenK.KWalk
import HandS.TupMul
import HandS.SortInts
import HandS.Conv
import PyProof.LongRange
import PySem.Challenge.RW_crewlags_k60_whole_calendars_that_never
set_option Elab.async false
set_option linter.all false
set_option maxRecDepth 100000
set_option maxHeartbeats 4000000
namespace Y
open PySem PySem.Spec L2
set_option autoImplicit false
/-! plain data; what a value means in an abstract heap -/
inductive D where
  | non
  | bl (b : Bool)
  | int (i : Int)
  | str (x : Str)
  | lst (xs : List D)
  | tup (xs : List D)
  | ins (c : Str) (fs : List (Str × D))
  | raw (v : V)
abbrev Mg := Str → Option Value
mutual
inductive Rep (K : PySem.W.Frag) (mg : Mg) (F : Hp) : V → D → Prop
  | non : Rep K mg F .non .non
  | bl (b : Bool) : Rep K mg F (.bl b) (.bl b)
  | int (i : Int) : Rep K mg F (.int i) (.int i)
  | str (x : Str) : Rep K mg F (.str x) (.str x)
  | raw (v : V) : Rep K mg F v (.raw v)
  | lst {a : Addr} {vs : List V} {ds : List D} : SqL K F a vs → Reps K mg F vs ds → Rep K mg F (.ref a) (.lst ds)
  | tup {a : Addr} {vs : List V} {ds : List D} : SqT K F a vs → Reps K mg F vs ds → Rep K mg F (.ref a) (.tup ds)
  | ins {a C dx : Addr} {c : Str} {gs : List (Str × V)} {fs : List (Str × D)} : mg c = some (.ref C) → F a = some (.ins C dx gs) → RepF K mg F gs fs → Rep K mg F (.ref a) (.ins c fs)
inductive Reps (K : PySem.W.Frag) (mg : Mg) (F : Hp) : List V → List D → Prop
  | nil : Reps K mg F [] []
  | cons {v : V} {vs : List V} {d : D} {ds : List D} : Rep K mg F v d → Reps K mg F vs ds → Reps K mg F (v :: vs) (d :: ds)
inductive RepF (K : PySem.W.Frag) (mg : Mg) (F : Hp) : List (Str × V) → List (Str × D) → Prop
  | nil : RepF K mg F [] []
  | cons {f : Str} {v : V} {gs : List (Str × V)} {d : D} {fs : List (Str × D)} : Rep K mg F v d → RepF K mg F gs fs → RepF K mg F ((f, v) :: gs) ((f, d) :: fs)
end
theorem sqT_mono {K : PySem.W.Frag} {F F' : Hp} {a : Addr} {xs : List V} (e : Same F F') (h : SqT K F a xs) : SqT K F' a xs := by
  rcases h with (h | ⟨o, h⟩) | h
  · exact Or.inl (Or.inl (e _ _ h))
  · exact Or.inl (Or.inr ⟨o, e _ _ h⟩)
  · exact Or.inr h
mutual
theorem Rep.mono {K : PySem.W.Frag} {mg : Mg} {F F' : Hp} (s : Same F F') {v : V} {d : D} : Rep K mg F v d → Rep K mg F' v d
  | .non => .non
  | .bl b => .bl b
  | .int i => .int i
  | .str x => .str x
  | .raw v => .raw v
  | .lst a b => .lst (s.seq a) (Reps.mono s b)
  | .tup a b => .tup (sqT_mono s a) (Reps.mono s b)
  | .ins a b c => .ins a (s _ _ b) (RepF.mono s c)
theorem Reps.mono {K : PySem.W.Frag} {mg : Mg} {F F' : Hp} (s : Same F F') {v : List V} {d : List D} : Reps K mg F v d → Reps K mg F' v d
  | .nil => .nil
  | .cons a b => .cons (Rep.mono s a) (Reps.mono s b)
theorem RepF.mono {K : PySem.W.Frag} {mg : Mg} {F F' : Hp} (s : Same F F') {v : List (Str × V)} {d : List (Str × D)} : RepF K mg F v d → RepF K mg F' v d
  | .nil => .nil
  | .cons a b => .cons (Rep.mono s a) (RepF.mono s b)
end
theorem Reps.length {K : PySem.W.Frag} {mg : Mg} {F : Hp} : ∀ {vs : List V} {ds : List D}, Reps K mg F vs ds → vs.length = ds.length
  | _, _, .nil => rfl
  | _, _, .cons _ b => congrArg (· + 1) (Reps.length b)
theorem Reps.append {K : PySem.W.Frag} {mg : Mg} {F : Hp} : ∀ {vs ws : List V} {ds es : List D}, Reps K mg F vs ds → Reps K mg F ws es → Reps K mg F (vs ++ ws) (ds ++ es)
  | _, _, _, _, .nil, h => h
  | _, _, _, _, .cons a b, h => .cons a (Reps.append b h)
theorem Reps.get {K : PySem.W.Frag} {mg : Mg} {F : Hp} : ∀ {vs : List V} {ds : List D} {i : Nat} {d : D}, Reps K mg F vs ds → ds[i]? = some d → ∃ v, vs[i]? = some v ∧ Rep K mg F v d
  | _, _, _, _, .nil, e => by simp at e
  | _, _, 0, _, .cons r _, e => by simp at e; subst e; exact ⟨_, rfl, r⟩
  | _, _, i + 1, d, .cons _ t, e => by
    obtain ⟨u, h1, h2⟩ := Reps.get (i := i) (d := d) t (by simpa using e)
    exact ⟨u, by simpa using h1, h2⟩
theorem Reps.set {K : PySem.W.Frag} {mg : Mg} {F : Hp} {v : V} {d : D} (r : Rep K mg F v d) : ∀ {vs : List V} {ds : List D} (i : Nat), Reps K mg F vs ds → Reps K mg F (vs.set i v) (ds.set i d)
  | _, _, _, .nil => .nil
  | _, _, 0, .cons _ t => .cons r t
  | _, _, i + 1, .cons q t => .cons q (Reps.set r i t)
theorem Reps.take {K : PySem.W.Frag} {mg : Mg} {F : Hp} : ∀ {vs : List V} {ds : List D} (n : Nat), Reps K mg F vs ds → Reps K mg F (vs.take n) (ds.take n)
  | _, _, 0, _ => .nil
  | _, _, _ + 1, .nil => .nil
  | _, _, n + 1, .cons r t => .cons r (Reps.take n t)
theorem Reps.drop {K : PySem.W.Frag} {mg : Mg} {F : Hp} : ∀ {vs : List V} {ds : List D} (n : Nat), Reps K mg F vs ds → Reps K mg F (vs.drop n) (ds.drop n)
  | _, _, 0, r => r
  | _, _, _ + 1, .nil => .nil
  | _, _, n + 1, .cons _ t => Reps.drop n t
theorem RepF.look {K : PySem.W.Frag} {mg : Mg} {F : Hp} {f : Str} {d : D} : ∀ {gs : List (Str × V)} {fs : List (Str × D)}, RepF K mg F gs fs → fs.lookup f = some d → ∃ v, gs.lookup f = some v ∧ Rep K mg F v d
  | _, _, .nil, e => by simp at e
  | _, _, .cons (f := g) r t, e => by
    rw [List.lookup_cons] at e ⊢
    cases q : (f == g) with
    | true => rw [q] at e; cases e; exact ⟨_, rfl, r⟩
    | false => rw [q] at e; exact RepF.look t e
/-! what stands at an address that one frame alone knows -/
inductive Cont where
  | lst (xs : List D)
  | ins (c : Str) (fs : List (Str × D))
def Cont.dat : Cont → D
  | .lst xs => .lst xs
  | .ins c fs => .ins c fs
def ContOk (K : PySem.W.Frag) (mg : Mg) (F : Hp) : Cont → HO → Prop
  | .lst xs, o => ∃ vs, o = .lst vs ∧ Reps K mg F vs xs
  | .ins c fs, o => ∃ C dx gs, o = .ins C dx gs ∧ mg c = some (.ref C) ∧ RepF K mg F gs fs
theorem ContOk.mono {K : PySem.W.Frag} {mg : Mg} {F F' : Hp} (s : Same F F') : ∀ {c : Cont} {o : HO}, ContOk K mg F c o → ContOk K mg F' c o
  | .lst _, _, ⟨vs, e, r⟩ => ⟨vs, e, r.mono s⟩
  | .ins _ _, _, ⟨C, dx, gs, e, m, r⟩ => ⟨C, dx, gs, e, m, r.mono s⟩
inductive Slot where
  | no
  | val (d : D)
  | own (fx : Bool) (c : Cont)
abbrev Sl := List Slot
def SlotOk (K : PySem.W.Frag) (mg : Mg) (F H : Hp) : Slot → Option V → Prop
  | .no, _ => True
  | .val d, o => ∃ v, o = some v ∧ Rep K mg F v d
  | .own _ c, o => ∃ a h, o = some (.ref a) ∧ F a = none ∧ H a = some h ∧ ContOk K mg F c h
def Own (e : Sl) (σ : St) (a : Addr) : Prop := ∃ (i : Nat) (f : Bool) (c : Cont), e[i]? = some (.own f c) ∧ σ[i]? = some (some (.ref a))
structure Rel (K : PySem.W.Frag) (mg : Mg) (F : Hp) (e : Sl) (σ : St) (H : Hp) : Prop where
  sub : Same F H
  len : e.length = σ.length
  ok : ∀ (i : Nat) (s : Slot) (o : Option V), e[i]? = some s → σ[i]? = some o → SlotOk K mg F H s o
  inj : ∀ (i j : Nat) (f g : Bool) (c d : Cont) (a : Addr), e[i]? = some (.own f c) → e[j]? = some (.own g d) → σ[i]? = some (some (.ref a)) → σ[j]? = some (some (.ref a)) → i = j
/-- new, or this frame's own -/
def NM (H : Hp) (e : Sl) (σ : St) (b : Addr) : Prop := H b = none ∨ Own e σ b
structure Stp (F H : Hp) (e : Sl) (σ : St) (F' H' : Hp) (e' : Sl) (σ' : St) : Prop where
  fro : Same F F'
  kept : ∀ b o, H b = some o → ¬ Own e σ b → H' b = some o
  dom : ∀ b, H' b = none → H b = none
  newF : ∀ b, F b = none → F' b ≠ none → NM H e σ b
  newO : ∀ b, Own e' σ' b → NM H e σ b
  fix : ∀ (i : Nat) (c : Cont), e[i]? = some (.own true c) → (∃ c', e'[i]? = some (.own true c')) ∧ σ'[i]? = σ[i]?
  len : e'.length = e.length
section
variable {F F1 F2 H H1 H2 : Hp} {e e1 e2 : Sl} {σ σ1 σ2 : St}
theorem Stp.refl : Stp F H e σ F H e σ := ⟨Same.refl _, fun _ _ h _ => h, fun _ h => h, fun _ h h' => absurd h h', fun _ h => .inr h, fun i c h => ⟨⟨c, h⟩, rfl⟩, rfl⟩
theorem Stp.nm (a : Stp F H e σ F1 H1 e1 σ1) {b : Addr} (h : NM H1 e1 σ1 b) : NM H e σ b := by
  rcases h with h | h
  · exact .inl (a.dom b h)
  · exact a.newO b h
theorem Stp.trans (a : Stp F H e σ F1 H1 e1 σ1) (b : Stp F1 H1 e1 σ1 F2 H2 e2 σ2) : Stp F H e σ F2 H2 e2 σ2 where
  fro := a.fro.trans b.fro
  kept := fun c o h n => b.kept c o (a.kept c o h n) fun z => by
    rcases a.newO c z with q | q
    · rw [h] at q; cases q
    · exact n q
  dom := fun c h => a.dom c (b.dom c h)
  newF := fun c h h' => by
    cases q : F1 c with
    | none => exact a.nm (b.newF c q h')
    | some o => exact a.newF c h (by rw [q]; exact fun z => nomatch z)
  newO := fun c h => a.nm (b.newO c h)
  fix := fun i c h => by
    obtain ⟨⟨c1, h1⟩, q1⟩ := a.fix i c h
    obtain ⟨⟨c2, h2⟩, q2⟩ := b.fix i c1 h1
    exact ⟨⟨c2, h2⟩, q2.trans q1⟩
  len := b.len.trans a.len
end
/-! results -/
structure Xn where
  c : Str
  fs : List (Str × D)
inductive Res (α : Type) where
  | ok (a : α) (e : Sl)
  | ex (x : Xn) (e : Sl)
  | bad
abbrev M (α : Type) := Sl → Res α
def M.bind {α β : Type} (f : M α) (k : α → M β) : M β := fun e => match f e with
  | .ok a e' => k a e'
  | .ex x e' => .ex x e'
  | .bad => .bad
def M.ret {α : Type} (a : α) : M α := fun e => .ok a e
def M.bad {α : Type} : M α := fun _ => .bad
inductive RV where
  | val (d : D)
  | own (c : Cont)
  | pk (i : Nat)
def RVOk (K : PySem.W.Frag) (mg : Mg) (N : Addr → Prop) (F H : Hp) (e : Sl) (σ : St) (v : V) : RV → Prop
  | .val d => Rep K mg F v d
  | .own c => ∃ a h, v = .ref a ∧ F a = none ∧ H a = some h ∧ ContOk K mg F c h ∧ ¬ Own e σ a ∧ N a
  | .pk i => σ[i]? = some (some v)
def XOk (K : PySem.W.Frag) (mg : Mg) (F : Hp) (cls : Value) (d : Option Addr) (x : Xn) : Prop := ∃ C dx gs, cls = .ref C ∧ mg x.c = some (.ref C) ∧ d = some dx ∧ F dx = some (.xd gs) ∧ RepF K mg F gs x.fs
section
variable {K : PySem.W.Frag} {mg : Mg} {F F1 F2 H H1 H2 : Hp} {e e1 e2 : Sl} {σ σ1 σ2 : St} {v : V} {r : RV} {N N1 : Addr → Prop}
/-- what was read stays read while something else is reckoned -/
theorem RVOk.step (h : RVOk K mg N F H e σ v r) (s : Stp F H e σ F1 H1 e1 σ) : RVOk K mg N F1 H1 e1 σ v r := by
  cases r with
  | val d => exact Rep.mono s.fro h
  | pk i => exact h
  | own c =>
    obtain ⟨a, o, e, hf, hh, hc, hn, hN⟩ := h
    have nm : ¬ NM H _ σ a := fun z => by
      rcases z with z | z
      · rw [hh] at z; cases z
      · exact hn z
    refine ⟨a, o, e, ?_, s.kept a o hh hn, hc.mono s.fro, fun z => nm (s.newO a z), hN⟩
    cases q : F1 a with
    | none => rfl
    | some u => exact absurd (s.newF a hf (by rw [q]; exact fun z => nomatch z)) nm
theorem RVOk.imp (h : RVOk K mg N F H e σ v r) (g : ∀ a, N a → N1 a) : RVOk K mg N1 F H e σ v r := by
  cases r with
  | val d => exact h
  | pk i => exact h
  | own c =>
    obtain ⟨a, o, e, hf, hh, hc, hn, hN⟩ := h
    exact ⟨a, o, e, hf, hh, hc, hn, g a hN⟩
end
/-- the data that a result stands for now -/
def sdat : Option Slot → Option D
  | some (.val d) => some d
  | some (.own _ c) => some c.dat
  | _ => none
def rdat (e : Sl) : RV → Option D
  | .val d => some d
  | .own c => some c.dat
  | .pk i => sdat e[i]?
/-- v reads as d: its outside in H, its parts in F -/
def RdOk (K : PySem.W.Frag) (mg : Mg) (F H : Hp) (v : V) : D → Prop
  | .non => v = .non
  | .bl b => v = .bl b
  | .int i => v = .int i
  | .str x => v = .str x
  | .raw u => v = u
  | .lst ds => ∃ a vs, v = .ref a ∧ SqL K H a vs ∧ Reps K mg F vs ds
  | .tup ds => ∃ a vs, v = .ref a ∧ SqT K F a vs ∧ Reps K mg F vs ds
  | .ins c fs => ∃ a C dx gs, v = .ref a ∧ mg c = some (.ref C) ∧ H a = some (.ins C dx gs) ∧ RepF K mg F gs fs
section
variable {K : PySem.W.Frag} {mg : Mg} {F F1 F2 H H1 H2 : Hp} {e e1 e2 : Sl} {σ σ1 σ2 : St} {v : V} {r : RV} {N N1 : Addr → Prop} {d : D} {c : Cont} {h : HO} {a : Addr}
theorem Rep.rd (s : Same F H) (r : Rep K mg F v d) : RdOk K mg F H v d := by
  cases r with
  | non => rfl
  | bl b => rfl
  | int i => rfl
  | str x => rfl
  | raw v => rfl
  | lst a b => exact ⟨_, _, rfl, s.seq a, b⟩
  | tup a b => exact ⟨_, _, rfl, a, b⟩
  | ins a b c => exact ⟨_, _, _, _, rfl, a, s _ _ b, c⟩
theorem RdOk.rep (s : Same F H) (r : RdOk K mg F H v d) : Rep K mg H v d := by
  cases d with
  | non => cases r; exact .non
  | bl b => cases r; exact .bl b
  | int i => cases r; exact .int i
  | str x => cases r; exact .str x
  | raw v => cases r; exact .raw v
  | lst ds => obtain ⟨a, vs, rfl, q, p⟩ := r; exact .lst q (p.mono s)
  | tup ds => obtain ⟨a, vs, rfl, q, p⟩ := r; exact .tup (sqT_mono s q) (p.mono s)
  | ins c fs => obtain ⟨a, C, dx, gs, rfl, m, q, p⟩ := r; exact .ins m q (p.mono s)
theorem ContOk.rd (hc : ContOk K mg F c h) (e : H a = some h) : RdOk K mg F H (.ref a) c.dat := by
  cases c with
  | lst xs => obtain ⟨vs, rfl, r⟩ := hc; exact ⟨a, vs, rfl, SqL.of e, r⟩
  | ins c fs => obtain ⟨C, dx, gs, rfl, m, r⟩ := hc; exact ⟨a, C, dx, gs, rfl, m, e, r⟩
theorem Rel.rd (R : Rel K mg F e σ H) (q : RVOk K mg N F H e σ v r) (w : rdat e r = some d) : RdOk K mg F H v d := by
  cases r with
  | val x => cases w; exact Rep.rd R.sub q
  | own c =>
    cases w
    obtain ⟨a, o, rfl, hf, hh, hc, hn⟩ := q
    exact hc.rd hh
  | pk i =>
    have q : σ[i]? = some (some v) := q
    have w : sdat e[i]? = some d := w
    cases es : e[i]? with
    | none => rw [es] at w; cases w
    | some s =>
      rw [es] at w
      have ok := R.ok i s _ es q
      cases s with
      | no => cases w
      | val x =>
        cases w
        obtain ⟨u, h1, h2⟩ := ok
        cases h1
        exact Rep.rd R.sub h2
      | own f c =>
        cases w
        obtain ⟨a, o, h1, hf, hh, hc⟩ := ok
        cases h1
        exact hc.rd hh
/-- nothing but a new thing beside -/
theorem Rel.new (R : Rel K mg F e σ H) {p : Addr} {o : HO} (hp : H p = none) : Rel K mg F e σ (upd H p o) where
  sub := fun b u q => by rw [upd_ne (ne_of_none (R.sub b u q) hp)]; exact R.sub b u q
  len := R.len
  ok := fun i s x es ex => by
    have q := R.ok i s x es ex
    cases s with
    | no => trivial
    | val d => exact q
    | own f c =>
      obtain ⟨a, o', h1, hf, hh, hc⟩ := q
      exact ⟨a, o', h1, hf, by rw [upd_ne (ne_of_none hh hp)]; exact hh, hc⟩
  inj := R.inj
theorem Stp.new (R : Rel K mg F e σ H) {p : Addr} {o : HO} (hp : H p = none) : Stp F H e σ F (upd H p o) e σ where
  fro := Same.refl _
  kept := fun b u q _ => by rw [upd_ne (ne_of_none q hp)]; exact q
  dom := fun b q => by
    by_cases z : b = p
    · rw [z]; exact hp
    · rw [upd_ne z] at q; exact q
  newF := fun _ h h' => absurd h h'
  newO := fun _ h => .inr h
  fix := fun i c h => ⟨⟨c, h⟩, rfl⟩
  len := rfl
theorem Rel.free (R : Rel K mg F e σ H) {p : Addr} (hp : H p = none) : F p = none := R.sub.free hp
theorem Rel.notOwn (R : Rel K mg F e σ H) {p : Addr} (hp : H p = none) : ¬ Own e σ p := fun ⟨i, f, c, h1, h2⟩ => by
  obtain ⟨a, o, e1, _, hh, _⟩ := R.ok i _ _ h1 h2
  cases e1
  rw [hp] at hh; cases hh
/-- what is in H and nobody's own is frozen -/
theorem Rel.freeze (R : Rel K mg F e σ H) {p : Addr} {o : HO} (hp : H p = some o) (hn : ¬ Own e σ p) (hF : F p = none) : Rel K mg (upd F p o) e σ H where
  sub := fun b u q => by
    by_cases z : b = p
    · subst z; rw [upd_same] at q; rw [← q]; exact hp
    · rw [upd_ne z] at q; exact R.sub b u q
  len := R.len
  ok := fun i s x es ex => by
    have sm : Same F (upd F p o) := fun b u q => by rw [upd_ne (ne_of_none q hF)]; exact q
    have q := R.ok i s x es ex
    cases s with
    | no => trivial
    | val d => obtain ⟨w, h1, h2⟩ := q; exact ⟨w, h1, h2.mono sm⟩
    | own f c =>
      obtain ⟨a, o', h1, hf, hh, hc⟩ := q
      refine ⟨a, o', h1, ?_, hh, hc.mono sm⟩
      rw [upd_ne]
      · exact hf
      · rintro rfl
        exact hn ⟨i, f, c, es, by rw [ex, h1]⟩
  inj := R.inj
theorem Stp.freeze (_R : Rel K mg F e σ H) {p : Addr} {o : HO} (_hp : H p = some o) (hF : F p = none) {H0 F0 : Hp} {e0 : Sl} {σ0 : St} (s : Stp F0 H0 e0 σ0 F H e σ) (hN : NM H0 e0 σ0 p) : Stp F0 H0 e0 σ0 (upd F p o) H e σ where
  fro := s.fro.trans fun b u q => by rw [upd_ne (ne_of_none q hF)]; exact q
  kept := s.kept
  dom := s.dom
  newF := fun b h h' => by
    by_cases z : b = p
    · rw [z]; exact hN
    · rw [upd_ne z] at h'; exact s.newF b h h'
  newO := s.newO
  fix := s.fix
  len := s.len
theorem same_upd' {F : Hp} {p : Addr} {o : HO} (h : F p = none) : Same F (upd F p o) := fun b u q => by rw [upd_ne (ne_of_none q h)]; exact q
end
end Y

set_option Elab.async false
set_option linter.all false
set_option maxRecDepth 100000
set_option maxHeartbeats 4000000
namespace Y
open PySem PySem.Spec L2
set_option autoImplicit false
/-! readings that are told by a plain function -/
section
variable (K : PySem.W.Frag) (mg : Mg) (W : WX)
abbrev RR (α β : Type) := (Addr → Prop) → Hp → Hp → Sl → St → β → α → Prop
def post {α β : Type} (R : RR α β) (F H : Hp) (e : Sl) (σ : St) (r : Res α) (Q : β → Hp → Prop) : Prop := match r with
  | .ok a e' => ∀ b F' H', Stp F H e σ F' H' e' σ → Rel K mg F' e' σ H' → R (NM H e σ) F' H' e' σ b a → Q b H'
  | .ex x e' => ∀ cls d F' H', Stp F H e σ F' H' e' σ → Rel K mg F' e' σ H' → XOk K mg F' cls d x → W cls d σ H'
  | .bad => False
def cG {α β : Type} (R : RR α β) (f : M α) : St → Hp → (β → Hp → Prop) → Prop := fun σ H Q => ∃ e F, Rel K mg F e σ H ∧ post K mg W R F H e σ (f e) Q
abbrev rV : RR RV V := fun N F H e σ v r => RVOk K mg N F H e σ v r
abbrev rB : RR Bool Bool := fun _ _ _ _ _ b a => b = a
/-- arguments: frozen values, or a slot that is lent -/
def ArgOk (F : Hp) (σ : St) (v : V) : RV → Prop
  | .val d => Rep K mg F v d
  | .pk i => σ[i]? = some (some v)
  | .own _ => False
inductive Args (F : Hp) (σ : St) : List V → List RV → Prop
  | nil : Args F σ [] []
  | cons {v : V} {vs : List V} {r : RV} {rs : List RV} : ArgOk K mg F σ v r → Args F σ vs rs → Args F σ (v :: vs) (r :: rs)
abbrev rA : RR (List RV) (List V) := fun _ F _ _ σ vs rs => Args K mg F σ vs rs
abbrev cE (f : M RV) : TE := cG K mg W (rV K mg) f
abbrev cT (f : M Bool) : TT := cG K mg W rB f
abbrev cA (f : M (List RV)) : TA := cG K mg W (rA K mg) f
end
inductive Flo where
  | nx
  | bk
  | ct
  | rt (r : RV)
section
variable (K : PySem.W.Frag) (mg : Mg) (W : WX)
def postS (F H : Hp) (e : Sl) (σ : St) (r : Res Flo) (E : Ends) : Prop := match r with
  | .ok .nx e' => ∀ σ' F' H', Stp F H e σ F' H' e' σ' → Rel K mg F' e' σ' H' → E.nx σ' H'
  | .ok .bk e' => ∀ σ' F' H', Stp F H e σ F' H' e' σ' → Rel K mg F' e' σ' H' → E.bk σ' H'
  | .ok .ct e' => ∀ σ' F' H', Stp F H e σ F' H' e' σ' → Rel K mg F' e' σ' H' → E.ct σ' H'
  | .ok (.rt r) e' => ∀ v σ' F' H', Stp F H e σ F' H' e' σ' → Rel K mg F' e' σ' H' → RVOk K mg (NM H e σ) F' H' e' σ' v r → E.rt v H'
  | .ex x e' => ∀ cls d σ' F' H', Stp F H e σ F' H' e' σ' → Rel K mg F' e' σ' H' → XOk K mg F' cls d x → W cls d σ' H'
  | .bad => False
def cS (f : M Flo) : TS := fun E σ H => ∃ e F, Rel K mg F e σ H ∧ postS K mg W F H e σ (f e) E
end
abbrev DE (X : Cx) (W : WX) (e : Expr) (f : M RV) : Prop := PE X e (cE X.K X.mg W f)
abbrev DT (X : Cx) (W : WX) (e : Expr) (f : M Bool) : Prop := PT X e (cT X.K X.mg W f)
abbrev DW (X : Cx) (W : WX) (e : Expr) (f : M Bool) : Prop := PW X e (cT X.K X.mg W f)
abbrev DA (X : Cx) (W : WX) (es : List Expr) (f : M (List RV)) : Prop := PA X es (cA X.K X.mg W f)
abbrev DS (X : Cx) (W : WX) (st : Stmt) (f : M Flo) : Prop := PS X st (cS X.K X.mg W f)
abbrev DSs (X : Cx) (W : WX) (st : List Stmt) (f : M Flo) : Prop := PSs X st (cS X.K X.mg W f)
theorem peW {X : Cx} {e : Expr} {t t' : TE} (h : PE X e t) (i : ∀ σ H Q, t' σ H Q → t σ H Q) : PE X e t' := ⟨fun pins s σ H Q I q => h.run pins s σ H Q I (i σ H Q q)⟩
theorem ptW {X : Cx} {e : Expr} {t t' : TT} (h : PT X e t) (i : ∀ σ H Q, t' σ H Q → t σ H Q) : PT X e t' := ⟨fun pins s σ H Q I q => h.run pins s σ H Q I (i σ H Q q)⟩
theorem pwW {X : Cx} {e : Expr} {t t' : TT} (h : PW X e t) (i : ∀ σ H Q, t' σ H Q → t σ H Q) : PW X e t' := ⟨fun wh pins s σ H Q I q => h.run wh pins s σ H Q I (i σ H Q q)⟩
theorem paW {X : Cx} {e : List Expr} {t t' : TA} (h : PA X e t) (i : ∀ σ H Q, t' σ H Q → t σ H Q) : PA X e t' := ⟨fun pos pins s σ H Q I q => h.run pos pins s σ H Q I (i σ H Q q)⟩
theorem psW {X : Cx} {e : Stmt} {t t' : TS} (h : PS X e t) (i : ∀ E σ H, t' E σ H → t E σ H) : PS X e t' := ⟨fun pins s σ H E I q => h.run pins s σ H E I (i E σ H q)⟩
theorem pssW {X : Cx} {e : List Stmt} {t t' : TS} (h : PSs X e t) (i : ∀ E σ H, t' E σ H → t E σ H) : PSs X e t' := ⟨fun pins s σ H E I q => h.run pins s σ H E I (i E σ H q)⟩
section
variable {K : PySem.W.Frag} {mg : Mg} {W : WX} {F F1 H H1 : Hp} {e e1 : Sl} {σ : St} {α β γ δ : Type} {R1 : RR α β} {R2 : RR γ δ}
theorem post_imp {R : RR α β} {r : Res α} {Q Q' : β → Hp → Prop} (h : post K mg W R F H e σ r Q) (i : ∀ b H', Q b H' → Q' b H') : post K mg W R F H e σ r Q' := by
  cases r with
  | ok a e' => exact fun b F' H' s q w => i _ _ (h b F' H' s q w)
  | ex x e' => exact h
  | bad => exact h
/-- a relation that only grows with what is new or mine -/
def Up (R : RR α β) : Prop := ∀ (N N' : Addr → Prop) F H e σ b a, (∀ x, N x → N' x) → R N F H e σ b a → R N' F H e σ b a
theorem up_V : Up (rV K mg) := fun _ _ _ _ _ _ _ _ i h => h.imp i
theorem up_B : Up rB := fun _ _ _ _ _ _ _ _ _ h => h
theorem up_A : Up (rA K mg) := fun _ _ _ _ _ _ _ _ _ h => h
theorem post_from {R : RR α β} (u : Up R) {r : Res α} {Q : β → Hp → Prop} (s : Stp F H e σ F1 H1 e1 σ) (h : post K mg W R F H e σ r Q) : post K mg W R F1 H1 e1 σ r Q := by
  cases r with
  | ok a e' => exact fun b F' H' s' q w => h b F' H' (s.trans s') q (u _ _ _ _ _ _ _ _ (fun x z => s.nm z) w)
  | ex x e' => exact fun cls d F' H' s' q w => h cls d F' H' (s.trans s') q w
  | bad => exact h
/-- THE SEQUENCE -/
theorem post_seq (u : Up R2) {f : M α} {k : α → M γ} {Q : δ → Hp → Prop} (h : post K mg W R2 F H e σ (M.bind f k e) Q) :
    post K mg W R1 F H e σ (f e) (fun b H1 => ∃ a e1 F1, R1 (NM H e σ) F1 H1 e1 σ b a ∧ Rel K mg F1 e1 σ H1 ∧ Stp F H e σ F1 H1 e1 σ ∧ post K mg W R2 F1 H1 e1 σ (k a e1) Q) := by
  unfold M.bind at h
  cases q : f e with
  | ok a e' =>
    rw [q] at h
    exact fun b F' H' s r w => ⟨a, e', F', w, r, s, post_from u s h⟩
  | ex x e' => rw [q] at h; exact h
  | bad => rw [q] at h; exact h
theorem post_seq0 {f : M α} {k : α → M γ} {Q : δ → Hp → Prop} (h : post K mg W R2 F H e σ (M.bind f k e) Q) :
    post K mg W R1 F H e σ (f e) (fun b H1 => ∃ a e1 F1, R1 (NM H e σ) F1 H1 e1 σ b a ∧ Rel K mg F1 e1 σ H1 ∧ Stp F H e σ F1 H1 e1 σ ∧ post K mg W R2 F H e σ (k a e1) Q) := by
  unfold M.bind at h
  cases q : f e with
  | ok a e' =>
    rw [q] at h
    exact fun b F' H' s r w => ⟨a, e', F', w, r, s, h⟩
  | ex x e' => rw [q] at h; exact h
  | bad => rw [q] at h; exact h
theorem bind_assoc {α β γ : Type} (f : M α) (g : α → M β) (k : β → M γ) : M.bind (M.bind f g) k = M.bind f fun a => M.bind (g a) k := by
  funext e
  unfold M.bind
  cases f e <;> rfl
theorem ret_bind {α β : Type} (a : α) (k : α → M β) : M.bind (M.ret a) k = k a := rfl
theorem post_ret {R : RR α β} {a : α} {Q : β → Hp → Prop} {b : β} (r : Rel K mg F e σ H) (h : post K mg W R F H e σ (.ok a e) Q) (w : R (NM H e σ) F H e σ b a) : Q b H := h b F H Stp.refl r w
end
/-! freezing -/
def frz (r : RV) : M D := fun e => match r with
  | .val d => .ok d e
  | .own c => .ok c.dat e
  | .pk i => match e[i]? with
    | some (.val d) => .ok d e
    | some (.own false c) => .ok c.dat (e.set i (.val c.dat))
    | _ => .bad
theorem ContOk.rep {K : PySem.W.Frag} {mg : Mg} {F : Hp} {a : Addr} {h : HO} {c : Cont} (hc : ContOk K mg F c h) (hF : F a = none) : Rep K mg (upd F a h) (.ref a) c.dat := by
  have sm := same_upd' (o := h) hF
  cases c with
  | lst xs => obtain ⟨vs, rfl, r⟩ := hc; exact .lst (SqL.of upd_same) (r.mono sm)
  | ins c fs => obtain ⟨C, dx, gs, rfl, m, r⟩ := hc; exact .ins m upd_same (r.mono sm)
section
variable {K : PySem.W.Frag} {mg : Mg} {F F0 H H0 : Hp} {e e0 e' : Sl} {σ : St} {v : V} {r : RV} {d : D}
theorem get_set_ne {α : Type} {l : List α} {i j : Nat} {x : α} (h : i ≠ j) : (l.set i x)[j]? = l[j]? := List.getElem?_set_ne h
/-- a slot that was own is told as data -/
theorem Rel.setVal (R : Rel K mg F e σ H) {i : Nat} {a : Addr} (ho : σ[i]? = some (some (.ref a))) (hr : Rep K mg F (.ref a) d) : Rel K mg F (e.set i (.val d)) σ H where
  sub := R.sub
  len := by rw [List.length_set]; exact R.len
  ok := fun j s x es ex => by
    by_cases z : i = j
    · subst z
      rw [List.getElem?_set] at es
      split at es
      · split at es
        · cases es
          rw [ho] at ex; cases ex
          exact ⟨_, rfl, hr⟩
        · cases es
      · exact absurd rfl (by assumption)
    · rw [get_set_ne z] at es
      exact R.ok j s x es ex
  inj := fun j k f g c d' b ej ek sj sk => by
    have nj : i ≠ j := fun z => by
      subst z
      rw [List.getElem?_set] at ej
      split at ej
      · split at ej <;> cases ej
      · exact absurd rfl (by assumption)
    have nk : i ≠ k := fun z => by
      subst z
      rw [List.getElem?_set] at ek
      split at ek
      · split at ek <;> cases ek
      · exact absurd rfl (by assumption)
    rw [get_set_ne nj] at ej
    rw [get_set_ne nk] at ek
    exact R.inj j k f g c d' b ej ek sj sk
theorem own_set {i : Nat} {d : D} {b : Addr} (h : Own (e.set i (.val d)) σ b) : Own e σ b ∧ (σ[i]? = some (some (.ref b)) → ∃ j, i ≠ j ∧ σ[j]? = some (some (.ref b)) ∧ ∃ f c, e[j]? = some (.own f c)) := by
  obtain ⟨j, f, c, h1, h2⟩ := h
  have nj : i ≠ j := fun z => by
    subst z
    rw [List.getElem?_set] at h1
    split at h1
    · split at h1 <;> cases h1
    · exact absurd rfl (by assumption)
  rw [get_set_ne nj] at h1
  exact ⟨⟨j, f, c, h1, h2⟩, fun _ => ⟨j, nj, h2, f, c, h1⟩⟩
/-- the slot's own thing is frozen -/
theorem frz_own (R : Rel K mg F e σ H) {i : Nat} {c : Cont} (es : e[i]? = some (.own false c)) (ex : σ[i]? = some (some v)) {σ0 : St} (s : Stp F0 H0 e0 σ0 F H e σ) :
    ∃ F', Stp F0 H0 e0 σ0 F' H (e.set i (.val c.dat)) σ ∧ Rel K mg F' (e.set i (.val c.dat)) σ H ∧ Rep K mg F' v c.dat := by
  obtain ⟨a, o, h1, hf, hh, hc⟩ := R.ok i _ _ es ex
  cases h1
  have rp := hc.rep hf
  have sm := same_upd' (o := o) hf
  refine ⟨upd F a o, ?_, ?_, rp⟩
  · refine ⟨s.fro.trans sm, s.kept, s.dom, fun b h h' => ?_, fun b h => s.newO b (own_set h).1, fun j c' h => ?_, by rw [List.length_set]; exact s.len⟩
    · by_cases z : b = a
      · rw [z]; exact s.newO a ⟨i, false, c, es, ex⟩
      · rw [upd_ne z] at h'; exact s.newF b h h'
    · obtain ⟨⟨c1, q1⟩, q2⟩ := s.fix j c' h
      refine ⟨⟨c1, ?_⟩, q2⟩
      rw [get_set_ne]
      · exact q1
      · rintro rfl; rw [q1] at es; cases es
  · refine ⟨fun b u q => ?_, by rw [List.length_set]; exact R.len, fun j t x ej exj => ?_, fun j k f g c1 d1 b ej ek sj sk => ?_⟩
    · by_cases z : b = a
      · subst z; rw [upd_same] at q; rw [← q]; exact hh
      · rw [upd_ne z] at q; exact R.sub b u q
    · by_cases z : i = j
      · subst z
        rw [List.getElem?_set] at ej
        split at ej
        · split at ej
          · cases ej
            rw [ex] at exj; cases exj
            exact ⟨_, rfl, rp⟩
          · cases ej
        · exact absurd rfl (by assumption)
      · rw [get_set_ne z] at ej
        have q := R.ok j t x ej exj
        cases t with
        | no => trivial
        | val d => obtain ⟨w, h1, h2⟩ := q; exact ⟨w, h1, h2.mono sm⟩
        | own f c2 =>
          obtain ⟨b, o', h1, hf', hh', hc'⟩ := q
          refine ⟨b, o', h1, ?_, hh', hc'.mono sm⟩
          rw [upd_ne]
          · exact hf'
          · rintro rfl
            rw [h1] at exj
            exact z (R.inj i j _ _ _ _ _ es ej ex exj)
    · have nj : i ≠ j := fun z => by
        subst z
        rw [List.getElem?_set] at ej
        split at ej
        · split at ej <;> cases ej
        · exact absurd rfl (by assumption)
      have nk : i ≠ k := fun z => by
        subst z
        rw [List.getElem?_set] at ek
        split at ek
        · split at ek <;> cases ek
        · exact absurd rfl (by assumption)
      rw [get_set_ne nj] at ej
      rw [get_set_ne nk] at ek
      exact R.inj j k f g c1 d1 b ej ek sj sk
theorem frz_ok (R : Rel K mg F e σ H) {σ0 : St} (q : RVOk K mg (NM H0 e0 σ0) F H e σ v r) (w : frz r e = .ok d e') (s : Stp F0 H0 e0 σ0 F H e σ) :
    ∃ F', Stp F0 H0 e0 σ0 F' H e' σ ∧ Rel K mg F' e' σ H ∧ Rep K mg F' v d := by
  cases r with
  | val x => cases w; exact ⟨F, s, R, q⟩
  | own c =>
    cases w
    obtain ⟨a, o, rfl, hf, hh, hc, hn, hN⟩ := q
    exact ⟨upd F a o, Stp.freeze R hh hf s hN, R.freeze hh hn hf, hc.rep hf⟩
  | pk i =>
    have q : σ[i]? = some (some v) := q
    unfold frz at w
    dsimp only at w
    split at w
    · rename_i x es
      cases w
      obtain ⟨u, h1, h2⟩ := R.ok i _ _ es q
      cases h1
      exact ⟨F, s, R, h2⟩
    · rename_i c es
      cases w
      exact frz_own R es q s
    · cases w
theorem frz_noex {x : Xn} (w : frz r e = .ex x e') : False := by
  unfold frz at w
  cases r with
  | val x => cases w
  | own c => cases w
  | pk i =>
    dsimp only at w
    split at w <;> cases w
end
end Y

set_option Elab.async false
set_option linter.all false
set_option maxRecDepth 100000
set_option maxHeartbeats 4000000
namespace Y
open PySem PySem.Spec L2
set_option autoImplicit false
section
variable {K : PySem.W.Frag} {mg : Mg} {W : WX} {F H : Hp} {e : Sl} {σ : St} {Q : VK} {d : D} {v : V} {ds : List D} {vs : List V}
theorem post_val (R : Rel K mg F e σ H) (h : post K mg W (rV K mg) F H e σ (.ok (.val d) e) Q) (r : Rep K mg F v d) : Q v H := post_ret R h r
theorem post_newL (R : Rel K mg F e σ H) (h : post K mg W (rV K mg) F H e σ (.ok (.own (.lst ds)) e) Q) (r : Reps K mg F vs ds) {p : Addr} (hp : H p = none) : Q (.ref p) (upd H p (.lst vs)) :=
  h _ F _ (Stp.new R hp) (R.new hp) ⟨p, _, rfl, R.free hp, upd_same, ⟨vs, rfl, r⟩, R.notOwn hp, .inl hp⟩
theorem post_newT (R : Rel K mg F e σ H) (h : post K mg W (rV K mg) F H e σ (.ok (.val (.tup ds)) e) Q) (r : Reps K mg F vs ds) {p : Addr} (hp : H p = none) : Q (.ref p) (upd H p (.tup vs)) :=
  h _ (upd F p (.tup vs)) _ (Stp.freeze (R.new hp) upd_same (R.free hp) (Stp.new R hp) (.inl hp)) ((R.new hp).freeze upd_same (R.notOwn hp) (R.free hp)) (.tup (SqT.of upd_same) (r.mono (same_upd' (R.free hp))))
end
/-! reading one or two values -/
def rd1 (f : M RV) (k : D → M RV) : M RV := M.bind f fun r => fun e => match rdat e r with
  | some d => k d e
  | none => .bad
def rd2 (f g : M RV) (k : D → D → M RV) : M RV := M.bind f fun r => M.bind g fun r' => fun e => match rdat e r, rdat e r' with
  | some d, some d' => k d d' e
  | _, _ => .bad
def K1 (K : PySem.W.Frag) (mg : Mg) (W : WX) (r : V → Hp → VK → Prop) (k : D → M RV) : Prop := ∀ (F H : Hp) (e : Sl) (σ : St) (x : V) (d : D) (Q : VK), Rel K mg F e σ H → RdOk K mg F H x d → post K mg W (rV K mg) F H e σ (k d e) Q → r x H Q
def K2 (K : PySem.W.Frag) (mg : Mg) (W : WX) (r : R2) (k : D → D → M RV) : Prop := ∀ (F H : Hp) (e : Sl) (σ : St) (x y : V) (d d' : D) (Q : VK), Rel K mg F e σ H → RdOk K mg F H x d → RdOk K mg F H y d' → post K mg W (rV K mg) F H e σ (k d d' e) Q → r x y H Q
section
variable {K : PySem.W.Frag} {mg : Mg} {W : WX} {f g : M RV} {σ : St} {H : Hp} {Q : VK}
theorem rd1_ok {r : V → Hp → VK → Prop} {k : D → M RV} (hk : K1 K mg W r k) (h : cE K mg W (rd1 f k) σ H Q) : cE K mg W f σ H fun x H1 => r x H1 Q := by
  obtain ⟨e, F, R, h⟩ := h
  refine ⟨e, F, R, post_imp (post_seq up_V h) ?_⟩
  rintro x H1 ⟨r1, e1, F1, q1, R1, s1, h1⟩
  cases w : rdat e1 r1 with
  | none => rw [w] at h1; exact h1.elim
  | some d => rw [w] at h1; exact hk F1 H1 e1 σ x d Q R1 (R1.rd q1 w) h1
theorem rd2_ok {r : R2} {k : D → D → M RV} (hk : K2 K mg W r k) (h : cE K mg W (rd2 f g k) σ H Q) : cE K mg W f σ H fun x H1 => cE K mg W g σ H1 fun y H2 => r x y H2 Q := by
  obtain ⟨e, F, R, h⟩ := h
  refine ⟨e, F, R, post_imp (post_seq up_V h) ?_⟩
  rintro x H1 ⟨r1, e1, F1, q1, R1, s1, h1⟩
  refine ⟨e1, F1, R1, post_imp (post_seq up_V h1) ?_⟩
  rintro y H2 ⟨r2, e2, F2, q2, R2, s2, h2⟩
  have q1 := q1.step s2
  cases w : rdat e2 r1 with
  | none => rw [w] at h2; exact h2.elim
  | some d =>
    cases w' : rdat e2 r2 with
    | none => rw [w, w'] at h2; exact h2.elim
    | some d' => rw [w, w'] at h2; exact hk F2 H2 e2 σ x y d d' Q R2 (R2.rd q1 w) (R2.rd q2 w') h2
end
/-! names and constants -/
def eVar (i : Nat) : M RV := fun e => match e[i]? with
  | some (.val d) => .ok (.val d) e
  | some (.own _ _) => .ok (.pk i) e
  | _ => .bad
def eC (d : D) : M RV := M.ret (.val d)
section
variable {X : Cx} {W : WX} {a b : Expr} {f g : M RV} {pos : Pos}
theorem de_var (i : Nat) {x : Str} (hN : X.N[i]? = some x := by rfl) (hv : Vis X.env.scope x := by first | exact Or.inl rfl | exact Or.inr (Or.inl rfl) | exact Or.inr (Or.inr rfl)) (hd : (x == ("__debug__" : Str)) = false := by decide)
    (hcd : (x == ("__classdict__" : Str)) = false := by decide) : DE X W (.Name x pos) (eVar i) := peW (pe_var hN hv hd hcd) fun σ H Q ⟨e, F, R, h⟩ => by
  unfold eVar at h
  cases es : e[i]? with
  | none => rw [es] at h; exact h.elim
  | some s =>
    rw [es] at h
    have hl : i < σ.length := by rw [← R.len]; exact (List.getElem?_eq_some_iff.mp es).1
    have ok := R.ok i s _ es (List.getElem?_eq_getElem hl)
    cases s with
    | no => exact h.elim
    | val d =>
      obtain ⟨v, h1, h2⟩ := ok
      exact ⟨v, by rw [List.getElem?_eq_getElem hl, h1], post_val R h h2⟩
    | own fx c =>
      obtain ⟨p, o, h1, _⟩ := ok
      have hs : σ[i]? = some (some (.ref p)) := by rw [List.getElem?_eq_getElem hl, h1]
      exact ⟨_, hs, post_ret R h hs⟩
theorem cE_c {d : D} {v : V} (hr : ∀ F, Rep X.K X.mg F v d) {σ : St} {H : Hp} {Q : VK} (h : cE X.K X.mg W (eC d) σ H Q) : Q v H := by
  obtain ⟨e, F, R, h⟩ := h
  exact post_val R h (hr F)
theorem de_int {i : Int} {j : Nat} : DE X W (.Constant (.int i) j pos) (eC (.int i)) := peW pe_int fun _ _ _ h => cE_c (fun _ => .int i) h
theorem de_bl {i : Bool} {j : Nat} : DE X W (.Constant (.bool i) j pos) (eC (.bl i)) := peW pe_bl fun _ _ _ h => cE_c (fun _ => .bl i) h
theorem de_str {i : Str} {j : Nat} : DE X W (.Constant (.str i) j pos) (eC (.str i)) := peW pe_str fun _ _ _ h => cE_c (fun _ => .str i) h
theorem de_non {j : Nat} : DE X W (.Constant .none j pos) (eC .non) := peW pe_non fun _ _ _ h => cE_c (fun _ => .non) h
/-- a module's name -/
theorem de_glob {x : Str} {v : V} {u : Value} {d : D} (hg : Gl X x) (hm : X.mg x = some u) (r : RelV v u) (hr : ∀ F, Rep X.K X.mg F v d) (hd : (x == ("__debug__" : Str)) = false := by decide) : DE X W (.Name x pos) (eC d) :=
  peW (pe_glob hg hm r hd) fun _ _ _ h => cE_c hr h
theorem de_globI {x : Str} {i : Int} {t : Tok} (hg : Gl X x) (hm : X.mg x = some (.int i t)) (hd : (x == ("__debug__" : Str)) = false := by decide) : DE X W (.Name x pos) (eC (.int i)) := de_glob (v := .int i) hg hm ⟨t, rfl⟩ (fun _ => .int i) hd
/-- a built-in class, as a value -/
theorem de_bltn {x : Str} {v : V} {u : Value} (hg : Gl X x) (hm : X.mg x = none) (hv : bootBuiltins x = some u) (r : RelV v u) (hn : x ≠ "__name__" := by decide) (hd : (x == ("__debug__" : Str)) = false := by decide) : DE X W (.Name x pos) (eC (.raw v)) :=
  peW (pe_bltn hg hm hv r hn hd) fun _ _ _ h => cE_c (fun _ => .raw v) h
/-! operators -/
theorem de_bin {op : Operator} {r : R2} {k : D → D → M RV} (ho : OpR X (binaryOp op) r) (hk : K2 X.K X.mg W r k) (ha : DE X W a f) (hb : DE X W b g) : DE X W (.BinOp a op b pos) (rd2 f g k) := peW (pe_op ho ha hb) fun _ _ _ h => rd2_ok hk h
theorem de_un {op : UnaryOp} {r : V → Hp → VK → Prop} {k : D → M RV} (ho : UnR X (unaryOp op) r) (hk : K1 X.K X.mg W r k) (ha : DE X W a f) : DE X W (.UnaryOp op a pos) (rd1 f k) := peW (pe_un ho ha) fun _ _ _ h => rd1_ok hk h
theorem de_cmp {op : CmpOp} {r : R2} {k : D → D → M RV} (ho : OpR X (compareOp op) r) (hk : K2 X.K X.mg W r k) (ha : DE X W a f) (hb : DE X W b g) (hm : behindInMarks op b = false) : DE X W (.Compare a [op] [b] pos) (rd2 f g k) := peW (pe_cmpR ho ha hb hm) fun _ _ _ h => rd2_ok hk h
def asB (f : M RV) : M Bool := M.bind f fun r => fun e => match rdat e r with
  | some (.bl b) => .ok b e
  | _ => .bad
theorem asB_ok {K : PySem.W.Frag} {mg : Mg} {σ : St} {H : Hp} {Q : Bool → Hp → Prop} (h : cT K mg W (asB f) σ H Q) : cE K mg W f σ H fun x H1 => ∃ k, x = .bl k ∧ Q k H1 := by
  obtain ⟨e, F, R, h⟩ := h
  refine ⟨e, F, R, post_imp (post_seq up_B h) ?_⟩
  rintro x H1 ⟨r1, e1, F1, q1, R1, s1, h1⟩
  split at h1
  · rename_i b w
    exact ⟨b, R1.rd q1 w, post_ret R1 h1 rfl⟩
  · exact h1.elim
theorem dt_cmp {op : CmpOp} {r : R2} {k : D → D → M RV} (ho : OpR X (compareOp op) r) (hk : K2 X.K X.mg W r k) (ha : DE X W a f) (hb : DE X W b g) (hm : behindInMarks op b = false) : DT X W (.Compare a [op] [b] pos) (asB (rd2 f g k)) :=
  ptW (pt_cmpR ho ha hb hm) fun σ H Q h => rd2_ok hk (asB_ok h)
/-- an expression whose test is its truth (here: a bool) -/
theorem dt_val (ha : DE X W a f) (he : ∀ whole, isTrue a X.env whole = (do let v ← whole; standAt a.pos; holding [v] (truthy v)) := by intro _; rfl) : DT X W a (asB f) :=
  ptW (pt_val ha he) fun _ _ _ h => asB_ok h
def mNot (f : M Bool) : M Bool := M.bind f fun c => M.ret (!c)
def mAnd (f g : M Bool) : M Bool := M.bind f fun c => if c then g else M.ret false
def mOr (f g : M Bool) : M Bool := M.bind f fun c => if c then M.ret true else g
variable {p q : M Bool} {rest : List Expr}
theorem dt_not (ha : DT X W a p) : DT X W (.UnaryOp .Not a pos) (mNot p) := ptW (pt_not ha) fun σ H Q ⟨e, F, R, h⟩ => by
  refine ⟨e, F, R, post_imp (post_seq up_B h) ?_⟩
  rintro c H1 ⟨c', e1, F1, q1, R1, s1, h1⟩
  cases q1
  exact post_ret R1 h1 rfl
theorem dw_and1 (ha : DT X W a p) : DW X W (.BoolOp .And [a] pos) p := pw_and1 ha
theorem dw_or1 (ha : DT X W a p) : DW X W (.BoolOp .Or [a] pos) p := pw_or1 ha
theorem dw_and (ha : DT X W a p) (hb : DW X W (.BoolOp .And (b :: rest) pos) q) : DW X W (.BoolOp .And (a :: b :: rest) pos) (mAnd p q) := pwW (pw_and ha hb) fun σ H Q ⟨e, F, R, h⟩ => by
  refine ⟨e, F, R, post_imp (post_seq up_B h) ?_⟩
  rintro c H1 ⟨c', e1, F1, q1, R1, s1, h1⟩
  cases q1
  cases c with
  | true => exact iteT ⟨e1, F1, R1, h1⟩
  | false => exact iteF (post_ret R1 h1 rfl)
theorem dw_or (ha : DT X W a p) (hb : DW X W (.BoolOp .Or (b :: rest) pos) q) : DW X W (.BoolOp .Or (a :: b :: rest) pos) (mOr p q) := pwW (pw_or ha hb) fun σ H Q ⟨e, F, R, h⟩ => by
  refine ⟨e, F, R, post_imp (post_seq up_B h) ?_⟩
  rintro c H1 ⟨c', e1, F1, q1, R1, s1, h1⟩
  cases q1
  cases c with
  | true => exact iteT (post_ret R1 h1 rfl)
  | false => exact iteF ⟨e1, F1, R1, h1⟩
theorem DW.dt (h : DW X W a p) : DT X W a p := PW.pt h
/-- .. as values -/
def eAnd (f g : M RV) : M RV := M.bind f fun r => fun e => match rdat e r with
  | some (.bl true) => g e
  | some (.bl false) => .ok (.val (.bl false)) e
  | _ => .bad
def eOr (f g : M RV) : M RV := M.bind f fun r => fun e => match rdat e r with
  | some (.bl false) => g e
  | some (.bl true) => .ok (.val (.bl true)) e
  | _ => .bad
def eNot (f : M RV) : M RV := M.bind f fun r => fun e => match rdat e r with
  | some (.bl b) => .ok (.val (.bl (!b))) e
  | _ => .bad
theorem de_one {op : BoolOp} (ha : DE X W a f) : DE X W (.BoolOp op [a] pos) f := pe_one ha
theorem de_and (ha : DE X W a f) (hb : DE X W (.BoolOp .And (b :: rest) pos) g) : DE X W (.BoolOp .And (a :: b :: rest) pos) (eAnd f g) := peW (pe_and ha hb) fun σ H Q ⟨e, F, R, h⟩ => by
  refine ⟨e, F, R, post_imp (post_seq up_V h) ?_⟩
  rintro x H1 ⟨r1, e1, F1, q1, R1, s1, h1⟩
  split at h1
  · rename_i w; exact ⟨true, R1.rd q1 w, iteT ⟨e1, F1, R1, h1⟩⟩
  · rename_i w; exact ⟨false, R1.rd q1 w, iteF (post_val R1 h1 (.bl false))⟩
  · exact h1.elim
theorem de_or (ha : DE X W a f) (hb : DE X W (.BoolOp .Or (b :: rest) pos) g) : DE X W (.BoolOp .Or (a :: b :: rest) pos) (eOr f g) := peW (pe_or ha hb) fun σ H Q ⟨e, F, R, h⟩ => by
  refine ⟨e, F, R, post_imp (post_seq up_V h) ?_⟩
  rintro x H1 ⟨r1, e1, F1, q1, R1, s1, h1⟩
  split at h1
  · rename_i w; exact ⟨false, R1.rd q1 w, iteF ⟨e1, F1, R1, h1⟩⟩
  · rename_i w; exact ⟨true, R1.rd q1 w, iteT (post_val R1 h1 (.bl true))⟩
  · exact h1.elim
theorem de_not (ha : DE X W a f) : DE X W (.UnaryOp .Not a pos) (eNot f) := peW (pe_not ha) fun σ H Q ⟨e, F, R, h⟩ => by
  refine ⟨e, F, R, post_imp (post_seq up_V h) ?_⟩
  rintro x H1 ⟨r1, e1, F1, q1, R1, s1, h1⟩
  split at h1
  · rename_i b w; exact ⟨b, R1.rd q1 w, post_val R1 h1 (.bl _)⟩
  · exact h1.elim
def eIf (p : M Bool) (f g : M RV) : M RV := M.bind p fun c => if c then f else g
theorem de_ifExp {c : Expr} (hc : DT X W c p) (ha : DE X W a f) (hb : DE X W b g) : DE X W (.IfExp c a b pos) (eIf p f g) := peW (pe_ifExp hc ha hb) fun σ H Q ⟨e, F, R, h⟩ => by
  refine ⟨e, F, R, post_imp (post_seq up_V h) ?_⟩
  rintro c H1 ⟨c', e1, F1, q1, R1, s1, h1⟩
  cases q1
  cases c with
  | true => exact iteT ⟨e1, F1, R1, h1⟩
  | false => exact iteF ⟨e1, F1, R1, h1⟩
end
/-! ### ints -/
def kI2 (g : Int → Int → Option D) : D → D → M RV
  | .int i, .int j => match g i j with
    | some d => M.ret (.val d)
    | none => M.bad
  | _, _ => M.bad
def kI1 (g : Int → D) : D → M RV
  | .int i => M.ret (.val (g i))
  | _ => M.bad
section
variable {K : PySem.W.Frag} {mg : Mg} {W : WX}
theorem k2_I {C : Int → Int → Prop} {g : Int → Int → Option D} {h : Int → Int → V} (hg : ∀ i j d, g i j = some d → C i j ∧ ∀ F, Rep K mg F (h i j) d) : K2 K mg W (rI C h) (kI2 g) := fun F H e σ x y d d' Q R rx ry h => by
  unfold kI2 at h
  split at h
  · rename_i i j
    cases q : g i j with
    | none => rw [q] at h; exact h.elim
    | some d => rw [q] at h; exact ⟨i, j, rx, ry, (hg i j d q).1, post_val R h ((hg i j d q).2 F)⟩
  · exact h.elim
theorem k2_I0 {g : Int → Int → D} {h : Int → Int → V} (hg : ∀ i j F, Rep K mg F (h i j) (g i j)) : K2 K mg W (rI0 h) (kI2 fun i j => some (g i j)) := fun F H e σ x y d d' Q R rx ry h => by
  unfold kI2 at h
  split at h
  · rename_i i j
    exact ⟨i, j, rx, ry, post_val R h (hg i j F)⟩
  · exact h.elim
theorem k1_I {g : Int → D} {h : Int → V} (hg : ∀ i F, Rep K mg F (h i) (g i)) : K1 K mg W (rU h) (kI1 g) := fun F H e σ x d Q R rx h => by
  unfold kI1 at h
  split at h
  · rename_i i
    exact ⟨i, rx, post_val R h (hg i F)⟩
  · exact h.elim
end
def subI : D → D → M RV := kI2 fun i j => some (.int (i - j))
def mulI : D → D → M RV := kI2 fun i j => if (-(2 ^ 64) < i ∧ i < 2 ^ 64) ∨ (-(2 ^ 64) < j ∧ j < 2 ^ 64) then some (.int (i * j)) else none
def fdivI : D → D → M RV := kI2 fun i j => if 0 < j ∧ j < 1073741824 then some (.int (i / j)) else none
def modI : D → D → M RV := kI2 fun i j => if 0 < j then some (.int (i % j)) else none
def powI : D → D → M RV := kI2 fun i j => if 0 ≤ j ∧ j ≤ 1000000 ∧ i.natAbs < 2 ^ 64 then some (.int (i ^ j.toNat)) else none
def ltI : D → D → M RV := kI2 fun i j => some (.bl (decide (i < j)))
def leI : D → D → M RV := kI2 fun i j => some (.bl (decide (i ≤ j)))
def gtI : D → D → M RV := kI2 fun i j => some (.bl (decide (j < i)))
def geI : D → D → M RV := kI2 fun i j => some (.bl (decide (j ≤ i)))
def negI : D → M RV := kI1 fun i => .int (-i)
section
variable {X : Cx} {W : WX} {a b : Expr} {f g : M RV} {pos : Pos}
theorem de_sub (ha : DE X W a f) (hb : DE X W b g) : DE X W (.BinOp a .Sub b pos) (rd2 f g subI) := de_bin op_sub (k2_I0 fun _ _ _ => .int _) ha hb
theorem de_mulI (ha : DE X W a f) (hb : DE X W b g) : DE X W (.BinOp a .Mult b pos) (rd2 f g mulI) := de_bin op_mul (k2_I fun i j d h => by
  split at h
  · rename_i c; cases h; exact ⟨c, fun _ => .int _⟩
  · cases h) ha hb
theorem de_fdiv (ha : DE X W a f) (hb : DE X W b g) : DE X W (.BinOp a .FloorDiv b pos) (rd2 f g fdivI) := de_bin op_fdiv (k2_I fun i j d h => by
  split at h
  · rename_i c; cases h; exact ⟨c, fun _ => .int _⟩
  · cases h) ha hb
theorem de_mod (ha : DE X W a f) (hb : DE X W b g) : DE X W (.BinOp a .Mod b pos) (rd2 f g modI) := de_bin op_mod (k2_I fun i j d h => by
  split at h
  · rename_i c; cases h; exact ⟨c, fun _ => .int _⟩
  · cases h) ha hb
theorem de_pow (ha : DE X W a f) (hb : DE X W b g) : DE X W (.BinOp a .Pow b pos) (rd2 f g powI) := de_bin op_pow (k2_I fun i j d h => by
  split at h
  · rename_i c; cases h; exact ⟨c, fun _ => .int _⟩
  · cases h) ha hb
theorem de_neg (ha : DE X W a f) : DE X W (.UnaryOp .USub a pos) (rd1 f negI) := de_un un_neg (k1_I fun _ _ => .int _) ha
theorem de_lt (ha : DE X W a f) (hb : DE X W b g) : DE X W (.Compare a [.Lt] [b] pos) (rd2 f g ltI) := de_cmp op_lt (k2_I0 fun _ _ _ => .bl _) ha hb (nomark _)
theorem de_le (ha : DE X W a f) (hb : DE X W b g) : DE X W (.Compare a [.LtE] [b] pos) (rd2 f g leI) := de_cmp op_le (k2_I0 fun _ _ _ => .bl _) ha hb (nomark _)
theorem de_gt (ha : DE X W a f) (hb : DE X W b g) : DE X W (.Compare a [.Gt] [b] pos) (rd2 f g gtI) := de_cmp op_gt (k2_I0 fun _ _ _ => .bl _) ha hb (nomark _)
theorem de_ge (ha : DE X W a f) (hb : DE X W b g) : DE X W (.Compare a [.GtE] [b] pos) (rd2 f g geI) := de_cmp op_ge (k2_I0 fun _ _ _ => .bl _) ha hb (nomark _)
theorem dt_lt (ha : DE X W a f) (hb : DE X W b g) : DT X W (.Compare a [.Lt] [b] pos) (asB (rd2 f g ltI)) := dt_cmp op_lt (k2_I0 fun _ _ _ => .bl _) ha hb (nomark _)
theorem dt_le (ha : DE X W a f) (hb : DE X W b g) : DT X W (.Compare a [.LtE] [b] pos) (asB (rd2 f g leI)) := dt_cmp op_le (k2_I0 fun _ _ _ => .bl _) ha hb (nomark _)
theorem dt_gt (ha : DE X W a f) (hb : DE X W b g) : DT X W (.Compare a [.Gt] [b] pos) (asB (rd2 f g gtI)) := dt_cmp op_gt (k2_I0 fun _ _ _ => .bl _) ha hb (nomark _)
theorem dt_ge (ha : DE X W a f) (hb : DE X W b g) : DT X W (.Compare a [.GtE] [b] pos) (asB (rd2 f g geI)) := dt_cmp op_ge (k2_I0 fun _ _ _ => .bl _) ha hb (nomark _)
end
end Y

set_option Elab.async false
set_option linter.all false
set_option maxRecDepth 100000
set_option maxHeartbeats 4000000
namespace Y
open PySem PySem.Spec L2
set_option autoImplicit false
/-! ### data as the model's own -/
mutual
def toPy : D → Option PyData
  | .non => some .none
  | .bl b => some (.bool b)
  | .int i => some (.int i)
  | .str x => some (.str x)
  | .lst xs => (toPys xs).map .list
  | .tup xs => (toPys xs).map .tuple
  | .ins _ _ => none
  | .raw _ => none
def toPys : List D → Option (List PyData)
  | [] => some []
  | d :: ds => match toPy d, toPys ds with
    | some a, some b => some (a :: b)
    | _, _ => none
end
mutual
theorem Rep.dp {K : PySem.W.Frag} {mg : Mg} {H : Hp} {v : V} {d : D} {p : PyData} : Rep K mg H v d → toPy d = some p → Dp K H v p
  | .non, e => by cases e; exact .non
  | .bl b, e => by cases e; exact .bl b
  | .int i, e => by cases e; exact .int i
  | .str x, e => by cases e; exact .str x
  | .raw v, e => by cases e
  | .ins _ _ _, e => by cases e
  | .lst (ds := ds) a b, e => by
    unfold toPy at e
    cases q : toPys ds with
    | none => rw [q] at e; cases e
    | some xs => rw [q] at e; cases e; exact .lst a (Reps.dp b q)
  | .tup (ds := ds) a b, e => by
    unfold toPy at e
    cases q : toPys ds with
    | none => rw [q] at e; cases e
    | some xs => rw [q] at e; cases e; exact .tup a (Reps.dp b q)
theorem Reps.dp {K : PySem.W.Frag} {mg : Mg} {H : Hp} {vs : List V} {ds : List D} {ps : List PyData} : Reps K mg H vs ds → toPys ds = some ps → DpAll K H vs ps
  | .nil, e => by cases e; exact .nil
  | .cons (d := d) (ds := ds) a b, e => by
    unfold toPys at e
    cases q : toPy d with
    | none => rw [q] at e; cases e
    | some x =>
      cases q' : toPys ds with
      | none => rw [q, q'] at e; cases e
      | some xs => rw [q, q'] at e; cases e; exact .cons (Rep.dp a q) (Reps.dp b q')
end
def eqD (a b : D) : Option Bool := match toPy a, toPy b with
  | some x, some y => if SeqAt.shaped x = true ∧ SeqAt.shaped y = true then some (PyData.eqv x y) else none
  | _, _ => none
def kOB (g : D → D → Option Bool) : D → D → M RV := fun a b e => match g a b with
  | some c => .ok (.val (.bl c)) e
  | none => .bad
theorem kOB_some {K : PySem.W.Frag} {mg : Mg} {W : WX} {F H : Hp} {e : Sl} {σ : St} {Q : VK} {g : D → D → Option Bool} {a b : D} (h : post K mg W (rV K mg) F H e σ (kOB g a b e) Q) : ∃ c, g a b = some c ∧ post K mg W (rV K mg) F H e σ (.ok (.val (.bl c)) e) Q := by
  unfold kOB at h
  cases w : g a b with
  | none => rw [w] at h; exact h.elim
  | some c => rw [w] at h; exact ⟨c, rfl, h⟩
def eqK : D → D → M RV := kOB eqD
def neK : D → D → M RV := kOB fun a b => (eqD a b).map not
def inL (a b : D) : Option Bool := match toPy a, toPy b with
  | some x, some (.list ys) => if SeqAt.shaped x = true ∧ SeqAt.shaped (.list ys) = true then some (ys.any fun z => PyData.eqv z x) else none
  | some x, some (.tuple ys) => if SeqAt.shaped x = true ∧ SeqAt.shaped (.tuple ys) = true then some (ys.any fun z => PyData.eqv z x) else none
  | _, _ => none
def inK : D → D → M RV := kOB inL
def ninK : D → D → M RV := kOB fun a b => (inL a b).map not
section
variable {X : Cx} {W : WX} {a b : Expr} {f g : M RV} {pos : Pos}
def rInA (K : PySem.W.Frag) (neg : Bool) : R2 := fun x y H Q => ∃ d ds, Dp K H x d ∧ (Dp K H y (.list ds) ∨ Dp K H y (.tuple ds)) ∧ SeqAt.shaped d = true ∧ PyData.canLayAll0 ds = true ∧ Q (.bl (if neg then !ds.any (fun z => PyData.eqv z d) else ds.any fun z => PyData.eqv z d)) H
theorem op_inA (hu : X.A.units + 65 < cLine) : OpR X (compareOp .In) (rInA X.K false) := by
  intro pins s σ H x y v u Q I rx ry h
  obtain ⟨d, ds, hd, he, sd, se, q⟩ := h
  obtain ⟨as, r1⟩ := Dp.reads I d x v hd rx
  rcases he with he | he
  · obtain ⟨bs, r2⟩ := Dp.reads I _ y u he ry
    exact SeqAt.in_list_reads r2 r1 se (SeqAt.canLay_of_shaped sd) (PyProof.Rows.room_in_shaped sd hu) ⟨V.bl _, H, I, rfl, q⟩
  · obtain ⟨bs, r2⟩ := Dp.reads I _ y u he ry
    exact SeqAt.in_tuple_reads r2 r1 se (SeqAt.canLay_of_shaped sd) (PyProof.Rows.room_in_shaped sd hu) ⟨V.bl _, H, I, rfl, q⟩
theorem op_notInA (hu : X.A.units + 65 < cLine) : OpR X (compareOp .NotIn) (rInA X.K true) := by
  intro pins s σ H x y v u Q I rx ry h
  obtain ⟨d, ds, hd, he, sd, se, q⟩ := h
  obtain ⟨as, r1⟩ := Dp.reads I d x v hd rx
  rcases he with he | he
  · obtain ⟨bs, r2⟩ := Dp.reads I _ y u he ry
    exact SeqAt.notIn_list_reads r2 r1 se (SeqAt.canLay_of_shaped sd) (PyProof.Rows.room_in_shaped sd hu) ⟨V.bl _, H, I, rfl, q⟩
  · obtain ⟨bs, r2⟩ := Dp.reads I _ y u he ry
    exact SeqAt.notIn_tuple_reads r2 r1 se (SeqAt.canLay_of_shaped sd) (PyProof.Rows.room_in_shaped sd hu) ⟨V.bl _, H, I, rfl, q⟩
theorem eqD_some {K : PySem.W.Frag} {mg : Mg} {F H : Hp} {x y : V} {d d' : D} {c : Bool} (s : Same F H) (rx : RdOk K mg F H x d) (ry : RdOk K mg F H y d') (h : eqD d d' = some c) :
    ∃ p q, Dp K H x p ∧ Dp K H y q ∧ SeqAt.shaped p = true ∧ SeqAt.shaped q = true ∧ c = PyData.eqv p q := by
  unfold eqD at h
  split at h
  · rename_i p q ep eq
    split at h
    · rename_i c
      cases h
      exact ⟨p, q, (rx.rep s).dp ep, (ry.rep s).dp eq, c.1, c.2, rfl⟩
    · cases h
  · cases h
theorem k2_eq {K : PySem.W.Frag} {mg : Mg} : K2 K mg W (rEqD K) eqK := fun F H e σ x y d d' Q R rx ry h => by
  obtain ⟨c, w, h⟩ := kOB_some h
  obtain ⟨p, q, h1, h2, h3, h4, rfl⟩ := eqD_some R.sub rx ry w
  exact ⟨p, q, h1, h2, h3, h4, post_val R h (.bl _)⟩
theorem k2_ne {K : PySem.W.Frag} {mg : Mg} : K2 K mg W (rNeD K) neK := fun F H e σ x y d d' Q R rx ry h => by
  obtain ⟨c, w, h⟩ := kOB_some h
  obtain ⟨c', w', rfl⟩ := Option.map_eq_some_iff.mp w
  obtain ⟨p, q, h1, h2, h3, h4, rfl⟩ := eqD_some R.sub rx ry w'
  exact ⟨p, q, h1, h2, h3, h4, post_val R h (.bl _)⟩
theorem toPy_lst {b : D} {ys : List PyData} (h : toPy b = some (.list ys)) : ∃ ds, b = .lst ds ∧ toPys ds = some ys := by
  cases b with
  | lst ds =>
    unfold toPy at h
    obtain ⟨zs, q, e⟩ := Option.map_eq_some_iff.mp h
    cases e
    exact ⟨ds, rfl, q⟩
  | tup ds =>
    unfold toPy at h
    obtain ⟨zs, q, e⟩ := Option.map_eq_some_iff.mp h
    cases e
  | _ => simp [toPy] at h
theorem inL_some {K : PySem.W.Frag} {mg : Mg} {F H : Hp} {x y : V} {d d' : D} {c : Bool} (s : Same F H) (rx : RdOk K mg F H x d) (ry : RdOk K mg F H y d') (h : inL d d' = some c) :
    ∃ p ds, Dp K H x p ∧ (Dp K H y (.list ds) ∨ Dp K H y (.tuple ds)) ∧ SeqAt.shaped p = true ∧ PyData.canLayAll0 ds = true ∧ c = ds.any (fun z => PyData.eqv z p) := by
  unfold inL at h
  split at h
  · rename_i p ys ep eq
    split at h
    · rename_i c
      cases h
      exact ⟨p, ys, (rx.rep s).dp ep, .inl ((ry.rep s).dp eq), c.1, SeqAt.canLay_of_shaped c.2, rfl⟩
    · cases h
  · rename_i p ys ep eq
    split at h
    · rename_i c
      cases h
      exact ⟨p, ys, (rx.rep s).dp ep, .inr ((ry.rep s).dp eq), c.1, SeqAt.canLay_of_shaped c.2, rfl⟩
    · cases h
  · cases h
theorem k2_in {K : PySem.W.Frag} {mg : Mg} : K2 K mg W (rInA K false) inK := fun F H e σ x y d d' Q R rx ry h => by
  obtain ⟨c, w, h⟩ := kOB_some h
  obtain ⟨p, q, h1, h2, h3, h4, rfl⟩ := inL_some R.sub rx ry w
  exact ⟨p, q, h1, h2, h3, h4, post_val R h (.bl _)⟩
theorem k2_nin {K : PySem.W.Frag} {mg : Mg} : K2 K mg W (rInA K true) ninK := fun F H e σ x y d d' Q R rx ry h => by
  obtain ⟨c, w, h⟩ := kOB_some h
  obtain ⟨c', w', rfl⟩ := Option.map_eq_some_iff.mp w
  obtain ⟨p, q, h1, h2, h3, h4, rfl⟩ := inL_some R.sub rx ry w'
  exact ⟨p, q, h1, h2, h3, h4, post_val R h (.bl _)⟩
variable {k : Nat}
theorem de_eq (hr : Room k X.A) (ha : DE X W a f) (hb : DE X W b g) : DE X W (.Compare a [.Eq] [b] pos) (rd2 f g eqK) := de_cmp (op_eqD hr.units) k2_eq ha hb (nomark _)
theorem de_ne (hr : Room k X.A) (ha : DE X W a f) (hb : DE X W b g) : DE X W (.Compare a [.NotEq] [b] pos) (rd2 f g neK) := de_cmp (op_neD hr.units) k2_ne ha hb (nomark _)
theorem dt_eq (hr : Room k X.A) (ha : DE X W a f) (hb : DE X W b g) : DT X W (.Compare a [.Eq] [b] pos) (asB (rd2 f g eqK)) := dt_cmp (op_eqD hr.units) k2_eq ha hb (nomark _)
theorem dt_ne (hr : Room k X.A) (ha : DE X W a f) (hb : DE X W b g) : DT X W (.Compare a [.NotEq] [b] pos) (asB (rd2 f g neK)) := dt_cmp (op_neD hr.units) k2_ne ha hb (nomark _)
theorem room65 {A : Around} (hr : Room k A) : A.units + 65 < cLine := by have := hr.un; omega
theorem de_in (hr : Room k X.A) (ha : DE X W a f) (hb : DE X W b g) (hm : behindInMarks .In b = false := by rfl) : DE X W (.Compare a [.In] [b] pos) (rd2 f g inK) := de_cmp (op_inA (room65 hr)) k2_in ha hb hm
theorem de_nin (hr : Room k X.A) (ha : DE X W a f) (hb : DE X W b g) (hm : behindInMarks .NotIn b = false := by rfl) : DE X W (.Compare a [.NotIn] [b] pos) (rd2 f g ninK) := de_cmp (op_notInA (room65 hr)) k2_nin ha hb hm
theorem dt_in (hr : Room k X.A) (ha : DE X W a f) (hb : DE X W b g) (hm : behindInMarks .In b = false := by rfl) : DT X W (.Compare a [.In] [b] pos) (asB (rd2 f g inK)) := dt_cmp (op_inA (room65 hr)) k2_in ha hb hm
theorem dt_nin (hr : Room k X.A) (ha : DE X W a f) (hb : DE X W b g) (hm : behindInMarks .NotIn b = false := by rfl) : DT X W (.Compare a [.NotIn] [b] pos) (asB (rd2 f g ninK)) := dt_cmp (op_notInA (room65 hr)) k2_nin ha hb hm
/-! ### is None -/
def isN : D → M RV
  | .non => M.ret (.val (.bl true))
  | .raw _ => M.bad
  | _ => M.ret (.val (.bl false))
def notN : D → M RV
  | .non => M.ret (.val (.bl false))
  | .raw _ => M.bad
  | _ => M.ret (.val (.bl true))
theorem rd_non {K : PySem.W.Frag} {mg : Mg} {F H : Hp} {x : V} {d : D} (rx : RdOk K mg F H x d) (hr : ∀ v, d ≠ .raw v) : x = .non ↔ d = .non := by
  cases d with
  | non => exact ⟨fun _ => rfl, fun _ => rx⟩
  | raw v => exact absurd rfl (hr v)
  | bl b => cases rx; exact ⟨fun z => (by cases z), fun z => (by cases z)⟩
  | int b => cases rx; exact ⟨fun z => (by cases z), fun z => (by cases z)⟩
  | str b => cases rx; exact ⟨fun z => (by cases z), fun z => (by cases z)⟩
  | lst b => obtain ⟨_, _, rfl, _⟩ := rx; exact ⟨fun z => (by cases z), fun z => (by cases z)⟩
  | tup b => obtain ⟨_, _, rfl, _⟩ := rx; exact ⟨fun z => (by cases z), fun z => (by cases z)⟩
  | ins b c => obtain ⟨_, _, _, _, rfl, _⟩ := rx; exact ⟨fun z => (by cases z), fun z => (by cases z)⟩
theorem isN_ok {σ : St} {H : Hp} {Q : VK} (h : cE X.K X.mg W (rd1 f isN) σ H Q) : cE X.K X.mg W f σ H fun x H1 => Q (.bl (decide (x = .non))) H1 :=
  rd1_ok (r := fun x H Q => Q (.bl (decide (x = .non))) H) (fun F H e σ x d Q R rx h => by
    cases d with
    | raw v => exact h.elim
    | non => cases rx; exact post_val R h (.bl true)
    | _ =>
      have z : ¬ x = .non := fun y => by have := (rd_non rx (by intro v q; cases q)).mp y; cases this
      rw [decide_eq_false z]
      exact post_val R h (.bl false)) h
theorem notN_ok {σ : St} {H : Hp} {Q : VK} (h : cE X.K X.mg W (rd1 f notN) σ H Q) : cE X.K X.mg W f σ H fun x H1 => Q (.bl (!decide (x = .non))) H1 :=
  rd1_ok (r := fun x H Q => Q (.bl (!decide (x = .non))) H) (fun F H e σ x d Q R rx h => by
    cases d with
    | raw v => exact h.elim
    | non => cases rx; exact post_val R h (.bl false)
    | _ =>
      have z : ¬ x = .non := fun y => by have := (rd_non rx (by intro v q; cases q)).mp y; cases this
      rw [decide_eq_false z]
      exact post_val R h (.bl true)) h
variable {j : Nat} {pos' : Pos}
theorem de_isN (ha : DE X W a f) : DE X W (.Compare a [.Is] [.Constant .none j pos'] pos) (rd1 f isN) := peW (pe_cmp (pc_isN ha)) fun _ _ _ h => isN_ok h
theorem de_notN (ha : DE X W a f) : DE X W (.Compare a [.IsNot] [.Constant .none j pos'] pos) (rd1 f notN) := peW (pe_cmp (pc_notN ha)) fun _ _ _ h => notN_ok h
theorem dt_isN (ha : DE X W a f) : DT X W (.Compare a [.Is] [.Constant .none j pos'] pos) (asB (rd1 f isN)) := ptW (pt_cmp (pc_isN ha)) fun _ _ _ h => isN_ok (asB_ok h)
theorem dt_notN (ha : DE X W a f) : DT X W (.Compare a [.IsNot] [.Constant .none j pos'] pos) (asB (rd1 f notN)) := ptW (pt_cmp (pc_notN ha)) fun _ _ _ h => notN_ok (asB_ok h)
/-! ### chains of ints: a <= b <= c -/
def chI (p q : Int → Int → Bool) (f g h : M RV) : M RV := M.bind f fun r => M.bind g fun r' => fun e => match rdat e r, rdat e r' with
  | some (.int i), some (.int j) => if p i j then (M.bind h fun r'' => fun e => match rdat e r'' with
    | some (.int l) => .ok (.val (.bl (q j l))) e
    | _ => .bad) e else .ok (.val (.bl false)) e
  | _, _ => .bad
theorem chI_ok {K : PySem.W.Frag} {mg : Mg} {p q : Int → Int → Bool} {h : M RV} {σ : St} {H : Hp} {Q : VK} (z : cE K mg W (chI p q f g h) σ H Q) :
    tChain (rI0 fun i j => .bl (p i j)) (rI0 fun i j => .bl (q i j)) (cE K mg W f) (cE K mg W g) (cE K mg W h) σ H Q := by
  obtain ⟨e, F, R, z⟩ := z
  refine ⟨e, F, R, post_imp (post_seq up_V z) ?_⟩
  rintro x H1 ⟨r1, e1, F1, q1, R1, s1, z1⟩
  refine ⟨e1, F1, R1, post_imp (post_seq up_V z1) ?_⟩
  rintro y H2 ⟨r2, e2, F2, q2, R2, s2, z2⟩
  have q1 := q1.step s2
  split at z2
  · rename_i i j wi wj
    refine ⟨i, j, R2.rd q1 wi, R2.rd q2 wj, p i j, rfl, ?_⟩
    cases c : p i j with
    | true =>
      rw [c] at z2
      refine iteT ⟨e2, F2, R2, post_imp (post_seq up_V z2) ?_⟩
      rintro w H3 ⟨r3, e3, F3, q3, R3, s3, z3⟩
      split at z3
      · rename_i l wl
        have q2' := q2.step s3
        exact ⟨j, l, R2.rd q2 wj, R3.rd q3 wl, post_val R3 z3 (.bl _)⟩
      · exact z3.elim
    | false =>
      rw [c] at z2
      exact iteF (post_val R2 z2 (.bl false))
  · exact z2.elim
end
end Y

set_option Elab.async false
set_option linter.all false
set_option maxRecDepth 100000
set_option maxHeartbeats 4000000
namespace Y
open PySem PySem.Spec L2
set_option autoImplicit false
/-! ### arguments -/
def aV (f : M RV) : M RV := M.bind f fun r => M.bind (frz r) fun d => M.ret (.val d)
def aIO (i : Nat) : M RV := fun e => match e[i]? with
  | some (.own _ _) => .ok (.pk i) e
  | _ => .bad
def aNil : M (List RV) := M.ret []
def aCons (f : M RV) (g : M (List RV)) : M (List RV) := M.bind f fun r => M.bind g fun rs => M.ret (r :: rs)
section
variable {X : Cx} {W : WX} {a b : Expr} {es : List Expr} {f g : M RV} {fs : M (List RV)} {pos : Pos} {K : PySem.W.Frag} {mg : Mg}
theorem Args.mono {F F' : Hp} {σ : St} (s : Same F F') : ∀ {vs : List V} {rs : List RV}, Args K mg F σ vs rs → Args K mg F' σ vs rs
  | _, _, .nil => .nil
  | _, _, .cons (r := .val d) a b => .cons (show ArgOk K mg F' σ _ (.val d) from Rep.mono s a) (Args.mono s b)
  | _, _, .cons (r := .pk i) a b => .cons (show ArgOk K mg F' σ _ (.pk i) from a) (Args.mono s b)
  | _, _, .cons (r := .own c) a b => a.elim
/-- one more argument, by its canonical reading -/
theorem aCons_ok {σ : St} {H : Hp} {Q : List V → Hp → Prop} (h : cA K mg W (aCons (aV f) fs) σ H Q) : cE K mg W f σ H fun x H1 => cA K mg W fs σ H1 fun xs H2 => Q (x :: xs) H2 := by
  obtain ⟨e, F, R, h⟩ := h
  unfold aCons aV at h
  rw [bind_assoc] at h
  refine ⟨e, F, R, post_imp (post_seq0 h) ?_⟩
  rintro x H1 ⟨r1, e1, F1, q1, R1, s1, h1⟩
  rw [bind_assoc] at h1
  cases w : frz r1 e1 with
  | bad => unfold M.bind at h1; rw [w] at h1; exact h1.elim
  | ex x e' => exact (frz_noex w).elim
  | ok d e2 =>
    obtain ⟨F2, s2, R2, q2⟩ := frz_ok R1 q1 w s1
    have h2 : post K mg W (rA K mg) F H e σ ((M.bind fs fun rs => M.ret (RV.val d :: rs)) e2) Q := by
      have z := h1
      unfold M.bind at z
      rw [w] at z
      exact z
    refine ⟨e2, F2, R2, post_imp (post_seq up_A (post_from up_A s2 h2)) ?_⟩
    rintro xs H3 ⟨rs, e3, F3, q3, R3, s3, h3⟩
    exact post_ret R3 h3 (.cons (show ArgOk K mg F3 σ x (.val d) from q2.mono s3.fro) q3)
theorem da_nil : DA X W [] aNil := paW pa_nil fun σ H Q ⟨e, F, R, h⟩ => post_ret R h .nil
theorem da_cons (ha : DE X W a f) (hr : DA X W es fs) (hs : starEach (a :: es) X.env = (false, eval a X.env) :: starEach es X.env := by rfl) : DA X W (a :: es) (aCons (aV f) fs) :=
  paW (pa_cons ha hr hs) fun _ _ _ h => aCons_ok h
/-- a slot is lent -/
theorem da_lend (i : Nat) {x : Str} (hr : DA X W es fs) (hN : X.N[i]? = some x := by rfl) (hv : Vis X.env.scope x := by first | exact Or.inl rfl | exact Or.inr (Or.inl rfl) | exact Or.inr (Or.inr rfl)) (hd : (x == ("__debug__" : Str)) = false := by decide)
    (hcd : (x == ("__classdict__" : Str)) = false := by decide) (hs : starEach (.Name x pos :: es) X.env = (false, eval (.Name x pos) X.env) :: starEach es X.env := by rfl) : DA X W (.Name x pos :: es) (aCons (aIO i) fs) :=
  paW (pa_cons (pe_var hN hv hd hcd) hr hs) fun σ H Q ⟨e, F, R, h⟩ => by
    unfold aCons M.bind aIO at h
    cases es : e[i]? with
    | none => rw [es] at h; exact h.elim
    | some s =>
      cases s with
      | no => rw [es] at h; exact h.elim
      | val d => rw [es] at h; exact h.elim
      | own fx c =>
        rw [es] at h
        have hl : i < σ.length := by rw [← R.len]; exact (List.getElem?_eq_some_iff.mp es).1
        obtain ⟨p, o, h1, _⟩ := R.ok i _ _ es (List.getElem?_eq_getElem hl)
        have hs : σ[i]? = some (some (.ref p)) := by rw [List.getElem?_eq_getElem hl, h1]
        refine ⟨_, hs, e, F, R, post_imp (post_seq (k := fun rs => M.ret (RV.pk i :: rs)) up_A h) ?_⟩
        rintro xs H3 ⟨rs, e3, F3, q3, R3, s3, h3⟩
        exact post_ret R3 h3 (.cons (show ArgOk X.K X.mg F3 σ _ (.pk i) from hs) q3)
end
/-! ### displays -/
def valsOf : List RV → Option (List D)
  | [] => some []
  | .val d :: rs => (valsOf rs).map (d :: ·)
  | _ => none
theorem Args.reps {K : PySem.W.Frag} {mg : Mg} {F : Hp} {σ : St} : ∀ {vs : List V} {rs : List RV} {ds : List D}, Args K mg F σ vs rs → valsOf rs = some ds → Reps K mg F vs ds
  | _, _, _, .nil, e => by cases e; exact .nil
  | _, _, _, .cons (r := .val d) (rs := rs) a b, e => by
    unfold valsOf at e
    obtain ⟨zs, q, e⟩ := Option.map_eq_some_iff.mp e
    subst e
    exact .cons a (Args.reps b q)
  | _, _, _, .cons (r := .pk i) a b, e => by cases e
  | _, _, _, .cons (r := .own c) a b, e => a.elim
def eTup (g : M (List RV)) : M RV := M.bind g fun rs => fun e => match valsOf rs with
  | some ds => if ds.length ≤ sizeLine then .ok (.val (.tup ds)) e else .bad
  | none => .bad
def eLst (g : M (List RV)) : M RV := M.bind g fun rs => fun e => match valsOf rs with
  | some ds => if ds.length ≤ sizeLine then .ok (.own (.lst ds)) e else .bad
  | none => .bad
section
variable {X : Cx} {W : WX} {a b c : Expr} {es : List Expr} {f g h : M RV} {fs : M (List RV)} {pos : Pos}
theorem de_tup {j : Nat} (h : DA X W es fs) : DE X W (.Tuple es j pos) (eTup fs) := peW (pe_tup h) fun σ H Q ⟨e, F, R, h⟩ => by
  refine ⟨e, F, R, post_imp (post_seq up_V h) ?_⟩
  rintro xs H1 ⟨rs, e1, F1, q1, R1, s1, h1⟩
  cases w : valsOf rs with
  | none => rw [w] at h1; exact h1.elim
  | some ds =>
    rw [w] at h1
    dsimp only at h1
    split at h1
    · have rp := q1.reps w
      exact ⟨by rw [rp.length]; assumption, fun p hp => post_newT R1 h1 rp hp⟩
    · exact h1.elim
theorem de_lst (h : DA X W es fs) : DE X W (.List es pos) (eLst fs) := peW (pe_lst h) fun σ H Q ⟨e, F, R, h⟩ => by
  refine ⟨e, F, R, post_imp (post_seq up_V h) ?_⟩
  rintro xs H1 ⟨rs, e1, F1, q1, R1, s1, h1⟩
  cases w : valsOf rs with
  | none => rw [w] at h1; exact h1.elim
  | some ds =>
    rw [w] at h1
    dsimp only at h1
    split at h1
    · have rp := q1.reps w
      exact ⟨by rw [rp.length]; assumption, fun p hp => post_newL R1 h1 rp hp⟩
    · exact h1.elim
/-! ### + -/
def rCatS (K : PySem.W.Frag) : R2 := fun x y H Q => ∃ l b xs zs, x = .ref l ∧ y = .ref b ∧ SqL K H l xs ∧ SqL K H b zs ∧ xs.length + zs.length ≤ sizeLine ∧ ∀ p, H p = none → Q (.ref p) (upd H p (.lst (xs ++ zs)))
theorem op_catS : OpR X (binaryOp .Add) (rCatS X.K) := by
  intro pins s σ H x y v u Q I rx ry h
  obtain ⟨l, b, xs, zs, rfl, rfl, hH, hB, hz, q⟩ := h
  cases rx
  cases ry
  obtain ⟨its, r, pl, _⟩ := I.list hH
  obtain ⟨its2, r2, pl2, _⟩ := I.list hB
  obtain ⟨⟨cls, dd, data, sl⟩, ho, hc, n, hd⟩ := pl.isList
  obtain ⟨⟨cls2, dd2, data2, sl2⟩, ho2, hc2, n2, hd2⟩ := pl2.isList
  simp only at hc hd hc2 hd2
  subst hc hd hc2 hd2
  have hl := r.length
  have hl2 := r2.length
  have ea : its.toArray ++ its2.toArray = (its ++ its2).toArray := by simp
  refine PySem.concat_meets ⟨_, ho, rfl⟩ ⟨_, ho2, rfl⟩ PySem.noFill_list_add PySem.seq_list_add PySem.F.slot_list_add PySem.F.entry_list_add (PySem.F.args_list_add_2 _ _)
    (PyProof.Rows.list_addW l b its.toArray its2.toArray n n2 dd dd2 sl sl2 (by rw [List.size_toArray, List.size_toArray]; omega)) ⟨ho, ho2, ?_⟩
  rw [ea]
  exact ⟨V.ref _, _, I.lnew (t' := s.toks) (r.append r2) (by rw [List.length_append]; omega), rfl, q _ I.fresh⟩
def addK : D → D → M RV
  | .int i, .int j => fun e => .ok (.val (.int (i + j))) e
  | .lst xs, .lst ys => fun e => if xs.length + ys.length ≤ sizeLine then .ok (.own (.lst (xs ++ ys))) e else .bad
  | .tup xs, .tup ys => fun e => if xs.length + ys.length ≤ sizeLine then .ok (.val (.tup (xs ++ ys))) e else .bad
  | .str x, .str y => fun e => if x.length + y.length ≤ sizeLine then .ok (.val (.str (x ++ y))) e else .bad
  | _, _ => M.bad
theorem rd_tup {K : PySem.W.Frag} {mg : Mg} {F H : Hp} {x : V} {ds : List D} (r : RdOk K mg F H x (.tup ds)) : Rep K mg F x (.tup ds) := by
  obtain ⟨a, vs, rfl, q, p⟩ := r
  exact .tup q p
theorem k2_add {K : PySem.W.Frag} {mg : Mg} : K2 K mg W (fun x y H Q => (rI0 fun i j => .int (i + j)) x y H Q ∨ rCatS K x y H Q ∨ rCatA K x y H Q ∨ ∃ i j, x = .str i ∧ y = .str j ∧ i.length + j.length ≤ sizeLine ∧ Q (.str (i ++ j)) H) addK := fun F H e σ x y d d' Q R rx ry h => by
  unfold addK at h
  split at h
  · rename_i i j
    exact .inl ⟨i, j, rx, ry, post_val R h (.int _)⟩
  · rename_i xs ys
    split at h
    · rename_i c
      obtain ⟨l, vs, rfl, q1, p1⟩ := rx
      obtain ⟨b, ws, rfl, q2, p2⟩ := ry
      exact .inr (.inl ⟨l, b, vs, ws, rfl, rfl, q1, q2, by rw [p1.length, p2.length]; exact c, fun p hp => post_newL R h (p1.append p2) hp⟩)
    · exact h.elim
  · rename_i xs ys
    split at h
    · rename_i c
      have tx := rd_tup rx
      have ty := rd_tup ry
      obtain ⟨l, vs, rfl, q1, p1⟩ := rx
      obtain ⟨b, ws, rfl, q2, p2⟩ := ry
      refine .inr (.inr (.inl ⟨l, b, vs, ws, rfl, rfl, sqT_mono R.sub q1, sqT_mono R.sub q2, by rw [p1.length, p2.length]; exact c, fun z => ?_, fun z z' => ?_, fun z z' p hp => post_newT R h (p1.append p2) hp⟩))
      · subst z
        cases p1
        exact post_val R h ty
      · subst z'
        cases p2
        rw [List.append_nil] at h
        exact post_val R h tx
    · exact h.elim
  · rename_i i j
    split at h
    · rename_i c
      exact .inr (.inr (.inr ⟨i, j, rx, ry, c, post_val R h (.str _)⟩))
    · exact h.elim
  · exact h.elim
theorem de_add (ha : DE X W a f) (hb : DE X W b g) : DE X W (.BinOp a .Add b pos) (rd2 f g addK) := de_bin (op_add.or (op_catS.or (op_catA.or op_add_str))) k2_add ha hb
/-! ### subscripts and slices -/
def ixK : D → D → M RV
  | .lst xs, .int i => fun e => match atI xs i with
    | some d => .ok (.val d) e
    | none => .bad
  | .tup xs, .int i => fun e => match atI xs i with
    | some d => .ok (.val d) e
    | none => .bad
  | _, _ => M.bad
theorem Reps.atI {K : PySem.W.Frag} {mg : Mg} {F : Hp} {vs : List V} {ds : List D} {i : Int} {d : D} (r : Reps K mg F vs ds) (h : atI ds i = some d) : ∃ v, atI vs i = some v ∧ Rep K mg F v d := by
  unfold L2.atI at h ⊢
  rw [r.length]
  cases q : ixN ds.length i with
  | none => rw [q] at h; cases h
  | some j => rw [q] at h; exact Reps.get r h
theorem k2_ix {K : PySem.W.Frag} {mg : Mg} : K2 K mg W (rIx K) ixK := fun F H e σ x y d d' Q R rx ry h => by
  unfold ixK at h
  split at h
  · rename_i xs i
    obtain ⟨l, vs, rfl, q1, p1⟩ := rx
    cases w : atI xs i with
    | none => rw [w] at h; exact h.elim
    | some d =>
      rw [w] at h
      obtain ⟨v, h1, h2⟩ := p1.atI w
      exact .inl ⟨l, vs, i, v, rfl, ry, q1, h1, post_val R h h2⟩
  · rename_i xs i
    obtain ⟨l, vs, rfl, q1, p1⟩ := rx
    cases w : atI xs i with
    | none => rw [w] at h; exact h.elim
    | some d =>
      rw [w] at h
      obtain ⟨v, h1, h2⟩ := p1.atI w
      exact .inr (.inl ⟨l, vs, i, v, rfl, ry, sqT_mono R.sub q1, h1, post_val R h h2⟩)
  · exact h.elim
theorem de_ix (ha : DE X W a f) (hb : DE X W b g) (hs : PlainIx b := by exact fun _ _ => rfl) : DE X W (.Subscript a b pos) (rd2 f g ixK) := peW (pe_ix ix_seq ha hb hs) fun _ _ _ h => rd2_ok k2_ix h
def cutD {α : Type} (xs : List α) (lo hi : Option Int) : List α := (xs.drop (HT.sIx xs.length 0 lo)).take (HT.sIx xs.length xs.length hi - HT.sIx xs.length 0 lo)
def slK : D → Option Int → Option Int → M RV
  | .lst xs, lo, hi => fun e => .ok (.own (.lst (cutD xs lo hi))) e
  | .tup xs, lo, hi => fun e => .ok (.val (.tup (cutD xs lo hi))) e
  | _, _, _ => M.bad
def oNo : M (Option Int) := M.ret none
def oSome (f : M RV) : M (Option Int) := M.bind f fun r => fun e => match rdat e r with
  | some (.int i) => .ok (some i) e
  | _ => .bad
def eSl (f : M RV) (l u : M (Option Int)) : M RV := M.bind f fun r => M.bind l fun lo => M.bind u fun hi => fun e => match rdat e r with
  | some d => slK d lo hi e
  | none => .bad
abbrev rO : RR (Option Int) (Option Int) := fun _ _ _ _ _ b a => b = a
theorem up_O : Up rO := fun _ _ _ _ _ _ _ _ _ h => h
abbrev DO (X : Cx) (W : WX) (e : Option Expr) (f : M (Option Int)) : Prop := PO X e (cG X.K X.mg W rO f)
theorem poW {e : Option Expr} {t t' : TO} (h : PO X e t) (i : ∀ σ H Q, t' σ H Q → t σ H Q) : PO X e t' := ⟨fun pins s σ H Q I q => h.run pins s σ H Q I (i σ H Q q)⟩
theorem do_no : DO X W none oNo := poW po_none fun σ H Q ⟨e, F, R, h⟩ => post_ret R h rfl
theorem do_some (ha : DE X W a f) : DO X W (some a) (oSome f) := poW (po_some ha) fun σ H Q ⟨e, F, R, h⟩ => by
  refine ⟨e, F, R, post_imp (post_seq up_O h) ?_⟩
  rintro x H1 ⟨r1, e1, F1, q1, R1, s1, h1⟩
  split at h1
  · rename_i i w
    exact ⟨i, R1.rd q1 w, post_ret R1 h1 rfl⟩
  · exact h1.elim
theorem cut_reps {K : PySem.W.Frag} {mg : Mg} {F : Hp} {vs : List V} {ds : List D} {lo hi : Option Int} (r : Reps K mg F vs ds) : Reps K mg F (cutV vs lo hi) (cutD ds lo hi) := by
  unfold cutV cutD
  rw [r.length]
  exact (r.drop _).take _
theorem de_slice {lo hi : Option Expr} {l u : M (Option Int)} {p2 : Pos} (ha : DE X W a f) (hl : DO X W lo l) (hu : DO X W hi u) : DE X W (.Subscript a (.Slice lo hi none p2) pos) (eSl f l u) := peW (pe_slice (sl_list.or sl_tupA) ha hl hu) fun σ H Q ⟨e, F, R, h⟩ => by
  refine ⟨e, F, R, post_imp (post_seq up_V h) ?_⟩
  rintro x H1 ⟨r1, e1, F1, q1, R1, s1, h1⟩
  refine ⟨e1, F1, R1, post_imp (post_seq up_V h1) ?_⟩
  rintro lo H2 ⟨lo', e2, F2, q2, R2, s2, h2⟩
  cases q2
  refine ⟨e2, F2, R2, post_imp (post_seq up_V h2) ?_⟩
  rintro hi H3 ⟨hi', e3, F3, q3, R3, s3, h3⟩
  cases q3
  have q1 := (q1.step s2).step s3
  cases w : rdat e3 r1 with
  | none => rw [w] at h3; exact h3.elim
  | some d =>
    rw [w] at h3
    have rx := R3.rd q1 w
    unfold slK at h3
    dsimp only at h3
    split at h3
    · rename_i xs
      obtain ⟨p, vs, rfl, q1, p1⟩ := rx
      exact .inl ⟨p, vs, rfl, q1, fun z hz => post_newL R3 h3 (cut_reps p1) hz⟩
    · rename_i xs
      have tx := rd_tup rx
      obtain ⟨p, vs, rfl, q1, p1⟩ := rx
      refine .inr ⟨p, vs, rfl, sqT_mono R3.sub q1, fun ⟨z1, z2⟩ => ?_, fun _ z hz => post_newT R3 h3 (cut_reps p1) hz⟩
      rw [p1.length] at z1 z2
      have e : cutD xs lo hi = xs := by
        unfold cutD
        rw [z1, z2, List.drop_zero, Nat.sub_zero, List.take_length]
      rw [e] at h3
      exact post_val R3 h3 tx
    · exact h3.elim
/-! ### built-ins of one and two values -/
theorem de_b1 {id : String} {x : Str} {r : List V → Hp → VK → Prop} {k : D → M RV} {p : Pos} (hc : CallR X (.builtin id) r) (hk : K1 X.K X.mg W (fun x => r [x]) k) (hg : Gl X x) (hm : X.mg x = none) (hv : bootBuiltins x = some (.builtin id)) (ha : DE X W a f)
    (hn : x ≠ "__name__" := by decide) (hdb : (x == ("__debug__" : Str)) = false := by decide) (he : starEach [a] X.env = (false, eval a X.env) :: starEach [] X.env := by rfl) (hpl : (backTo pos (starEach [] X.env)).any (·.1) = false := by rfl) :
    DE X W (.Call (.Name x p) [a] [] pos) (rd1 f k) := peW (pe_callB hc hg hm hv (pa_cons ha pa_nil he) hn hdb he hpl) fun _ _ _ h => rd1_ok hk h
theorem de_t1 {T : String} {x : Str} {r : List V → Hp → VK → Prop} {k : D → M RV} {p : Pos} (hc : CallR X (.type T) r) (hk : K1 X.K X.mg W (fun x => r [x]) k) (hg : Gl X x) (hm : X.mg x = none) (hv : bootBuiltins x = some (.type T)) (ha : DE X W a f)
    (hn : x ≠ "__name__" := by decide) (hdb : (x == ("__debug__" : Str)) = false := by decide) (he : starEach [a] X.env = (false, eval a X.env) :: starEach [] X.env := by rfl) (hpl : (backTo pos (starEach [] X.env)).any (·.1) = false := by rfl) :
    DE X W (.Call (.Name x p) [a] [] pos) (rd1 f k) := peW (pe_callTy hc hg hm hv (pa_cons ha pa_nil he) hn hdb he hpl) fun _ _ _ h => rd1_ok hk h
theorem de_b2 {id : String} {x : Str} {r : List V → Hp → VK → Prop} {k : D → D → M RV} {p : Pos} (hc : CallR X (.builtin id) r) (hk : K2 X.K X.mg W (fun x y => r [x, y]) k) (hg : Gl X x) (hm : X.mg x = none) (hv : bootBuiltins x = some (.builtin id)) (ha : DE X W a f) (hb : DE X W b g)
    (hn : x ≠ "__name__" := by decide) (hdb : (x == ("__debug__" : Str)) = false := by decide) (he : starEach [a, b] X.env = (false, eval a X.env) :: starEach [b] X.env := by rfl) (he2 : starEach [b] X.env = (false, eval b X.env) :: starEach [] X.env := by rfl)
    (hpl : (backTo pos (starEach [b] X.env)).any (·.1) = false := by rfl) :
    DE X W (.Call (.Name x p) [a, b] [] pos) (rd2 f g k) := peW (pe_callB hc hg hm hv (pa_cons ha (pa_cons hb pa_nil he2) he) hn hdb he hpl) fun _ _ _ h => rd2_ok hk h
def lenK : D → M RV
  | .lst xs => fun e => .ok (.val (.int xs.length)) e
  | .tup xs => fun e => .ok (.val (.int xs.length)) e
  | _ => M.bad
theorem de_len {p : Pos} (hg : Gl X "len") (hm : X.mg "len" = none) (ha : DE X W a f) (he : starEach [a] X.env = (false, eval a X.env) :: starEach [] X.env := by rfl) (hpl : (backTo pos (starEach [] X.env)).any (·.1) = false := by rfl) :
    DE X W (.Call (.Name "len" p) [a] [] pos) (rd1 f lenK) := de_b1 call_len_seq (fun F H e σ x d Q R rx h => by
  unfold lenK at h
  split at h
  · obtain ⟨l, vs, rfl, q1, p1⟩ := rx
    exact ⟨l, vs, rfl, .inl q1, by rw [p1.length]; exact post_val R h (.int _)⟩
  · obtain ⟨l, vs, rfl, q1, p1⟩ := rx
    exact ⟨l, vs, rfl, .inr (sqT_mono R.sub q1), by rw [p1.length]; exact post_val R h (.int _)⟩
  · exact h.elim) hg hm PySem.boot_len ha (he := he) (hpl := hpl)
def intK : D → M RV
  | .int i => fun e => .ok (.val (.int i)) e
  | .bl b => fun e => .ok (.val (.int (if b then 1 else 0))) e
  | _ => M.bad
theorem de_intOf {p : Pos} (hg : Gl X "int") (hm : X.mg "int" = none) (ha : DE X W a f) (he : starEach [a] X.env = (false, eval a X.env) :: starEach [] X.env := by rfl) (hpl : (backTo pos (starEach [] X.env)).any (·.1) = false := by rfl) :
    DE X W (.Call (.Name "int" p) [a] [] pos) (rd1 f intK) := de_t1 call_int1 (fun F H e σ x d Q R rx h => by
  unfold intK at h
  split at h
  · rename_i i
    cases rx
    exact .inl ⟨i, rfl, post_val R h (.int _)⟩
  · rename_i b
    cases rx
    exact .inr ⟨b, rfl, post_val R h (.int _)⟩
  · exact h.elim) hg hm (by decide +kernel) ha (he := he) (hpl := hpl)
def tupK : D → M RV
  | .lst xs => fun e => .ok (.val (.tup xs)) e
  | .tup xs => fun e => .ok (.val (.tup xs)) e
  | _ => M.bad
theorem de_tupleOf {p : Pos} (hg : Gl X "tuple") (hm : X.mg "tuple" = none) (ha : DE X W a f) (he : starEach [a] X.env = (false, eval a X.env) :: starEach [] X.env := by rfl) (hpl : (backTo pos (starEach [] X.env)).any (·.1) = false := by rfl) :
    DE X W (.Call (.Name "tuple" p) [a] [] pos) (rd1 f tupK) := de_t1 call_tuple_of (fun F H e σ x d Q R rx h => by
  unfold tupK at h
  split at h
  · obtain ⟨l, vs, rfl, q1, p1⟩ := rx
    exact ⟨l, vs, rfl, .inl ⟨q1, fun p hp => post_newT R h p1 hp⟩⟩
  · have tx := rd_tup rx
    obtain ⟨l, vs, rfl, q1, p1⟩ := rx
    exact ⟨l, vs, rfl, .inr ⟨sqT_mono R.sub q1, post_val R h tx⟩⟩
  · exact h.elim) hg hm (by decide +kernel) ha (he := he) (hpl := hpl)
def lstK : D → M RV
  | .lst xs => fun e => .ok (.own (.lst xs)) e
  | .tup xs => fun e => .ok (.own (.lst xs)) e
  | _ => M.bad
theorem de_listOf {p : Pos} (hg : Gl X "list") (hm : X.mg "list" = none) (ha : DE X W a f) (he : starEach [a] X.env = (false, eval a X.env) :: starEach [] X.env := by rfl) (hpl : (backTo pos (starEach [] X.env)).any (·.1) = false := by rfl) :
    DE X W (.Call (.Name "list" p) [a] [] pos) (rd1 f lstK) := de_t1 call_list_of (fun F H e σ x d Q R rx h => by
  unfold lstK at h
  split at h
  · obtain ⟨l, vs, rfl, q1, p1⟩ := rx
    exact ⟨l, vs, rfl, .inl q1, fun p hp => post_newL R h p1 hp⟩
  · obtain ⟨l, vs, rfl, q1, p1⟩ := rx
    exact ⟨l, vs, rfl, .inr (sqT_mono R.sub q1), fun p hp => post_newL R h p1 hp⟩
  · exact h.elim) hg hm (by decide +kernel) ha (he := he) (hpl := hpl)
def intsOf : List D → Option (List Int)
  | [] => some []
  | .int i :: r => (intsOf r).map (i :: ·)
  | _ => none
theorem Reps.ints {K : PySem.W.Frag} {mg : Mg} {F : Hp} : ∀ {vs : List V} {ds : List D} {ns : List Int}, Reps K mg F vs ds → intsOf ds = some ns → vs = ns.map V.int
  | _, _, _, .nil, e => by cases e; rfl
  | _, _, _, .cons (.int i) b, e => by
    unfold intsOf at e
    obtain ⟨zs, q, e⟩ := Option.map_eq_some_iff.mp e
    subst e
    rw [Reps.ints b q]
    rfl
  | _, _, _, .cons .non b, e => by cases e
  | _, _, _, .cons (.bl _) b, e => by cases e
  | _, _, _, .cons (.str _) b, e => by cases e
  | _, _, _, .cons (.raw _) b, e => by cases e
  | _, _, _, .cons (.lst _ _) b, e => by cases e
  | _, _, _, .cons (.tup _ _) b, e => by cases e
  | _, _, _, .cons (.ins _ _ _) b, e => by cases e
def sumK : D → M RV
  | .lst xs => fun e => match intsOf xs with
    | some ns => .ok (.val (.int ns.sum)) e
    | none => .bad
  | _ => M.bad
theorem de_sum {p : Pos} (hc : X.calm = true) (hg : Gl X "sum") (hm : X.mg "sum" = none) (ha : DE X W a f) (he : starEach [a] X.env = (false, eval a X.env) :: starEach [] X.env := by rfl) (hpl : (backTo pos (starEach [] X.env)).any (·.1) = false := by rfl) :
    DE X W (.Call (.Name "sum" p) [a] [] pos) (rd1 f sumK) := de_b1 (cr_sum hc) (fun F H e σ x d Q R rx h => by
  unfold sumK at h
  split at h
  · rename_i xs
    cases w : intsOf xs with
    | none => rw [w] at h; exact h.elim
    | some ns =>
      rw [w] at h
      obtain ⟨l, vs, rfl, q1, p1⟩ := rx
      exact ⟨l, ns, rfl, by rw [← p1.ints w]; exact q1, post_val R h (.int _)⟩
  · exact h.elim) hg hm (by decide +kernel) ha (he := he) (hpl := hpl)
def max2 : D → D → M RV := kI2 fun i j => some (.int (if j > i then j else i))
def min2 : D → D → M RV := kI2 fun i j => some (.int (if j < i then j else i))
theorem k2_call {K : PySem.W.Frag} {mg : Mg} {h : Int → Int → V} {g : Int → Int → D} (hg : ∀ i j F, Rep K mg F (h i j) (g i j)) : K2 K mg W (fun x y H Q => ∃ i j, [x, y] = [V.int i, V.int j] ∧ Q (h i j) H) (kI2 fun i j => some (g i j)) := fun F H e σ x y d d' Q R rx ry h => by
  unfold kI2 at h
  split at h
  · rename_i i j
    cases rx
    cases ry
    exact ⟨i, j, rfl, post_val R h (hg i j F)⟩
  · exact h.elim
theorem de_max2 {p : Pos} (hc : X.calm = true) (hg : Gl X "max") (hm : X.mg "max" = none) (ha : DE X W a f) (hb : DE X W b g) (he : starEach [a, b] X.env = (false, eval a X.env) :: starEach [b] X.env := by rfl) (he2 : starEach [b] X.env = (false, eval b X.env) :: starEach [] X.env := by rfl)
    (hpl : (backTo pos (starEach [b] X.env)).any (·.1) = false := by rfl) : DE X W (.Call (.Name "max" p) [a, b] [] pos) (rd2 f g max2) := de_b2 (call_max2 hc) (k2_call fun _ _ _ => .int _) hg hm (by decide +kernel) ha hb (he := he) (he2 := he2) (hpl := hpl)
theorem de_min2 {p : Pos} (hc : X.calm = true) (hg : Gl X "min") (hm : X.mg "min" = none) (ha : DE X W a f) (hb : DE X W b g) (he : starEach [a, b] X.env = (false, eval a X.env) :: starEach [b] X.env := by rfl) (he2 : starEach [b] X.env = (false, eval b X.env) :: starEach [] X.env := by rfl)
    (hpl : (backTo pos (starEach [b] X.env)).any (·.1) = false := by rfl) : DE X W (.Call (.Name "min" p) [a, b] [] pos) (rd2 f g min2) := de_b2 (call_min2 hc) (k2_call fun _ _ _ => .int _) hg hm (by decide +kernel) ha hb (he := he) (he2 := he2) (hpl := hpl)
def dmK : D → D → M RV := kI2 fun i j => if 0 < j ∧ j < 1073741824 then some (.tup [.int (i / j), .int (i % j)]) else none
theorem de_divmod {p : Pos} (hg : Gl X "divmod") (hm : X.mg "divmod" = none) (ha : DE X W a f) (hb : DE X W b g) (he : starEach [a, b] X.env = (false, eval a X.env) :: starEach [b] X.env := by rfl) (he2 : starEach [b] X.env = (false, eval b X.env) :: starEach [] X.env := by rfl)
    (hpl : (backTo pos (starEach [b] X.env)).any (·.1) = false := by rfl) : DE X W (.Call (.Name "divmod" p) [a, b] [] pos) (rd2 f g dmK) := de_b2 call_divmod (fun F H e σ x y d d' Q R rx ry h => by
  unfold dmK kI2 at h
  split at h
  · rename_i i j
    cases rx
    cases ry
    dsimp only at h
    by_cases c : 0 < j ∧ j < 1073741824
    · rw [if_pos c] at h
      exact ⟨i, j, rfl, c, fun p hp => post_newT R h (.cons (.int _) (.cons (.int _) .nil)) hp⟩
    · rw [if_neg c] at h; exact h.elim
  · exact h.elim) hg hm (by decide +kernel) ha hb (he := he) (he2 := he2) (hpl := hpl)
end
end Y

set_option Elab.async false
set_option linter.all false
set_option maxRecDepth 100000
set_option maxHeartbeats 4000000
namespace Y
open PySem PySem.Spec L2
set_option autoImplicit false
/-! ### storing into slots -/
section
variable {K : PySem.W.Frag} {mg : Mg} {F H F0 H0 : Hp} {e e0 : Sl} {σ σ0 : St} {v : V} {d : D} {i : Nat}
theorem get_set_of {α : Type} {l : List α} {i j : Nat} {x y : α} (h : (l.set i x)[j]? = some y) : (i = j ∧ y = x) ∨ (i ≠ j ∧ l[j]? = some y) := by
  by_cases z : i = j
  · subst z
    rw [List.getElem?_set] at h
    split at h
    · split at h
      · cases h; exact .inl ⟨rfl, rfl⟩
      · cases h
    · exact absurd rfl (by assumption)
  · rw [List.getElem?_set_ne z] at h
    exact .inr ⟨z, h⟩
theorem Rel.put (R : Rel K mg F e σ H) (r : Rep K mg F v d) (hl : i < e.length) : Rel K mg F (e.set i (.val d)) (σ.set i (some v)) H where
  sub := R.sub
  len := by rw [List.length_set, List.length_set]; exact R.len
  ok := fun j s x es ex => by
    rcases get_set_of es with ⟨rfl, rfl⟩ | ⟨n, es⟩
    · rw [List.getElem?_set_self (by rw [← R.len]; exact hl)] at ex
      cases ex
      exact ⟨v, rfl, r⟩
    · rw [List.getElem?_set_ne n] at ex
      exact R.ok j s x es ex
  inj := fun j k f g c c' b ej ek sj sk => by
    rcases get_set_of ej with ⟨_, z⟩ | ⟨n, ej⟩
    · cases z
    · rcases get_set_of ek with ⟨_, z⟩ | ⟨n', ek⟩
      · cases z
      · rw [List.getElem?_set_ne n] at sj
        rw [List.getElem?_set_ne n'] at sk
        exact R.inj j k f g c c' b ej ek sj sk
theorem own_put {o : Option V} {b : Addr} (h : Own (e.set i (.val d)) (σ.set i o) b) : Own e σ b := by
  obtain ⟨j, f, c, h1, h2⟩ := h
  rcases get_set_of h1 with ⟨_, z⟩ | ⟨n, h1⟩
  · cases z
  · rw [List.getElem?_set_ne n] at h2
    exact ⟨j, f, c, h1, h2⟩
/-- slot i may be stored to -/
def Sto (e : Sl) (i : Nat) : Prop := i < e.length ∧ ∀ c, e[i]? ≠ some (.own true c)
def sto (e : Sl) (i : Nat) : Bool := match e[i]? with
  | none => false
  | some (.own true _) => false
  | _ => true
theorem sto_ok (h : sto e i = true) : Sto e i := by
  unfold sto at h
  split at h
  · cases h
  · cases h
  · rename_i h1 h2
    refine ⟨?_, fun c q => h2 c q⟩
    cases q : e[i]? with
    | none => exact absurd q h1
    | some s => exact (List.getElem?_eq_some_iff.mp q).1
theorem Stp.put (s : Stp F0 H0 e0 σ0 F H e σ) (h : Sto e i) {o : Option V} : Stp F0 H0 e0 σ0 F H (e.set i (.val d)) (σ.set i o) where
  fro := s.fro
  kept := s.kept
  dom := s.dom
  newF := s.newF
  newO := fun b q => s.newO b (own_put q)
  fix := fun j c q => by
    obtain ⟨⟨c', q1⟩, q2⟩ := s.fix j c q
    have n : i ≠ j := fun z => by subst z; exact h.2 _ q1
    exact ⟨⟨c', by rw [List.getElem?_set_ne n]; exact q1⟩, by rw [List.getElem?_set_ne n]; exact q2⟩
  len := by rw [List.length_set]; exact s.len
theorem Rel.putOwn (R : Rel K mg F e σ H) {a : Addr} {o : HO} {c : Cont} (hF : F a = none) (hH : H a = some o) (hc : ContOk K mg F c o) (hn : ¬ Own e σ a) (hl : i < e.length) : Rel K mg F (e.set i (.own false c)) (σ.set i (some (.ref a))) H where
  sub := R.sub
  len := by rw [List.length_set, List.length_set]; exact R.len
  ok := fun j s x es ex => by
    rcases get_set_of es with ⟨rfl, rfl⟩ | ⟨n, es⟩
    · rw [List.getElem?_set_self (by rw [← R.len]; exact hl)] at ex
      cases ex
      exact ⟨a, o, rfl, hF, hH, hc⟩
    · rw [List.getElem?_set_ne n] at ex
      exact R.ok j s x es ex
  inj := fun j k f g c1 c2 b ej ek sj sk => by
    have hs : i < σ.length := by rw [← R.len]; exact hl
    rcases get_set_of ej with ⟨rfl, z⟩ | ⟨n, ej⟩
    · rcases get_set_of ek with ⟨rfl, z'⟩ | ⟨n', ek⟩
      · rfl
      · rw [List.getElem?_set_self hs] at sj
        cases sj
        rw [List.getElem?_set_ne n'] at sk
        exact absurd ⟨k, g, c2, ek, sk⟩ hn
    · rw [List.getElem?_set_ne n] at sj
      rcases get_set_of ek with ⟨rfl, z'⟩ | ⟨n', ek⟩
      · rw [List.getElem?_set_self hs] at sk
        cases sk
        exact absurd ⟨j, f, c1, ej, sj⟩ hn
      · rw [List.getElem?_set_ne n'] at sk
        exact R.inj j k f g c1 c2 b ej ek sj sk
theorem Stp.putOwn (s : Stp F0 H0 e0 σ0 F H e σ) (h : Sto e i) (hl : e.length = σ.length) {a : Addr} {c : Cont} (hN : NM H0 e0 σ0 a) : Stp F0 H0 e0 σ0 F H (e.set i (.own false c)) (σ.set i (some (.ref a))) where
  fro := s.fro
  kept := s.kept
  dom := s.dom
  newF := s.newF
  newO := fun b ⟨j, f, c', h1, h2⟩ => by
    rcases get_set_of h1 with ⟨rfl, z⟩ | ⟨n, h1⟩
    · rw [List.getElem?_set_self (by rw [← hl]; exact h.1)] at h2
      cases h2
      exact hN
    · rw [List.getElem?_set_ne n] at h2
      exact s.newO b ⟨j, f, c', h1, h2⟩
  fix := fun j c' q => by
    obtain ⟨⟨c1, q1⟩, q2⟩ := s.fix j c' q
    have n : i ≠ j := fun z => by subst z; exact h.2 _ q1
    exact ⟨⟨c1, by rw [List.getElem?_set_ne n]; exact q1⟩, by rw [List.getElem?_set_ne n]; exact q2⟩
  len := by rw [List.length_set]; exact s.len
/-- the own thing of slot i changes -/
theorem Rel.change (R : Rel K mg F e σ H) {fx : Bool} {c c' : Cont} {a : Addr} {o' : HO} (es : e[i]? = some (.own fx c)) (ex : σ[i]? = some (some (.ref a))) (hc : ContOk K mg F c' o') : Rel K mg F (e.set i (.own fx c')) σ (upd H a o') := by
  obtain ⟨a', o, h1, hF, hH, _⟩ := R.ok i _ _ es ex
  cases h1
  refine ⟨fun b u q => ?_, by rw [List.length_set]; exact R.len, fun j s x ej exj => ?_, fun j k f g c1 c2 b ej ek sj sk => ?_⟩
  · rw [upd_ne (ne_of_none q hF)]; exact R.sub b u q
  · rcases get_set_of ej with ⟨rfl, rfl⟩ | ⟨n, ej⟩
    · rw [ex] at exj; cases exj
      exact ⟨a, o', rfl, hF, upd_same, hc⟩
    · have q := R.ok j s x ej exj
      cases s with
      | no => trivial
      | val d => exact q
      | own f c2 =>
        obtain ⟨b, o2, h1, hf', hh', hc'⟩ := q
        refine ⟨b, o2, h1, hf', ?_, hc'⟩
        rw [upd_ne]
        · exact hh'
        · rintro rfl
          rw [h1] at exj
          exact n (R.inj i j _ _ _ _ _ es ej ex exj)
  · have hj : ∃ f' c'', e[j]? = some (.own f' c'') := by
      rcases get_set_of ej with ⟨rfl, z⟩ | ⟨n, ej⟩
      · exact ⟨_, _, es⟩
      · exact ⟨_, _, ej⟩
    have hk : ∃ f' c'', e[k]? = some (.own f' c'') := by
      rcases get_set_of ek with ⟨rfl, z⟩ | ⟨n, ek⟩
      · exact ⟨_, _, es⟩
      · exact ⟨_, _, ek⟩
    obtain ⟨_, _, hj⟩ := hj
    obtain ⟨_, _, hk⟩ := hk
    exact R.inj j k _ _ _ _ b hj hk sj sk
theorem Stp.change (R : Rel K mg F e σ H) (s : Stp F0 H0 e0 σ0 F H e σ) {fx : Bool} {c c' : Cont} {a : Addr} {o' : HO} (es : e[i]? = some (.own fx c)) (ex : σ[i]? = some (some (.ref a))) : Stp F0 H0 e0 σ0 F (upd H a o') (e.set i (.own fx c')) σ where
  fro := s.fro
  kept := fun b o h n => by
    have h1 := s.kept b o h n
    rw [upd_ne]
    · exact h1
    · rintro rfl
      rcases s.newO b ⟨i, fx, c, es, ex⟩ with z | z
      · rw [h] at z; cases z
      · exact n z
  dom := fun b h => by
    by_cases z : b = a
    · subst z; rw [upd_same] at h; cases h
    · rw [upd_ne z] at h; exact s.dom b h
  newF := s.newF
  newO := fun b ⟨j, f, c1, h1, h2⟩ => by
    rcases get_set_of h1 with ⟨rfl, z⟩ | ⟨n, h1⟩
    · exact s.newO b ⟨i, fx, c, es, h2⟩
    · exact s.newO b ⟨j, f, c1, h1, h2⟩
  fix := fun j c1 q => by
    obtain ⟨⟨c2, q1⟩, q2⟩ := s.fix j c1 q
    by_cases n : i = j
    · subst n
      rw [es] at q1; cases q1
      exact ⟨⟨c', by rw [List.getElem?_set_self (List.getElem?_eq_some_iff.mp es).1]⟩, q2⟩
    · exact ⟨⟨c2, by rw [List.getElem?_set_ne n]; exact q1⟩, q2⟩
  len := by rw [List.length_set]; exact s.len
theorem Rel.drop (R : Rel K mg F e σ H) : Rel K mg F (e.set i .no) σ H where
  sub := R.sub
  len := by rw [List.length_set]; exact R.len
  ok := fun j s x es ex => by
    rcases get_set_of es with ⟨rfl, rfl⟩ | ⟨n, es⟩
    · trivial
    · exact R.ok j s x es ex
  inj := fun j k f g c c' b ej ek sj sk => by
    rcases get_set_of ej with ⟨_, z⟩ | ⟨n, ej⟩
    · cases z
    · rcases get_set_of ek with ⟨_, z⟩ | ⟨n', ek⟩
      · cases z
      · exact R.inj j k f g c c' b ej ek sj sk
theorem Stp.drop (s : Stp F0 H0 e0 σ0 F H e σ) (h : ∀ c, e[i]? ≠ some (.own true c)) : Stp F0 H0 e0 σ0 F H (e.set i .no) σ where
  fro := s.fro
  kept := s.kept
  dom := s.dom
  newF := s.newF
  newO := fun b ⟨j, f, c, h1, h2⟩ => by
    rcases get_set_of h1 with ⟨_, z⟩ | ⟨n, h1⟩
    · cases z
    · exact s.newO b ⟨j, f, c, h1, h2⟩
  fix := fun j c q => by
    obtain ⟨⟨c', q1⟩, q2⟩ := s.fix j c q
    have n : i ≠ j := fun z => by subst z; exact h _ q1
    exact ⟨⟨c', by rw [List.getElem?_set_ne n]; exact q1⟩, q2⟩
  len := by rw [List.length_set]; exact s.len
end
/-! ### statements -/
def sSeq (f g : M Flo) : M Flo := fun e => match f e with
  | .ok .nx e' => g e'
  | r => r
def sNil : M Flo := M.ret .nx
def sBad : M Flo := M.bad
def sExpr (f : M RV) : M Flo := M.bind f fun _ => M.ret .nx
def sRetN : M Flo := M.ret (.rt (.val .non))
def retR (r : RV) : M Flo := fun e => match r with
  | .pk i => match e[i]? with
    | some (.val d) => .ok (.rt (.val d)) e
    | some (.own false c) => .ok (.rt (.own c)) (e.set i .no)
    | _ => .bad
  | r => .ok (.rt r) e
def sRet (f : M RV) : M Flo := M.bind f retR
def sIf (p : M Bool) (f g : M Flo) : M Flo := M.bind p fun c => if c then f else g
def stoV (i : Nat) (d : D) : M Flo := fun e => if sto e i then .ok .nx (e.set i (.val d)) else .bad
def stor (i : Nat) (r : RV) : M Flo := match r with
  | .own c => fun e => if sto e i then .ok .nx (e.set i (.own false c)) else .bad
  | r => M.bind (frz r) (stoV i)
def sSet (i : Nat) (f : M RV) : M Flo := M.bind f (stor i)
section
variable {K : PySem.W.Frag} {mg : Mg} {W : WX} {F H F1 H1 : Hp} {e e1 : Sl} {σ σ1 : St} {E E' : Ends} {α β : Type}
theorem postS_from {r : Res Flo} (s : Stp F H e σ F1 H1 e1 σ1) (h : postS K mg W F H e σ r E) : postS K mg W F1 H1 e1 σ1 r E := by
  cases r with
  | ok a e' =>
    cases a with
    | nx => exact fun σ' F' H' s' q => h σ' F' H' (s.trans s') q
    | bk => exact fun σ' F' H' s' q => h σ' F' H' (s.trans s') q
    | ct => exact fun σ' F' H' s' q => h σ' F' H' (s.trans s') q
    | rt r => exact fun v σ' F' H' s' q w => h v σ' F' H' (s.trans s') q (w.imp fun x z => s.nm z)
  | ex x e' => exact fun cls d σ' F' H' s' q w => h cls d σ' F' H' (s.trans s') q w
  | bad => exact h
theorem postS_imp {r : Res Flo} (h : postS K mg W F H e σ r E) (i1 : ∀ σ H, E.nx σ H → E'.nx σ H) (i2 : ∀ v H, E.rt v H → E'.rt v H) (i3 : ∀ σ H, E.bk σ H → E'.bk σ H) (i4 : ∀ σ H, E.ct σ H → E'.ct σ H) : postS K mg W F H e σ r E' := by
  cases r with
  | ok a e' =>
    cases a with
    | nx => exact fun σ' F' H' s' q => i1 _ _ (h σ' F' H' s' q)
    | bk => exact fun σ' F' H' s' q => i3 _ _ (h σ' F' H' s' q)
    | ct => exact fun σ' F' H' s' q => i4 _ _ (h σ' F' H' s' q)
    | rt r => exact fun v σ' F' H' s' q w => i2 _ _ (h v σ' F' H' s' q w)
  | ex x e' => exact h
  | bad => exact h
/-- an expression, then what is done with its value; told from the start -/
theorem postS_seq {R1 : RR α β} {f : M α} {k : α → M Flo} (h : postS K mg W F H e σ (M.bind f k e) E) :
    post K mg W R1 F H e σ (f e) (fun b H1 => ∃ a e1 F1, R1 (NM H e σ) F1 H1 e1 σ b a ∧ Rel K mg F1 e1 σ H1 ∧ Stp F H e σ F1 H1 e1 σ ∧ postS K mg W F H e σ (k a e1) E) := by
  unfold M.bind at h
  cases q : f e with
  | ok a e' =>
    rw [q] at h
    exact fun b F' H' s r w => ⟨a, e', F', w, r, s, h⟩
  | ex x e' => rw [q] at h; exact fun cls d F' H' s r w => h cls d σ F' H' s r w
  | bad => rw [q] at h; exact h
theorem sSeq_ok {f g : M Flo} (h : cS K mg W (sSeq f g) E σ H) : cS K mg W f { E with nx := cS K mg W g E } σ H := by
  obtain ⟨e, F, R, h⟩ := h
  refine ⟨e, F, R, ?_⟩
  unfold sSeq at h
  cases q : f e with
  | ok a e' =>
    rw [q] at h
    cases a with
    | nx => exact fun σ' F' H' s r => ⟨e', F', r, postS_from s h⟩
    | bk => exact h
    | ct => exact h
    | rt r => exact h
  | ex x e' => rw [q] at h; exact h
  | bad => rw [q] at h; exact h
end
section
variable {X : Cx} {W : WX} {a b c : Expr} {st : Stmt} {sts sts' : List Stmt} {f g : M RV} {p : M Bool} {s t : M Flo} {pos pos' : Pos}
theorem dss_nil : DSs X W [] sNil := pssW pss_nil fun E σ H ⟨e, F, R, h⟩ => h σ F H Stp.refl R
theorem dss_cons (h1 : DS X W st s) (h2 : DSs X W sts t) : DSs X W (st :: sts) (sSeq s t) := pssW (pss_cons h1 h2) fun _ _ _ h => sSeq_ok h
theorem dss_one (h1 : DS X W st s) : DSs X W [st] s := pss_one h1
theorem ds_bad : DS X W st sBad := psW ps_never fun _ _ _ ⟨_, _, _, h⟩ => h
theorem ds_pass : DS X W (.Pass pos) sNil := psW ps_pass fun E σ H ⟨e, F, R, h⟩ => h σ F H Stp.refl R
theorem ds_break : DS X W (.Break pos) (M.ret .bk) := psW ps_break fun E σ H ⟨e, F, R, h⟩ => h σ F H Stp.refl R
theorem ds_continue : DS X W (.Continue pos) (M.ret .ct) := psW ps_continue fun E σ H ⟨e, F, R, h⟩ => h σ F H Stp.refl R
theorem ds_retN : DS X W (.Return none pos) sRetN := psW ps_retN fun E σ H ⟨e, F, R, h⟩ => h .non σ F H Stp.refl R .non
theorem ds_expr (ha : DE X W a f) (hs : swapsWith a none pos.line X.env = pure false := by rfl) : DS X W (.Expr a pos) (sExpr f) := psW (ps_expr ha hs) fun E σ H ⟨e, F, R, h⟩ => by
  refine ⟨e, F, R, post_imp (postS_seq h) ?_⟩
  rintro v H1 ⟨r, e1, F1, q1, R1, s1, h1⟩
  exact h1 σ F1 H1 s1 R1
theorem ds_ret (ha : DE X W a f) : DS X W (.Return (some a) pos) (sRet f) := psW (ps_ret ha) fun E σ H ⟨e, F, R, h⟩ => by
  refine ⟨e, F, R, post_imp (postS_seq h) ?_⟩
  rintro v H1 ⟨r, e1, F1, q1, R1, s1, h1⟩
  cases r with
  | val d => exact h1 v σ F1 H1 s1 R1 q1
  | own c => exact h1 v σ F1 H1 s1 R1 q1
  | pk i =>
    unfold retR at h1
    dsimp only at h1
    have q1 : σ[i]? = some (some v) := q1
    split at h1
    · rename_i d es
      obtain ⟨u, h2, h3⟩ := R1.ok i _ _ es q1
      cases h2
      exact h1 v σ F1 H1 s1 R1 h3
    · rename_i c es
      obtain ⟨p, o, h2, hF, hH, hc⟩ := R1.ok i _ _ es q1
      cases h2
      refine h1 _ σ F1 H1 (s1.drop fun c' z => by rw [es] at z; cases z) R1.drop ⟨p, o, rfl, hF, hH, hc, ?_, s1.newO p ⟨i, false, c, es, q1⟩⟩
      rintro ⟨j, f, c', h3, h4⟩
      rcases get_set_of h3 with ⟨_, z⟩ | ⟨n, h3⟩
      · cases z
      · exact n (R1.inj i j _ _ _ _ _ es h3 q1 h4)
    · exact h1.elim
theorem ds_if (hc : DT X W c p) (ha : DSs X W sts s) (hb : DSs X W sts' t) : DS X W (.If c sts sts' pos) (sIf p s t) := psW (ps_if hc ha hb) fun E σ H ⟨e, F, R, h⟩ => by
  refine ⟨e, F, R, post_imp (postS_seq h) ?_⟩
  rintro b H1 ⟨b', e1, F1, q1, R1, s1, h1⟩
  cases q1
  cases b with
  | true => exact iteT ⟨e1, F1, R1, postS_from s1 h1⟩
  | false => exact iteF ⟨e1, F1, R1, postS_from s1 h1⟩
/-- what stor does -/
theorem stor_ok {K : PySem.W.Frag} {mg : Mg} {F H F0 H0 : Hp} {e e0 : Sl} {σ σ0 : St} {E : Ends} {i : Nat} {r : RV} {v : V} (R : Rel K mg F e σ H) (q : RVOk K mg (NM H0 e0 σ0) F H e σ v r) (s0 : Stp F0 H0 e0 σ0 F H e σ)
    (h : postS K mg W F0 H0 e0 σ0 (stor i r e) E) : E.nx (σ.set i (some v)) H := by
  have val : ∀ d e', frz r e = .ok d e' → postS K mg W F0 H0 e0 σ0 (stoV i d e') E → E.nx (σ.set i (some v)) H := fun d e' w h => by
    obtain ⟨F2, s2, R2, q2⟩ := frz_ok R q w s0
    unfold stoV at h
    split at h
    · rename_i z
      exact h _ F2 H (s2.put (sto_ok z)) (R2.put q2 (sto_ok z).1)
    · exact h.elim
  cases r with
  | own c =>
    unfold stor at h
    dsimp only at h
    obtain ⟨a, o, rfl, hF, hH, hc, hn, hN⟩ := q
    split at h
    · rename_i z
      exact h _ F H (s0.putOwn (sto_ok z) R.len hN) (R.putOwn hF hH hc hn (sto_ok z).1)
    · exact h.elim
  | val d => exact val d e rfl h
  | pk j =>
    unfold stor M.bind at h
    dsimp only at h
    cases w : frz (.pk j) e with
    | ok d e' => rw [w] at h; exact val d e' w h
    | ex x e' => exact (frz_noex w).elim
    | bad => rw [w] at h; exact h.elim
theorem ds_set (i : Nat) {x : Str} (ha : DE X W a f) (hN : X.N.Nodup) (hi : X.N[i]? = some x := by rfl) (hx : Loc X.env.scope x := by first | exact Or.inl rfl | exact Or.inr rfl) (hs : swapsWith a (some (.Name x pos')) pos.line X.env = pure false := by rfl)
    (hf : X.fn x = true ∨ X.env.scope.names.lookup x = some .local := by first | exact .inl rfl | exact .inr rfl) : DS X W (.Assign [.Name x pos'] a pos) (sSet i f) := psW (ps_set hN hi hx ha hs hf) fun E σ H ⟨e, F, R, h⟩ => by
  refine ⟨e, F, R, post_imp (postS_seq h) ?_⟩
  rintro v H1 ⟨r, e1, F1, q1, R1, s1, h1⟩
  exact stor_ok R1 q1 s1 h1
end
end Y

set_option Elab.async false
set_option linter.all false
set_option maxRecDepth 100000
set_option maxHeartbeats 4000000
namespace Y
open PySem PySem.Spec L2
set_option autoImplicit false
/-! ### several values at once, new things kept -/
def aO (f : M RV) : M RV := M.bind f fun r => match r with
  | .own c => M.ret (.own c)
  | r => M.bind (frz r) fun d => M.ret (.val d)
def Fr1 (r : RV) (v : V) (a : Addr) : Prop := (∃ c, r = .own c) ∧ v = .ref a
inductive Args2 (K : PySem.W.Frag) (mg : Mg) (N : Addr → Prop) (F H : Hp) (e : Sl) (σ : St) : List V → List RV → Prop
  | nil : Args2 K mg N F H e σ [] []
  | cons {v : V} {vs : List V} {r : RV} {rs : List RV} : RVOk K mg N F H e σ v r → (∀ i, r ≠ .pk i) → Args2 K mg N F H e σ vs rs →
      (∀ (a : Addr) (j : Nat) (w : V) (s : RV), Fr1 r v a → vs[j]? = some w → rs[j]? = some s → ¬ Fr1 s w a) → Args2 K mg N F H e σ (v :: vs) (r :: rs)
/-- the new things among the values -/
def NewIn (vs : List V) (rs : List RV) (a : Addr) : Prop := ∃ (j : Nat) (w : V) (s : RV), vs[j]? = some w ∧ rs[j]? = some s ∧ Fr1 s w a
section
variable {K : PySem.W.Frag} {mg : Mg} {N N' : Addr → Prop} {F F1 H H1 : Hp} {e e1 : Sl} {σ : St}
theorem Args2.step (s : Stp F H e σ F1 H1 e1 σ) : ∀ {vs : List V} {rs : List RV}, Args2 K mg N F H e σ vs rs → Args2 K mg N F1 H1 e1 σ vs rs
  | _, _, .nil => .nil
  | _, _, .cons a b c d => .cons (a.step s) b (Args2.step s c) d
theorem Args2.imp (g : ∀ a, N a → N' a) : ∀ {vs : List V} {rs : List RV}, Args2 K mg N F H e σ vs rs → Args2 K mg N' F H e σ vs rs
  | _, _, .nil => .nil
  | _, _, .cons a b c d => .cons (a.imp g) b (Args2.imp g c) d
theorem Args2.new {a : Addr} : ∀ {vs : List V} {rs : List RV}, Args2 K mg N F H e σ vs rs → NewIn vs rs a → N a
  | _, _, .nil, ⟨j, w, s, h1, _⟩ => by simp at h1
  | _, _, .cons p b c d, ⟨0, w, s, h1, h2, ⟨⟨c', hc⟩, hv⟩⟩ => by
    simp at h1 h2
    subst h1 h2 hc hv
    obtain ⟨a', o, e, _, _, _, _, hN⟩ := p
    cases e
    exact hN
  | _, _, .cons p b c d, ⟨j + 1, w, s, h1, h2, h3⟩ => Args2.new c ⟨j, w, s, by simpa using h1, by simpa using h2, h3⟩
abbrev rA2 (K : PySem.W.Frag) (mg : Mg) : RR (List RV) (List V) := fun N F H e σ vs rs => Args2 K mg N F H e σ vs rs
theorem up_A2 : Up (rA2 K mg) := fun _ _ _ _ _ _ _ _ i h => h.imp i
end
abbrev DA2 (X : Cx) (W : WX) (es : List Expr) (f : M (List RV)) : Prop := PA X es (cG X.K X.mg W (rA2 X.K X.mg) f)
section
variable {K : PySem.W.Frag} {mg : Mg} {W : WX} {F F2 H H2 : Hp} {e e2 : Sl} {σ σ2 : St} {α β γ δ : Type} {R1 : RR α β} {R2 : RR γ δ}
/-- one more step, all told from the first start -/
theorem post_seqG {f : M α} {k : α → M γ} {Q : δ → Hp → Prop} (s : Stp F H e σ F2 H2 e2 σ) (h : post K mg W R2 F H e σ (M.bind f k e2) Q) :
    post K mg W R1 F2 H2 e2 σ (f e2) (fun b H1 => ∃ a e1 F1, R1 (NM H2 e2 σ) F1 H1 e1 σ b a ∧ Rel K mg F1 e1 σ H1 ∧ Stp F2 H2 e2 σ F1 H1 e1 σ ∧ post K mg W R2 F H e σ (k a e1) Q) := by
  unfold M.bind at h
  cases q : f e2 with
  | ok a e' =>
    rw [q] at h
    exact fun b F' H' s r w => ⟨a, e', F', w, r, s, h⟩
  | ex x e' => rw [q] at h; exact fun cls d F' H' s' r w => h cls d F' H' (s.trans s') r w
  | bad => rw [q] at h; exact h
theorem postS_seqG {f : M α} {k : α → M Flo} {E : Ends} (s : Stp F H e σ F2 H2 e2 σ2) (h : postS K mg W F H e σ (M.bind f k e2) E) :
    post K mg W R1 F2 H2 e2 σ2 (f e2) (fun b H1 => ∃ a e1 F1, R1 (NM H2 e2 σ2) F1 H1 e1 σ2 b a ∧ Rel K mg F1 e1 σ2 H1 ∧ Stp F2 H2 e2 σ2 F1 H1 e1 σ2 ∧ postS K mg W F H e σ (k a e1) E) := by
  unfold M.bind at h
  cases q : f e2 with
  | ok a e' =>
    rw [q] at h
    exact fun b F' H' s r w => ⟨a, e', F', w, r, s, h⟩
  | ex x e' => rw [q] at h; exact fun cls d F' H' s' r w => h cls d σ2 F' H' (s.trans s') r w
  | bad => rw [q] at h; exact h
end
section
variable {X : Cx} {W : WX} {a b c : Expr} {es : List Expr} {f g h : M RV} {fs : M (List RV)} {pos pos' : Pos}
theorem da2_nil : DA2 X W [] aNil := paW pa_nil fun σ H Q ⟨e, F, R, h⟩ => post_ret R h .nil
theorem da2_cons (ha : DE X W a f) (hr : DA2 X W es fs) (hs : starEach (a :: es) X.env = (false, eval a X.env) :: starEach es X.env := by rfl) : DA2 X W (a :: es) (aCons (aO f) fs) :=
  paW (pa_cons ha hr hs) fun σ H Q ⟨e, F, R, h⟩ => by
    unfold aCons aO at h
    rw [bind_assoc] at h
    refine ⟨e, F, R, post_imp (post_seq0 h) ?_⟩
    rintro x H1 ⟨r1, e1, F1, q1, R1, s1, h1⟩
    have fin : ∀ (r : RV) (e2 : Sl) (F2 : Hp), (∀ i, r ≠ .pk i) → Rel X.K X.mg F2 e2 σ H1 → Stp F H e σ F2 H1 e2 σ → RVOk X.K X.mg (NM H e σ) F2 H1 e2 σ x r → post X.K X.mg W (rA2 X.K X.mg) F H e σ ((M.bind fs fun rs => M.ret (r :: rs)) e2) Q →
        cG X.K X.mg W (rA2 X.K X.mg) fs σ H1 fun xs H2 => Q (x :: xs) H2 := fun r e2 F2 hr R2 s2 q2 h2 => by
      refine ⟨e2, F2, R2, post_imp (post_seqG (R1 := rA2 X.K X.mg) s2 h2) ?_⟩
      rintro xs H3 ⟨rs, e3, F3, q3, R3, s3, h3⟩
      refine h3 (x :: xs) F3 H3 (s2.trans s3) R3 (.cons (q2.step s3) hr (q3.imp fun a z => s2.nm z) ?_)
      rintro a j w s ⟨⟨c, rfl⟩, rfl⟩ hw hs hf
      obtain ⟨a', o, e', _, hH, _, hn, _⟩ := q2
      cases e'
      rcases q3.new ⟨j, w, s, hw, hs, hf⟩ with z | z
      · rw [hH] at z; cases z
      · exact hn z
    have val : ∀ d e', frz r1 e1 = .ok d e' → post X.K X.mg W (rA2 X.K X.mg) F H e σ ((M.bind fs fun rs => M.ret (RV.val d :: rs)) e') Q → cG X.K X.mg W (rA2 X.K X.mg) fs σ H1 fun xs H2 => Q (x :: xs) H2 := fun d e' w h2 => by
      obtain ⟨F2, s2, R2, q2⟩ := frz_ok R1 q1 w s1
      exact fin (.val d) e' F2 (fun i z => by cases z) R2 s2 q2 h2
    cases r1 with
    | own c => exact fin (.own c) e1 F1 (fun i z => by cases z) R1 s1 q1 h1
    | val d => exact val d e1 rfl h1
    | pk i =>
      have z := h1
      unfold M.bind at z
      cases w : frz (.pk i) e1 with
      | ok d e' =>
        refine val d e' w ?_
        dsimp only at z
        rw [w] at z
        exact z
      | ex x e' => exact (frz_noex w).elim
      | bad => dsimp only at z; rw [w] at z; exact z.elim
/-! storing all of them -/
def storAll : List Nat → List RV → M Flo
  | [], [] => sNil
  | i :: is, r :: rs => sSeq (stor i r) (storAll is rs)
  | _, _ => sBad
def setAll (σ : St) : List Nat → List V → St
  | i :: is, v :: vs => setAll (σ.set i (some v)) is vs
  | _, _ => σ
/-- stor, told as a step -/
theorem stor_step {K : PySem.W.Frag} {mg : Mg} {F H F0 H0 : Hp} {e e0 e' : Sl} {σ σ0 : St} {i : Nat} {r : RV} {v : V} (R : Rel K mg F e σ H) (q : RVOk K mg (NM H0 e0 σ0) F H e σ v r) (s0 : Stp F0 H0 e0 σ0 F H e σ) (w : stor i r e = .ok .nx e') :
    ∃ F', Stp F0 H0 e0 σ0 F' H e' (σ.set i (some v)) ∧ Rel K mg F' e' (σ.set i (some v)) H ∧ Same F F' ∧ (∀ b, Own e' (σ.set i (some v)) b → Own e σ b ∨ Fr1 r v b) ∧ (∀ b, F b = none → F' b ≠ none → Own e σ b ∨ Fr1 r v b) := by
  have val : ∀ d e2, frz r e = .ok d e2 → stoV i d e2 = .ok .nx e' → (∀ c, r ≠ .own c) → ∃ F', Stp F0 H0 e0 σ0 F' H e' (σ.set i (some v)) ∧ Rel K mg F' e' (σ.set i (some v)) H ∧ Same F F' ∧ (∀ b, Own e' (σ.set i (some v)) b → Own e σ b ∨ Fr1 r v b) ∧ (∀ b, F b = none → F' b ≠ none → Own e σ b ∨ Fr1 r v b) := fun d e2 w h hr => by
    have q' : RVOk K mg (NM H e σ) F H e σ v r := by
      cases r with
      | val d => exact q
      | pk j => exact q
      | own c => exact absurd rfl (hr c)
    obtain ⟨F3, s3, R3, q3⟩ := frz_ok R q' w Stp.refl
    unfold stoV at h
    split at h
    · rename_i z
      cases h
      refine ⟨F3, (s0.trans s3).put (sto_ok z), R3.put q3 (sto_ok z).1, s3.fro, fun b hb => .inl ?_, fun b h1 h2 => .inl ?_⟩
      · rcases s3.newO b (own_put hb) with y | y
        · obtain ⟨j, f, c, h3, h4⟩ := own_put hb
          obtain ⟨a', o, e'', _, hH, _⟩ := R3.ok j _ _ h3 h4
          cases e''
          rw [y] at hH; cases hH
        · exact y
      · rcases s3.newF b h1 h2 with y | y
        · cases z3 : F3 b with
          | none => exact absurd z3 h2
          | some u => have := R3.sub b u z3; rw [y] at this; cases this
        · exact y
    · cases h
  cases r with
  | own c =>
    unfold stor at w
    dsimp only at w
    obtain ⟨a, o, rfl, hF, hH, hc, hn, hN⟩ := q
    split at w
    · rename_i z
      cases w
      refine ⟨F, s0.putOwn (sto_ok z) R.len hN, R.putOwn hF hH hc hn (sto_ok z).1, Same.refl _, ?_, fun b h1 h2 => absurd h1 h2⟩
      rintro b ⟨j, f, c', h1, h2⟩
      rcases get_set_of h1 with ⟨rfl, y⟩ | ⟨n, h1⟩
      · rw [List.getElem?_set_self (by rw [← R.len]; exact (sto_ok z).1)] at h2
        cases h2
        exact .inr ⟨⟨c, rfl⟩, rfl⟩
      · rw [List.getElem?_set_ne n] at h2
        exact .inl ⟨j, f, c', h1, h2⟩
    · cases w
  | val d => exact val d e rfl w (fun c z => by cases z)
  | pk j =>
    unfold stor M.bind at w
    dsimp only at w
    cases y : frz (.pk j) e with
    | ok d e2 => rw [y] at w; exact val d e2 y w (fun c z => by cases z)
    | ex x e' => exact (frz_noex y).elim
    | bad => rw [y] at w; cases w
theorem stor_nx {e : Sl} {i : Nat} {r : RV} : stor i r e = .bad ∨ ∃ e', stor i r e = .ok .nx e' := by
  have val : ∀ d e2, stoV i d e2 = .bad ∨ ∃ e', stoV i d e2 = .ok .nx e' := fun d e2 => by
    unfold stoV
    split
    · exact .inr ⟨_, rfl⟩
    · exact .inl rfl
  cases r with
  | own c =>
    unfold stor
    dsimp only
    split
    · exact .inr ⟨_, rfl⟩
    · exact .inl rfl
  | val d => exact val d e
  | pk j =>
    unfold stor M.bind
    dsimp only
    cases y : frz (.pk j) e with
    | ok d e2 => exact val d e2
    | ex x e' => exact (frz_noex y).elim
    | bad => exact .inl rfl
theorem storAll_ok {K : PySem.W.Frag} {mg : Mg} {F0 H0 H : Hp} {e0 : Sl} {σ0 : St} {E : Ends} : ∀ {is : List Nat} {rs : List RV} {vs : List V} {F : Hp} {e : Sl} {σ : St}, Rel K mg F e σ H → Args2 K mg (NM H0 e0 σ0) F H e σ vs rs → Stp F0 H0 e0 σ0 F H e σ →
    postS K mg W F0 H0 e0 σ0 (storAll is rs e) E → E.nx (setAll σ is vs) H
  | [], _, _, F, e, σ, R, .nil, s, h => h σ F H s R
  | [], _, _, F, e, σ, R, .cons _ _ _ _, s, h => h.elim
  | i :: is, _, _, F, e, σ, R, .nil, s, h => h.elim
  | i :: is, _, _, F, e, σ, R, .cons (v := v) (r := r) (vs := vs) (rs := rs) q hr t dd, s, h => by
    unfold storAll sSeq at h
    rcases stor_nx (e := e) (i := i) (r := r) with w | ⟨e', w⟩
    · rw [w] at h; exact h.elim
    · rw [w] at h
      obtain ⟨F', s', R', sm, nO, nF⟩ := stor_step R q s w
      refine storAll_ok (vs := vs) (rs := rs) R' ?_ s' h
      have hop : ∀ b, Own e σ b ∨ Fr1 r v b → ∀ j w s, vs[j]? = some w → rs[j]? = some s → Fr1 s w b → False := fun b hb j w s h1 h2 h3 => by
        rcases hb with hb | hb
        · have ok : ∀ {vs : List V} {rs : List RV} {j : Nat}, Args2 K mg (NM H0 e0 σ0) F H e σ vs rs → vs[j]? = some w → rs[j]? = some s → RVOk K mg (NM H0 e0 σ0) F H e σ w s := by
            intro vs rs j A
            induction A generalizing j with
            | nil => intro z; simp at z
            | cons p _ _ _ ih =>
              cases j with
              | zero => intro z z'; simp at z z'; subst z z'; exact p
              | succ j => intro z z'; exact ih (by simpa using z) (by simpa using z')
          have z := ok t h1 h2
          obtain ⟨⟨c, rfl⟩, rfl⟩ := h3
          obtain ⟨a', o, e'', _, _, _, hn, _⟩ := z
          cases e''
          exact hn hb
        · exact dd b j w s hb h1 h2 h3
      have go : ∀ {vs : List V} {rs : List RV}, Args2 K mg (NM H0 e0 σ0) F H e σ vs rs → (∀ b, Own e σ b ∨ Fr1 r v b → ∀ (j : Nat) w s, vs[j]? = some w → rs[j]? = some s → Fr1 s w b → False) → Args2 K mg (NM H0 e0 σ0) F' H e' (σ.set i (some v)) vs rs := by
        intro vs rs A
        induction A with
        | nil => intro _; exact .nil
        | cons p1 p2 _ p4 ih =>
          rename_i v1 vs1 r1 rs1 _
          intro ho
          refine .cons ?_ p2 (ih fun b hb j w s h1 h2 h3 => ho b hb (j + 1) w s (by simpa using h1) (by simpa using h2) h3) p4
          cases r1 with
          | val d => exact Rep.mono sm p1
          | pk k => exact absurd rfl (p2 k)
          | own c =>
            obtain ⟨a', o, rfl, hF, hH, hc, hn, hN⟩ := p1
            have na : ¬ (Own e σ a' ∨ Fr1 r v a') := fun z => ho a' z 0 _ _ rfl rfl ⟨⟨c, rfl⟩, rfl⟩
            refine ⟨a', o, rfl, ?_, hH, hc.mono sm, fun z => na (nO a' z), hN⟩
            cases z : F' a' with
            | none => rfl
            | some u => exact absurd (nF a' hF (by rw [z]; exact fun y => nomatch y)) na
      exact go t hop
def sPar (is : List Nat) (fs : M (List RV)) : M Flo := M.bind fs (storAll is)
theorem sPar_ok {K : PySem.W.Frag} {mg : Mg} {is : List Nat} {E : Ends} {σ : St} {H : Hp} (h : cS K mg W (sPar is fs) E σ H) : cG K mg W (rA2 K mg) fs σ H fun vs H1 => E.nx (setAll σ is vs) H1 := by
  obtain ⟨e, F, R, h⟩ := h
  refine ⟨e, F, R, post_imp (postS_seq h) ?_⟩
  rintro vs H1 ⟨rs, e1, F1, q1, R1, s1, h1⟩
  exact storAll_ok R1 q1 s1 h1
theorem storAll_len {is : List Nat} : ∀ {rs : List RV} {e : Sl}, storAll is rs e ≠ .bad → is.length = rs.length := by
  induction is with
  | nil => intro rs e h; cases rs with
    | nil => rfl
    | cons r rs => exact absurd rfl h
  | cons i is ih => intro rs e h; cases rs with
    | nil => exact absurd rfl h
    | cons r rs =>
      unfold storAll sSeq at h
      rcases stor_nx (e := e) (i := i) (r := r) with w | ⟨e', w⟩
      · rw [w] at h; exact absurd rfl h
      · rw [w] at h; rw [List.length_cons, List.length_cons, ih h]
theorem Args2.len {K : PySem.W.Frag} {mg : Mg} {N : Addr → Prop} {F H : Hp} {e : Sl} {σ : St} : ∀ {vs : List V} {rs : List RV}, Args2 K mg N F H e σ vs rs → vs.length = rs.length
  | _, _, .nil => rfl
  | _, _, .cons _ _ t _ => congrArg (· + 1) t.len
theorem sPar_len {K : PySem.W.Frag} {mg : Mg} {is : List Nat} {E : Ends} {σ : St} {H : Hp} (h : cS K mg W (sPar is fs) E σ H) : cG K mg W (rA2 K mg) fs σ H fun vs H1 => vs.length = is.length ∧ E.nx (setAll σ is vs) H1 := by
  obtain ⟨e, F, R, h⟩ := h
  refine ⟨e, F, R, post_imp (postS_seq h) ?_⟩
  rintro vs H1 ⟨rs, e1, F1, q1, R1, s1, h1⟩
  refine ⟨?_, storAll_ok R1 q1 s1 h1⟩
  rw [q1.len]
  exact (storAll_len fun z => by rw [z] at h1; exact h1).symm
theorem ds_par2 (i j : Nat) {x y : Str} {px py pt pt2 : Pos} {kt k2 : Nat} (hc : X.calm = true) (hN : X.N.Nodup) (ha : DA2 X W [a, b] fs) (hi : X.N[i]? = some x := by rfl) (hj : X.N[j]? = some y := by rfl) (hij : i ≠ j := by decide)
    (hx : X.env.scope.names.lookup x = some .local := by rfl) (hy : X.env.scope.names.lookup y = some .local := by rfl)
    (hw : swappedStores [.Tuple [.Name x px, .Name y py] kt pt] (.Tuple [a, b] k2 pt2) X.env = pure (some [x, y]) := by rfl) (hs : swapsWithSole [.Tuple [.Name x px, .Name y py] kt pt] (.Tuple [a, b] k2 pt2) pos.line X.env = pure false := by rfl) :
    DS X W (.Assign [.Tuple [.Name x px, .Name y py] kt pt] (.Tuple [a, b] k2 pt2) pos) (sPar [i, j] fs) := psW (ps_par hc hN hi hj hij hx hy ha hw hs) fun E σ H h => by
  obtain ⟨e, F, R, z⟩ := sPar_len h
  refine ⟨e, F, R, post_imp z ?_⟩
  rintro vs H1 ⟨hl, q⟩
  match vs, hl, q with
  | [v, w], _, q => exact ⟨v, w, rfl, q⟩
theorem ds_par3 (i j l : Nat) {x y z : Str} {px py pz pt pt2 : Pos} {kt k2 : Nat} (hc : X.calm = true) (hN : X.N.Nodup) (ha : DA2 X W [a, b, c] fs) (hi : X.N[i]? = some x := by rfl) (hj : X.N[j]? = some y := by rfl) (hl : X.N[l]? = some z := by rfl) (hij : i ≠ j := by decide) (hil : i ≠ l := by decide) (hjl : j ≠ l := by decide)
    (hx : X.env.scope.names.lookup x = some .local := by rfl) (hy : X.env.scope.names.lookup y = some .local := by rfl) (hz : X.env.scope.names.lookup z = some .local := by rfl)
    (hw : swappedStores [.Tuple [.Name x px, .Name y py, .Name z pz] kt pt] (.Tuple [a, b, c] k2 pt2) X.env = pure (some [x, y, z]) := by rfl) (hs : swapsWithSole [.Tuple [.Name x px, .Name y py, .Name z pz] kt pt] (.Tuple [a, b, c] k2 pt2) pos.line X.env = pure false := by rfl) :
    DS X W (.Assign [.Tuple [.Name x px, .Name y py, .Name z pz] kt pt] (.Tuple [a, b, c] k2 pt2) pos) (sPar [i, j, l] fs) := psW (ps_par3 hc hN hi hj hl hij hil hjl hx hy hz ha hw hs) fun E σ H h => by
  obtain ⟨e, F, R, z⟩ := sPar_len h
  refine ⟨e, F, R, post_imp z ?_⟩
  rintro vs H1 ⟨hl, q⟩
  match vs, hl, q with
  | [v, w, u], _, q => exact ⟨v, w, u, rfl, q⟩
end
end Y

set_option Elab.async false
set_option linter.all false
set_option maxRecDepth 100000
set_option maxHeartbeats 4000000
namespace Y
open PySem PySem.Spec L2
set_option autoImplicit false
/-! ### lists that grow or change -/
def sApp (i : Nat) (f : M RV) : M Flo := fun e => match e[i]? with
  | some (.own _ (.lst _)) => (M.bind f fun r => M.bind (frz r) fun d => fun e => match e[i]? with
    | some (.own fx (.lst xs)) => if xs.length < sizeLine then .ok .nx (e.set i (.own fx (.lst (xs ++ [d])))) else .bad
    | _ => .bad) e
  | _ => .bad
/-- slot i [ index ] = value -/
def sSetIx (i : Nat) (fv fx : M RV) : M Flo := M.bind fv fun r => M.bind (frz r) fun d => fun e => match e[i]? with
  | some (.own _ (.lst _)) => (M.bind fx fun r' => fun e => match rdat e r', e[i]? with
    | some (.int k), some (.own b (.lst xs)) => (match ixN xs.length k with
      | some j => .ok .nx (e.set i (.own b (.lst (xs.set j d))))
      | none => .bad)
    | _, _ => .bad) e
  | _ => .bad
section
variable {X : Cx} {W : WX} {a b c : Expr} {es : List Expr} {f g h : M RV} {pos pos' pos'' apos cpos : Pos} {x : Str}
theorem own_at {K : PySem.W.Frag} {mg : Mg} {F H : Hp} {e : Sl} {σ : St} {i : Nat} {fx : Bool} {c : Cont} (R : Rel K mg F e σ H) (es : e[i]? = some (.own fx c)) : ∃ p o, σ[i]? = some (some (.ref p)) ∧ H p = some o ∧ ContOk K mg F c o := by
  have hl : i < σ.length := by rw [← R.len]; exact (List.getElem?_eq_some_iff.mp es).1
  obtain ⟨p, o, h1, _, hH, hc⟩ := R.ok i _ _ es (List.getElem?_eq_getElem hl)
  exact ⟨p, o, by rw [List.getElem?_eq_getElem hl, h1], hH, hc⟩
theorem ds_app (i : Nat) (ha : DE X W a f) (hN : X.N[i]? = some x := by rfl) (hv : Vis X.env.scope x := by first | exact Or.inl rfl | exact Or.inr (Or.inl rfl) | exact Or.inr (Or.inr rfl)) (hd : (x == ("__debug__" : Str)) = false := by decide)
    (hcd : (x == ("__classdict__" : Str)) = false := by decide) (hline : (apos.endLine == cpos.line) = true := by rfl) (hs : starEach [a] X.env = (false, eval a X.env) :: starEach [] X.env := by rfl)
    (hfew : ((backTo cpos (starEach [a] X.env)).all (fun x => !x.1) && (backToKw cpos (keywordEach [] X.env)).all (fun x => x.1.isSome) && decide ([a].length + ([] : List Keyword).length + (if ([] : List Keyword).isEmpty then 0 else 1) < 30)) = true := by rfl)
    (hsw : swapsWith (.Call (.Attribute (.Name x pos') "append" apos) [a] [] cpos) none pos.line X.env = pure false := by rfl) :
    DS X W (.Expr (.Call (.Attribute (.Name x pos') "append" apos) [a] [] cpos) pos) (sApp i f) :=
  psW (ps_expr (pe_bm PySem.F.plainAttrs_list PySem.F.slot_list_append PySem.F.type_list_append mt_append (pe_var hN hv hd hcd) (pa_cons ha pa_nil hs) rfl hfew hline hs rfl) hsw) fun E σ H ⟨e, F, R, h⟩ => by
    unfold sApp at h
    split at h
    · rename_i fx xs0 es
      obtain ⟨p, o, hp, hH, vs0, rfl, r0⟩ := own_at R es
      refine ⟨_, hp, .inl ⟨rfl, _, SqL.of hH⟩, e, F, R, post_imp (postS_seq h) ?_⟩
      rintro y H1 ⟨r, e1, F1, q1, R1, s1, h1⟩
      cases w : frz r e1 with
      | bad => unfold M.bind at h1; rw [w] at h1; exact h1.elim
      | ex x e' => exact (frz_noex w).elim
      | ok d e2 =>
        unfold M.bind at h1
        rw [w] at h1
        obtain ⟨F2, s2, R2, q2⟩ := frz_ok R1 q1 w s1
        dsimp only at h1
        split at h1
        · rename_i fx' xs es2
          obtain ⟨p', o', hp', hH', vs, rfl, rv⟩ := own_at R2 es2
          rw [hp] at hp'; cases hp'
          split at h1
          · rename_i hz
            refine ⟨p, vs, y, rfl, rfl, hH', by rw [rv.length]; exact hz, ?_⟩
            exact h1 σ F2 _ (s2.change R2 es2 hp) (R2.change es2 hp ⟨_, rfl, rv.append (.cons q2 .nil)⟩)
          · exact h1.elim
        · exact h1.elim
    · exact h.elim
theorem ds_setIx (i : Nat) (hf : DE X W a f) (hg : DE X W b g) (hN : X.N[i]? = some x := by rfl) (hv : Vis X.env.scope x := by first | exact Or.inl rfl | exact Or.inr (Or.inl rfl) | exact Or.inr (Or.inr rfl)) (hd : (x == ("__debug__" : Str)) = false := by decide)
    (hcd : (x == ("__classdict__" : Str)) = false := by decide)
    (ha : ∀ v, assign (.Subscript (.Name x pos') b pos'') X.env v = (do
      let ov ← holding [v] (eval (.Name x pos') X.env)
      let iv ← holding [v, ov] (eval b X.env)
      standAt pos''
      holding [v, ov, iv] (setItem ov iv v)
      release [v, ov, iv] []) := by intro _; rfl)
    (hs : swapsWithSole [.Subscript (.Name x pos') b pos''] a pos.line X.env = pure false := by rfl) (hw : swappedStores [.Subscript (.Name x pos') b pos''] a X.env = pure none := by rfl)
    (h1 : (assignEach [.Subscript (.Name x pos') b pos''] X.env).map (·.2) = [assign (.Subscript (.Name x pos') b pos'') X.env] := by rfl) :
    DS X W (.Assign [.Subscript (.Name x pos') b pos''] a pos) (sSetIx i f g) :=
  psW (ps_asg hf (pg_sub (pe_var hN hv hd hcd) hg set_list ha) hs hw h1) fun E σ H ⟨e, F, R, h⟩ => by
    refine ⟨e, F, R, post_imp (postS_seq h) ?_⟩
    rintro y H1 ⟨r, e1, F1, q1, R1, s1, h1⟩
    cases w : frz r e1 with
    | bad => unfold M.bind at h1; rw [w] at h1; exact h1.elim
    | ex x e' => exact (frz_noex w).elim
    | ok d e2 =>
      have h2 := h1
      unfold M.bind at h2
      rw [w] at h2
      obtain ⟨F2, s2, R2, q2⟩ := frz_ok R1 q1 w s1
      dsimp only at h2
      split at h2
      · rename_i fx0 xs0 es
        obtain ⟨p, o, hp, hH, vs0, rfl, r0⟩ := own_at R2 es
        refine ⟨_, hp, e2, F2, R2, post_imp (postS_seqG (f := g) (R1 := rV X.K X.mg) s2 h2) ?_⟩
        rintro z H3 ⟨r', e3, F3, q3, R3, s3, h3⟩
        split at h3
        · rename_i k fx xs wk es3
          split at h3
          · rename_i j hj
            obtain ⟨p', o', hp', hH', vs, rfl, rv⟩ := own_at R3 es3
            rw [hp] at hp'; cases hp'
            refine ⟨p, vs, k, j, rfl, R3.rd q3 wk, hH', by rw [rv.length]; exact hj, ?_⟩
            exact h3 σ F3 _ ((s2.trans s3).change R3 es3 hp) (R3.change es3 hp ⟨_, rfl, rv.set (q2.mono s3.fro) j⟩)
          · exact h3.elim
        · exact h3.elim
      · exact h2.elim
end
/-! ### targets -/
section
variable (K : PySem.W.Frag) (mg : Mg)
/-- the same slots but those of us -/
def But (us : List Nat) (σ σ' : St) : Prop := σ'.length = σ.length ∧ ∀ i, i ∉ us → σ'[i]? = σ[i]?
def postU (us : List Nat) (F H : Hp) (e : Sl) (σ : St) (r : Res Unit) (Q : St → Hp → Prop) : Prop := match r with
  | .ok _ e' => ∀ σ' F' H', Stp F H e σ F' H' e' σ' → Rel K mg F' e' σ' H' → But us σ σ' → Q σ' H'
  | _ => False
def cU (us : List Nat) (t : D → M Unit) : TG := fun v σ H Q => ∃ e F d, Rel K mg F e σ H ∧ Rep K mg F v d ∧ postU K mg us F H e σ (t d e) Q
def cUs (us : List Nat) (t : List D → M Unit) : TGs := fun vs σ H Q => ∃ e F ds, Rel K mg F e σ H ∧ Reps K mg F vs ds ∧ postU K mg us F H e σ (t ds e) Q
end
theorem But.refl (us : List Nat) (σ : St) : But us σ σ := ⟨rfl, fun _ _ => rfl⟩
theorem But.trans {us us' : List Nat} {σ σ1 σ2 : St} (a : But us σ σ1) (b : But us' σ1 σ2) : But (us ++ us') σ σ2 := ⟨b.1.trans a.1, fun i h => (b.2 i fun z => h (List.mem_append_right _ z)).trans (a.2 i fun z => h (List.mem_append_left _ z))⟩
theorem But.set (i : Nat) (σ : St) (o : Option V) : But [i] σ (σ.set i o) := ⟨List.length_set, fun j h => List.getElem?_set_ne fun z => h (by rw [z]; exact List.mem_cons_self)⟩
theorem postU_imp {K : PySem.W.Frag} {mg : Mg} {us : List Nat} {F H : Hp} {e : Sl} {σ : St} {r : Res Unit} {Q Q' : St → Hp → Prop} (h : postU K mg us F H e σ r Q) (i : ∀ σ H, Q σ H → Q' σ H) : postU K mg us F H e σ r Q' := by
  cases r with
  | ok a e' => exact fun σ' F' H' s q b => i _ _ (h σ' F' H' s q b)
  | ex x e' => exact h
  | bad => exact h
theorem postU_from {K : PySem.W.Frag} {mg : Mg} {us us' : List Nat} {F H F1 H1 : Hp} {e e1 : Sl} {σ σ1 : St} {r : Res Unit} {Q : St → Hp → Prop} (s : Stp F H e σ F1 H1 e1 σ1) (bt : But us σ σ1) (h : postU K mg (us ++ us') F H e σ r Q) : postU K mg us' F1 H1 e1 σ1 r Q := by
  cases r with
  | ok a e' => exact fun σ' F' H' s' q b => h _ _ _ (s.trans s') q (bt.trans b)
  | ex x e' => exact h
  | bad => exact h
abbrev DG (X : Cx) (tg : Expr) (us : List Nat) (t : D → M Unit) : Prop := PG X tg (cU X.K X.mg us t)
abbrev DGs (X : Cx) (tg : List Expr) (us : List Nat) (t : List D → M Unit) : Prop := PGs X tg (cUs X.K X.mg us t)
def tName (i : Nat) : D → M Unit := fun d e => if sto e i then .ok () (e.set i (.val d)) else .bad
def tTupD (n : Nat) (t : List D → M Unit) : D → M Unit
  | .tup ds => fun e => if ds.length = n then t ds e else .bad
  | _ => M.bad
def tsNil : List D → M Unit
  | [] => M.ret ()
  | _ => M.bad
def tsCons (t : D → M Unit) (ts : List D → M Unit) : List D → M Unit
  | d :: ds => fun e => match t d e with
    | .ok _ e' => ts ds e'
    | .ex x e' => .ex x e'
    | .bad => .bad
  | [] => M.bad
section
variable {X : Cx} {W : WX} {a b c tg : Expr} {es : List Expr} {f g h : M RV} {t : D → M Unit} {ts : List D → M Unit} {us us' : List Nat} {pos : Pos} {x : Str}
theorem pgW {X : Cx} {e : Expr} {t t' : TG} (h : PG X e t) (i : ∀ v σ H Q, t' v σ H Q → t v σ H Q) : PG X e t' := ⟨fun pins s σ H v u Q I r q => h.run pins s σ H v u Q I r (i v σ H Q q)⟩
theorem pgsW {X : Cx} {e : List Expr} {t t' : TGs} (h : PGs X e t) (i : ∀ v σ H Q, t' v σ H Q → t v σ H Q) : PGs X e t' := ⟨fun pins s σ H v u Q I r q => h.run pins s σ H v u Q I r (i v σ H Q q)⟩
theorem dg_name (i : Nat) (hN : X.N.Nodup) (hi : X.N[i]? = some x := by rfl) (hx : Loc X.env.scope x := by first | exact Or.inl rfl | exact Or.inr rfl) (hf : X.fn x = true ∨ X.env.scope.names.lookup x = some .local := by first | exact .inl rfl | exact .inr rfl) : DG X (.Name x pos) [i] (tName i) :=
  pgW (pg_name hN hi hx hf) fun v σ H Q ⟨e, F, d, R, q, h⟩ => by
    unfold tName at h
    split at h
    · rename_i z
      exact h _ F H (Stp.refl.put (sto_ok z)) (R.put q (sto_ok z).1) (But.set _ _ _)
    · exact h.elim
theorem dgs_nil : DGs X [] [] tsNil := pgsW pgs_nil fun vs σ H Q ⟨e, F, ds, R, q, h⟩ => by
  cases q with
  | nil => exact ⟨rfl, h σ F H Stp.refl R (But.refl _ _)⟩
  | cons _ _ => exact h.elim
theorem dgs_cons (h1 : DG X a us t) (h2 : DGs X es us' ts) (hs : (assignEach (a :: es) X.env).map (·.2) = assign a X.env :: (assignEach es X.env).map (·.2) := by rfl) : DGs X (a :: es) (us ++ us') (tsCons t ts) := pgsW (pgs_cons h1 h2 hs) fun vs σ H Q ⟨e, F, ds, R, q, h⟩ => by
  cases q with
  | nil => exact h.elim
  | cons q r =>
    refine ⟨_, _, rfl, e, F, _, R, q, ?_⟩
    unfold tsCons at h
    dsimp only at h
    cases w : t _ e with
    | bad => rw [w] at h; exact h.elim
    | ex x e' => rw [w] at h; exact h.elim
    | ok u e1 => rw [w] at h; exact fun σ' F' H' s q b => ⟨e1, F', _, q, r.mono s.fro, postU_from s b h⟩
theorem dg_tup {k n : Nat} (hc : X.calm = true) (h : DGs X es us ts) (hn : (assignEach es X.env).length = n := by rfl) (hst : (assignEach es X.env).findIdx? (·.1) = none := by rfl) : DG X (.Tuple es k pos) us (tTupD n ts) := pgW (pg_tup hc h hn hst) fun v σ H Q ⟨e, F, d, R, q, h⟩ => by
  unfold tTupD at h
  split at h
  · rename_i ds
    split at h
    · rename_i hl
      cases q with
      | tup q r => exact ⟨_, _, rfl, sqT_mono R.sub q, by rw [r.length]; exact hl, e, F, ds, R, r, h⟩
    · exact h.elim
  · exact h.elim
/-- target = value, frozen -/
def sAsg (f : M RV) (t : D → M Unit) : M Flo := M.bind f fun r => M.bind (frz r) fun d => fun e => match t d e with
  | .ok _ e' => .ok .nx e'
  | _ => .bad
theorem ds_asg (ha : DE X W a f) (hg : DG X tg us t) (hs : swapsWithSole [tg] a pos.line X.env = pure false := by rfl) (hw : swappedStores [tg] a X.env = pure none := by rfl) (h1 : (assignEach [tg] X.env).map (·.2) = [assign tg X.env] := by rfl) : DS X W (.Assign [tg] a pos) (sAsg f t) :=
  psW (ps_asg ha hg hs hw h1) fun E σ H ⟨e, F, R, h⟩ => by
    refine ⟨e, F, R, post_imp (postS_seq h) ?_⟩
    rintro y H1 ⟨r, e1, F1, q1, R1, s1, h1⟩
    cases w : frz r e1 with
    | bad => unfold M.bind at h1; rw [w] at h1; exact h1.elim
    | ex x e' => exact (frz_noex w).elim
    | ok d e2 =>
      unfold M.bind at h1
      rw [w] at h1
      obtain ⟨F2, s2, R2, q2⟩ := frz_ok R1 q1 w s1
      dsimp only at h1
      refine ⟨e2, F2, d, R2, q2, ?_⟩
      cases w2 : t d e2 with
      | bad => rw [w2] at h1; exact h1.elim
      | ex x e' => rw [w2] at h1; exact h1.elim
      | ok u e3 => rw [w2] at h1; exact fun σ' F' H' s q _ => h1 σ' F' H' (s2.trans s) q
end
end Y

set_option Elab.async false
set_option linter.all false
set_option maxRecDepth 100000
set_option maxHeartbeats 4000000
namespace Y
open PySem PySem.Spec L2
set_option autoImplicit false
/-! ### what is walked, by the data that it gives -/
section
variable (K : PySem.W.Frag) (mg : Mg) (W : WX)
/-- what is given at a turn: an old thing, or a new pair of old ones -/
def Yld (F H : Hp) (x : V) (H' : Hp) (d : D) : Prop := (H' = H ∧ Rep K mg F x d) ∨ ∃ T a b da db, x = .ref T ∧ H T = none ∧ H' = upd H T (.tup [a, b]) ∧ d = .tup [da, db] ∧ Rep K mg F a da ∧ Rep K mg F b db
def WalkD (F : Hp) (J : It) (ds : List D) : Prop := Walk J ds.length (fun H => Same F H) (fun i H x H' => ∃ d, ds[i]? = some d ∧ Yld K mg F H x H' d)
def cI (it : M (List D)) : TI := fun σ H R => ∃ e F, Rel K mg F e σ H ∧ match it e with
  | .ok ds e' => ∀ J F' H', Stp F H e σ F' H' e' σ → Rel K mg F' e' σ H' → WalkD K mg F' J ds → R J H'
  | .ex x e' => ∀ cls d F' H', Stp F H e σ F' H' e' σ → Rel K mg F' e' σ H' → XOk K mg F' cls d x → W cls d σ H'
  | .bad => False
end
abbrev DI (X : Cx) (W : WX) (tg iter : Expr) (it : M (List D)) : Prop := PI X tg iter (cI X.K X.mg W it)
theorem piW {X : Cx} {tg e : Expr} {t t' : TI} (h : PI X tg e t) (i : ∀ σ H Q, t' σ H Q → t σ H Q) : PI X tg e t' := ⟨fun pins s σ H Q I q => h.run pins s σ H Q I (i σ H Q q)⟩
section
variable {K : PySem.W.Frag} {mg : Mg} {W : WX} {F H H' F0 H0 : Hp} {e e0 : Sl} {σ σ0 : St} {x : V} {d : D}
/-- the thing that a turn gives, frozen -/
theorem Yld.got {G : Hp} (R : Rel K mg F e σ H) (sm : Same G F) (y : Yld K mg G H x H' d) : ∃ F', Stp F H e σ F' H' e σ ∧ Rel K mg F' e σ H' ∧ Rep K mg F' x d := by
  rcases y with ⟨rfl, r⟩ | ⟨T, a, b, da, db, rfl, hT, rfl, rfl, ra, rb⟩
  · exact ⟨F, Stp.refl, R, r.mono sm⟩
  · refine ⟨upd F T (.tup [a, b]), Stp.freeze (R.new hT) upd_same (R.free hT) (Stp.new R hT) (.inl hT), (R.new hT).freeze upd_same (R.notOwn hT) (R.free hT), ?_⟩
    have sm' := sm.trans (same_upd' (o := .tup [a, b]) (R.free hT))
    exact .tup (SqT.of upd_same) (.cons (ra.mono sm') (.cons (rb.mono sm') .nil))
end
def itSeq (f : M RV) : M (List D) := M.bind f fun r => M.bind (frz r) fun d => match d with
  | .lst ds => M.ret ds
  | .tup ds => M.ret ds
  | _ => M.bad
def rangeD (lo : Int) (n : Nat) : List D := (List.range n).map fun i : Nat => D.int (lo + (i : Int))
def itR1 (f : M RV) : M (List D) := M.bind f fun r => fun e => match rdat e r with
  | some (.int j) => if -(2 ^ 62) ≤ j ∧ j < 2 ^ 62 then .ok (rangeD 0 j.toNat) e else .bad
  | _ => .bad
def itR2 (f g : M RV) : M (List D) := M.bind f fun r => M.bind g fun r' => fun e => match rdat e r, rdat e r' with
  | some (.int i), some (.int j) => if -(2 ^ 62) ≤ i ∧ i < 2 ^ 62 ∧ -(2 ^ 62) ≤ j ∧ j < 2 ^ 62 then .ok (rangeD i (j - i).toNat) e else .bad
  | _, _ => .bad
section
variable {X : Cx} {W : WX} {a b c tg : Expr} {f g : M RV} {pos p : Pos}
theorem walkD_range {K : PySem.W.Frag} {mg : Mg} {F : Hp} (lo : Int) (n : Nat) : WalkD K mg F (Itr lo n) (rangeD lo n) := by
  have hn : (rangeD lo n).length = n := by unfold rangeD; rw [List.length_map, List.length_range]
  unfold WalkD
  rw [hn]
  refine (walk_range (lo := lo) (n := n)).mono (fun _ _ => trivial) fun i H x H' hi _ y => ?_
  obtain ⟨rfl, rfl⟩ := y
  refine ⟨.int (lo + i), ?_, .inl ⟨rfl, .int _⟩⟩
  unfold rangeD
  rw [List.getElem?_map, List.getElem?_range hi]
  rfl
theorem walkD_list {K : PySem.W.Frag} {mg : Mg} {F : Hp} {a : Addr} {vs : List V} {ds : List D} (h : SqL K F a vs) (r : Reps K mg F vs ds) : WalkD K mg F (Itl K a) ds := by
  unfold WalkD
  rw [← r.length]
  refine (walk_list (K := K) (a := a) (xs := vs)).mono (fun H s => s.seq h) fun i H x H' hi s y => ?_
  obtain ⟨rfl, hx⟩ := y
  have hd : i < ds.length := by rw [← r.length]; exact hi
  obtain ⟨v, h1, h2⟩ := r.get (List.getElem?_eq_getElem hd)
  rw [hx] at h1; cases h1
  exact ⟨_, List.getElem?_eq_getElem hd, .inl ⟨rfl, h2⟩⟩
theorem walkD_tup {K : PySem.W.Frag} {mg : Mg} {F : Hp} {a : Addr} {vs : List V} {ds : List D} (h : SqT K F a vs) (r : Reps K mg F vs ds) : WalkD K mg F (Itt K a) ds := by
  unfold WalkD
  rw [← r.length]
  refine (walk_tup (K := K) (a := a) (xs := vs)).mono (fun H s => sqT_mono s h) fun i H x H' hi s y => ?_
  obtain ⟨rfl, hx⟩ := y
  have hd : i < ds.length := by rw [← r.length]; exact hi
  obtain ⟨v, h1, h2⟩ := r.get (List.getElem?_eq_getElem hd)
  rw [hx] at h1; cases h1
  exact ⟨_, List.getElem?_eq_getElem hd, .inl ⟨rfl, h2⟩⟩
theorem di_range1 (hg : Gl X "range") (hm : X.mg "range" = none) (ha : DE X W a f) (hs : starEach [a] X.env = [(false, eval a X.env)] := by rfl) (hs' : starEach [a] X.env = (false, eval a X.env) :: starEach [] X.env := by rfl) :
    DI X W tg (.Call (.Name "range" p) [a] [] pos) (itR1 f) := piW (pi_range1 hg hm (pa_cons ha pa_nil hs') hs) fun σ H Q ⟨e, F, R, h⟩ => by
  refine ⟨e, F, R, ?_⟩
  unfold itR1 M.bind at h
  cases w : f e with
  | bad => rw [w] at h; exact h.elim
  | ex x e' => rw [w] at h; exact h
  | ok r e1 =>
    rw [w] at h
    dsimp only at h
    intro x F1 H1 s1 R1 q1
    split at h
    · rename_i ds e2 w2
      split at w2
      · rename_i j wj
        split at w2
        · rename_i hj
          cases w2
          exact ⟨j, congrArg (· :: []) (R1.rd q1 wj), hj.1, hj.2, h _ F1 H1 s1 R1 (walkD_range 0 j.toNat)⟩
        · cases w2
      · cases w2
    · rename_i x e2 w2
      split at w2
      · split at w2 <;> cases w2
      · cases w2
    · exact h.elim
theorem di_range2 (hg : Gl X "range") (hm : X.mg "range" = none) (ha : DE X W a f) (hb : DE X W b g) (hs : starEach [a, b] X.env = [(false, eval a X.env), (false, eval b X.env)] := by rfl) (hs2 : starEach [b] X.env = [(false, eval b X.env)] := by rfl)
    (he : starEach [a, b] X.env = (false, eval a X.env) :: starEach [b] X.env := by rfl) (he2 : starEach [b] X.env = (false, eval b X.env) :: starEach [] X.env := by rfl) :
    DI X W tg (.Call (.Name "range" p) [a, b] [] pos) (itR2 f g) := piW (pi_range2 hg hm (pa_cons ha (pa_cons hb pa_nil he2) he) hs hs2) fun σ H Q ⟨e, F, R, h⟩ => by
  refine ⟨e, F, R, ?_⟩
  unfold itR2 M.bind at h
  cases w : f e with
  | bad => rw [w] at h; exact h.elim
  | ex x e' => rw [w] at h; exact h
  | ok r e1 =>
    rw [w] at h
    dsimp only at h
    intro x F1 H1 s1 R1 q1
    refine ⟨e1, F1, R1, ?_⟩
    cases w' : g e1 with
    | bad => rw [w'] at h; exact h.elim
    | ex x e' => rw [w'] at h; exact fun cls d F' H' s q z => h cls d F' H' (s1.trans s) q z
    | ok r' e2 =>
      rw [w'] at h
      dsimp only at h
      intro y F2 H2 s2 R2 q2
      have q1 := q1.step s2
      split at h
      · rename_i ds e3 w2
        split at w2
        · rename_i i j wi wj
          split at w2
          · rename_i hj
            cases w2
            have e1 := R2.rd q1 wi
            have e2 := R2.rd q2 wj
            exact ⟨i, j, by rw [e1, e2], hj, h _ F2 H2 (s1.trans s2) R2 (walkD_range i (j - i).toNat)⟩
          · cases w2
        · cases w2
      · rename_i x e3 w2
        split at w2
        · split at w2 <;> cases w2
        · cases w2
      · exact h.elim
/-- a list or a tuple, whichever it is -/
def iSeq (K : PySem.W.Frag) (tl : TE) : TI := fun σ H R => tl σ H fun x H1 => ∃ a, x = .ref a ∧ (((∃ xs, SqL K H1 a xs) ∧ R (Itl K a) H1) ∨ ((∃ xs, SqT K H1 a xs) ∧ R (Itt K a) H1))
theorem pi_seq {l : Expr} {tl : TE} (hl : PE X l tl) : PI X tg l (iSeq X.K tl) := by
  refine ⟨fun pins s σ H R I h => ?_⟩
  refine thn (hl.run pins s σ H _ I h) fun v s1 ⟨x, H1, I1, r1, a, e, q⟩ => ?_
  subst e
  cases r1
  have fp : ∀ b ∈ [s1.heap.objs.size], FpOk X pins H1 b := fun b hb => by
    have e : b = s1.heap.objs.size := by simpa using hb
    subst e
    exact I1.fpOk (Nat.le_refl _) (I1.hok.fresh (Nat.le_refl _))
  rcases q with ⟨⟨xs, hq⟩, q⟩ | ⟨⟨xs, hq⟩, q⟩
  · obtain ⟨its, rv, p, hz⟩ := I1.list hq
    exact wpAny_pyIter_list p.isList ⟨_, [s1.heap.objs.size], _, _, H1, rfl, I1.kept (t' := s1.toks) fun b o e => Heap.get?_push_of_some _ e, turn_list a _, ⟨_, Heap.get?_push_size _ rfl, rfl, rfl⟩, fp, q⟩
  · obtain ⟨its, rv, p, hz⟩ := I1.tuple hq
    exact wpAny_pyIter_tuple (show s1.heap.IsTuple a its.toArray from p) ⟨_, [s1.heap.objs.size], _, _, H1, rfl, I1.kept (t' := s1.toks) fun b o e => Heap.get?_push_of_some _ e, turn_tuple a _, ⟨_, Heap.get?_push_size _ rfl, rfl, rfl⟩, fp, q⟩
theorem di_seq (ha : DE X W a f) : DI X W tg a (itSeq f) := piW (pi_seq ha) fun σ H Q ⟨e, F, R, h⟩ => by
  refine ⟨e, F, R, ?_⟩
  unfold itSeq M.bind at h
  cases w : f e with
  | bad => rw [w] at h; exact h.elim
  | ex x e' => rw [w] at h; exact h
  | ok r e1 =>
    rw [w] at h
    dsimp only at h
    intro x F1 H1 s1 R1 q1
    cases w' : frz r e1 with
    | bad => rw [w'] at h; exact h.elim
    | ex x e' => exact (frz_noex w').elim
    | ok d e2 =>
      rw [w'] at h
      obtain ⟨F2, s2, R2, q2⟩ := frz_ok R1 q1 w' s1
      dsimp only at h
      cases d with
      | lst ds =>
        cases q2 with
        | lst q r => exact ⟨_, rfl, .inl ⟨⟨_, R2.sub.seq q⟩, h _ F2 H1 s2 R2 (walkD_list q r)⟩⟩
      | tup ds =>
        cases q2 with
        | tup q r => exact ⟨_, rfl, .inr ⟨⟨_, sqT_mono R2.sub q⟩, h _ F2 H1 s2 R2 (walkD_tup q r)⟩⟩
      | _ => exact h.elim
end
/-! ### for -/
def forRun (t : D → M Unit) (body : M Flo) : List D → M Flo
  | [] => sNil
  | d :: r => fun e => match t d e with
    | .ok _ e1 => (match body e1 with
      | .ok .nx e2 => forRun t body r e2
      | .ok .ct e2 => forRun t body r e2
      | .ok .bk e2 => .ok .nx e2
      | .ok (.rt v) e2 => .ok (.rt v) e2
      | .ex x e2 => .ex x e2
      | .bad => .bad)
    | _ => .bad
def sFor (it : M (List D)) (t : D → M Unit) (body : M Flo) : M Flo := M.bind it (forRun t body)
section
variable {X : Cx} {W : WX} {a b c tg iter : Expr} {sts : List Stmt} {it : M (List D)} {t : D → M Unit} {s : M Flo} {us : List Nat} {pos : Pos}
theorem ds_for (hp : PassesOwn (model X.prog X.w) X.A X.env X.xe) (hc : X.calm = true) (hi : DI X W tg iter it) (hg : DG X tg us t) (hb : DSs X W sts s) (hs : ∀ x, foldedSetIterable iter X.env x = pure x := by intro _; rfl) : DS X W (.For tg iter sts [] pos) (sFor it t s) :=
  psW (ps_for hp hc hi hg hb hs) fun E σ H ⟨e, F, R, h⟩ => by
    refine ⟨e, F, R, ?_⟩
    unfold sFor M.bind at h
    cases w : it e with
    | bad => rw [w] at h; exact h.elim
    | ex x e' => rw [w] at h; exact fun cls d F' H' s q z => h cls d σ F' H' s q z
    | ok ds e1 =>
      rw [w] at h
      intro J F1 H1 s1 R1 wd
      refine for_it wd (fun i σ' H' => ∃ e' F', Rel X.K X.mg F' e' σ' H' ∧ Stp F H e σ F' H' e' σ' ∧ Same F1 F' ∧ postS X.K X.mg W F H e σ (forRun t s (ds.drop i) e') E) ⟨e1, F1, R1, s1, Same.refl _, h⟩ (fun i σ' H' _ ⟨e', F', R', _, sm, _⟩ => sm.trans R'.sub) ?_ ?_
      · rintro i x σ2 H2 H3 hi ⟨e2, F2, R2, s2, sm2, h2⟩ ⟨d, hd, y⟩
        obtain ⟨F3, s3, R3, q3⟩ := y.got R2 sm2
        refine ⟨e2, F3, d, R3, q3, ?_⟩
        rw [show ds.drop i = d :: ds.drop (i + 1) from by
          have hl := (List.getElem?_eq_some_iff.mp hd)
          obtain ⟨hl, he⟩ := hl
          rw [List.drop_eq_getElem_cons hl, he]] at h2
        unfold forRun at h2
        cases w2 : t d e2 with
        | bad => rw [w2] at h2; exact h2.elim
        | ex x e' => rw [w2] at h2; exact h2.elim
        | ok u e3 =>
          rw [w2] at h2
          intro σ4 F4 H4 s4 R4 _
          refine ⟨e3, F4, R4, ?_⟩
          have s34 := (s2.trans s3).trans s4
          have sm4 := (sm2.trans s3.fro).trans s4.fro
          dsimp only at h2
          cases w3 : s e3 with
          | bad => rw [w3] at h2; exact h2.elim
          | ex x e' => rw [w3] at h2; exact fun cls dd σ5 F5 H5 s5 R5 z => h2 cls dd σ5 F5 H5 (s34.trans s5) R5 z
          | ok fl e4 =>
            rw [w3] at h2
            cases fl with
            | nx => exact fun σ5 F5 H5 s5 R5 => ⟨e4, F5, R5, s34.trans s5, sm4.trans s5.fro, h2⟩
            | ct => exact fun σ5 F5 H5 s5 R5 => ⟨e4, F5, R5, s34.trans s5, sm4.trans s5.fro, h2⟩
            | bk => exact fun σ5 F5 H5 s5 R5 => h2 σ5 F5 H5 (s34.trans s5) R5
            | rt r => exact fun v σ5 F5 H5 s5 R5 z => h2 v σ5 F5 H5 (s34.trans s5) R5 (z.imp fun x y => s34.nm y)
      · rintro σ2 H2 ⟨e2, F2, R2, s2, sm2, h2⟩
        rw [List.drop_length] at h2
        exact h2 σ2 F2 H2 s2 R2
end
/-! ### while, with the turns counted -/
def whRun (p : M Bool) (body : M Flo) : Nat → M Flo
  | 0 => M.bad
  | n + 1 => fun e => match p e with
    | .ok false e1 => .ok .nx e1
    | .ok true e1 => (match body e1 with
      | .ok .nx e2 => whRun p body n e2
      | .ok .ct e2 => whRun p body n e2
      | .ok .bk e2 => .ok .nx e2
      | .ok (.rt v) e2 => .ok (.rt v) e2
      | .ex x e2 => .ex x e2
      | .bad => .bad)
    | .ex x e1 => .ex x e1
    | .bad => .bad
open Classical in
noncomputable def sWhile (p : M Bool) (body : M Flo) : M Flo := fun e => if h : ∃ n, whRun p body n e ≠ .bad then whRun p body (choose h) e else .bad
theorem whRun_more {p : M Bool} {body : M Flo} : ∀ {n m : Nat} {e : Sl}, n ≤ m → whRun p body n e ≠ .bad → whRun p body m e = whRun p body n e := by
  intro n
  induction n with
  | zero => intro m e _ h; exact absurd rfl h
  | succ n ih =>
    intro m e hm h
    obtain ⟨m, rfl⟩ : ∃ k, m = k + 1 := ⟨m - 1, by omega⟩
    unfold whRun at h ⊢
    cases w : p e with
    | bad => rfl
    | ex x e1 => rfl
    | ok c e1 =>
      rw [w] at h
      cases c with
      | false => rfl
      | true =>
        dsimp only at h ⊢
        cases w2 : body e1 with
        | bad => rfl
        | ex x e2 => rfl
        | ok fl e2 =>
          rw [w2] at h
          cases fl with
          | nx => exact ih (by omega) h
          | ct => exact ih (by omega) h
          | bk => rfl
          | rt v => rfl
/-- the value of a while, once some number of turns is enough -/
theorem sWhile_eq {p : M Bool} {body : M Flo} {n : Nat} {e : Sl} (h : whRun p body n e ≠ .bad) : sWhile p body e = whRun p body n e := by
  unfold sWhile
  have hx : ∃ n, whRun p body n e ≠ .bad := ⟨n, h⟩
  rw [dif_pos hx]
  have hc := Classical.choose_spec hx
  rcases Nat.le_total n (Classical.choose hx) with z | z
  · exact whRun_more z h
  · exact (whRun_more z hc).symm
section
variable {X : Cx} {W : WX} {c : Expr} {sts : List Stmt} {p : M Bool} {s : M Flo} {pos : Pos}
theorem ds_while (hp : PassesOwn (model X.prog X.w) X.A X.env X.xe) (hc : DT X W c p) (hb : DSs X W sts s) : DS X W (.While c sts [] pos) (sWhile p s) := psW (ps_while hp hc hb) fun E σ H ⟨e, F, R, h⟩ => by
  have hx : ∃ n, whRun p s n e ≠ .bad := Classical.byContradiction fun z => by
    unfold sWhile at h
    rw [dif_neg z] at h
    exact h
  obtain ⟨n, hn⟩ := hx
  rw [sWhile_eq hn] at h
  refine ⟨fun m σ' H' => ∃ e' F', Rel X.K X.mg F' e' σ' H' ∧ Stp F H e σ F' H' e' σ' ∧ postS X.K X.mg W F H e σ (whRun p s m e') E, ⟨n, e, F, R, Stp.refl, h⟩, ?_⟩
  rintro m σ2 H2 ⟨e2, F2, R2, s2, h2⟩
  cases m with
  | zero => exact h2.elim
  | succ m =>
    unfold whRun at h2
    refine ⟨e2, F2, R2, ?_⟩
    cases w : p e2 with
    | bad => rw [w] at h2; exact h2.elim
    | ex x e3 => rw [w] at h2; exact fun cls d F' H' s' q z => h2 cls d σ2 F' H' (s2.trans s') q z
    | ok b e3 =>
      rw [w] at h2
      intro b' F3 H3 s3 R3 z
      cases z
      cases b with
      | false => exact iteF (h2 σ2 F3 H3 (s2.trans s3) R3)
      | true =>
        dsimp only at h2
        refine iteT ⟨fun σ' H' => ∃ e' F', Rel X.K X.mg F' e' σ' H' ∧ Stp F H e σ F' H' e' σ' ∧ postS X.K X.mg W F H e σ (whRun p s m e') E, fun σ' H' z => ⟨m, Nat.lt_succ_self m, z⟩, e3, F3, R3, ?_⟩
        have s23 := s2.trans s3
        cases w2 : s e3 with
        | bad => rw [w2] at h2; exact h2.elim
        | ex x e4 => rw [w2] at h2; exact fun cls d σ5 F5 H5 s5 q z => h2 cls d σ5 F5 H5 (s23.trans s5) q z
        | ok fl e4 =>
          rw [w2] at h2
          cases fl with
          | nx => exact fun σ5 F5 H5 s5 R5 => ⟨e4, F5, R5, s23.trans s5, h2⟩
          | ct => exact fun σ5 F5 H5 s5 R5 => ⟨e4, F5, R5, s23.trans s5, h2⟩
          | bk => exact fun σ5 F5 H5 s5 R5 => h2 σ5 F5 H5 (s23.trans s5) R5
          | rt r => exact fun v σ5 F5 H5 s5 R5 z => h2 v σ5 F5 H5 (s23.trans s5) R5 (z.imp fun x y => s23.nm y)
end
end Y

set_option Elab.async false
set_option linter.all false
set_option maxRecDepth 100000
set_option maxHeartbeats 4000000
namespace Y
open PySem PySem.Spec L2
set_option autoImplicit false
/-! ### list comprehensions -/
/-- the comprehension's own slots, forgotten -/
def wip (e : Sl) : List Nat → Sl
  | [] => e
  | v :: vs => (wip e vs).set v .no
def noOwn (e : Sl) (vs : List Nat) : Bool := vs.all fun i => match e[i]? with
  | some (.own _ _) => false
  | _ => true
/-- .. and as they were -/
def unw (e0 e : Sl) : List Nat → Sl
  | [] => e
  | v :: vs => match e0[v]? with
    | some s => (unw e0 e vs).set v s
    | none => unw e0 e vs
def lcRun (t : D → M Unit) (p : M Bool) (f : M RV) (vs : List Nat) : List D → List D → M (List D)
  | [], acc => M.ret acc
  | d :: r, acc => fun e => match t d e with
    | .ok _ e1 => (match p e1 with
      | .ok true e2 => (match M.bind f frz e2 with
        | .ok y e3 => if acc.length < sizeLine then lcRun t p f vs r (acc ++ [y]) (wip e3 vs) else .bad
        | _ => .bad)
      | .ok false e2 => lcRun t p f vs r acc (wip e2 vs)
      | _ => .bad)
    | _ => .bad
def eLc (it : M (List D)) (t : D → M Unit) (p : M Bool) (f : M RV) (vs : List Nat) : M RV := M.bind it fun ds => fun e => if noOwn e vs then (match lcRun t p f vs ds [] (wip e vs) with
  | .ok acc e' => .ok (.own (.lst acc)) (unw e e' vs)
  | _ => .bad) else .bad
def tYesD : M Bool := M.ret true
section
variable {K : PySem.W.Frag} {mg : Mg} {F H F' H' : Hp} {e e' e0 : Sl} {σ : St}
theorem wip_len (e : Sl) : ∀ vs, (wip e vs).length = e.length
  | [] => rfl
  | v :: vs => by unfold wip; rw [List.length_set, wip_len e vs]
theorem wip_get {i : Nat} {s : Slot} : ∀ {vs : List Nat}, (wip e vs)[i]? = some s → (s = .no ∨ e[i]? = some s)
  | [], h => .inr h
  | v :: vs, h => by
    unfold wip at h
    rcases get_set_of h with ⟨_, rfl⟩ | ⟨_, h⟩
    · exact .inl rfl
    · exact wip_get h
theorem wip_at {i : Nat} : ∀ {vs : List Nat}, i ∉ vs → (wip e vs)[i]? = e[i]?
  | [], _ => rfl
  | v :: vs, h => by
    unfold wip
    rw [List.getElem?_set_ne (fun z => h (by rw [z]; exact List.mem_cons_self))]
    exact wip_at fun z => h (List.mem_cons_of_mem _ z)
theorem wip_mem {i : Nat} : ∀ {vs : List Nat}, i ∈ vs → i < e.length → (wip e vs)[i]? = some .no
  | v :: vs, h, hl => by
    unfold wip
    by_cases z : v = i
    · subst z; rw [List.getElem?_set_self (by rw [wip_len]; exact hl)]
    · rw [List.getElem?_set_ne z]
      rcases List.mem_cons.mp h with y | y
      · exact absurd y.symm z
      · exact wip_mem y hl
theorem wipe_at {i : Nat} : ∀ {vs : List Nat}, i ∉ vs → (wipe σ vs)[i]? = σ[i]?
  | [], _ => rfl
  | v :: vs, h => by
    unfold wipe
    rw [List.getElem?_set_ne (fun z => h (by rw [z]; exact List.mem_cons_self))]
    exact wipe_at fun z => h (List.mem_cons_of_mem _ z)
theorem Rel.wip (R : Rel K mg F e σ H) (vs : List Nat) : Rel K mg F (wip e vs) (wipe σ vs) H where
  sub := R.sub
  len := by rw [wip_len, wipe_length]; exact R.len
  ok := fun i s o es ex => by
    by_cases z : i ∈ vs
    · have hl : i < e.length := by rw [← wip_len e vs]; exact (List.getElem?_eq_some_iff.mp es).1
      rw [wip_mem z hl] at es
      cases es
      trivial
    · rw [wip_at z] at es
      rw [wipe_at z] at ex
      exact R.ok i s o es ex
  inj := fun i j f g c d a ei ej si sj => by
    have get : ∀ {k : Nat} {f c}, (Y.wip e vs)[k]? = some (.own f c) → k ∉ vs ∧ e[k]? = some (.own f c) := fun {k f c} h => by
      by_cases z : k ∈ vs
      · have hl : k < e.length := by rw [← wip_len e vs]; exact (List.getElem?_eq_some_iff.mp h).1
        rw [wip_mem z hl] at h; cases h
      · exact ⟨z, by rw [wip_at z] at h; exact h⟩
    obtain ⟨zi, ei⟩ := get ei
    obtain ⟨zj, ej⟩ := get ej
    rw [wipe_at zi] at si
    rw [wipe_at zj] at sj
    exact R.inj i j f g c d a ei ej si sj
theorem own_wip {vs : List Nat} {b : Addr} (h : Own (wip e vs) (wipe σ vs) b) : Own e σ b := by
  obtain ⟨i, f, c, h1, h2⟩ := h
  by_cases z : i ∈ vs
  · have hl : i < e.length := by rw [← wip_len e vs]; exact (List.getElem?_eq_some_iff.mp h1).1
    rw [wip_mem z hl] at h1; cases h1
  · rw [wip_at z] at h1
    rw [wipe_at z] at h2
    exact ⟨i, f, c, h1, h2⟩
theorem wip_own {vs : List Nat} {b : Addr} (hn : noOwn e vs = true) (h : Own e σ b) : Own (wip e vs) (wipe σ vs) b := by
  obtain ⟨i, f, c, h1, h2⟩ := h
  have z : i ∉ vs := fun z => by
    have q := List.all_eq_true.mp hn i z
    rw [h1] at q
    cases q
  exact ⟨i, f, c, by rw [wip_at z]; exact h1, by rw [wipe_at z]; exact h2⟩
theorem unw_at {i : Nat} : ∀ {vs : List Nat}, i ∉ vs → (unw e0 e vs)[i]? = e[i]?
  | [], _ => rfl
  | v :: vs, h => by
    have ih := unw_at (i := i) (vs := vs) fun z => h (List.mem_cons_of_mem _ z)
    unfold unw
    split
    · rw [List.getElem?_set_ne (fun z => h (by rw [z]; exact List.mem_cons_self))]
      exact ih
    · exact ih
theorem unw_len : ∀ vs : List Nat, (unw e0 e vs).length = e.length
  | [] => rfl
  | v :: vs => by
    unfold unw
    split
    · rw [List.length_set, unw_len vs]
    · exact unw_len vs
theorem unw_mem {i : Nat} : ∀ {vs : List Nat}, i ∈ vs → i < e0.length → e0.length = e.length → (unw e0 e vs)[i]? = e0[i]?
  | v :: vs, h, hl, hz => by
    unfold unw
    by_cases z : v = i
    · subst z
      rw [List.getElem?_eq_getElem hl]
      dsimp only
      rw [List.getElem?_set_self (by rw [unw_len, ← hz]; exact hl)]
    · rcases List.mem_cons.mp h with y | y
      · exact absurd y.symm z
      · split
        · rw [List.getElem?_set_ne z]
          exact unw_mem y hl hz
        · exact unw_mem y hl hz
/-- behind the comprehension: all as before it, but what was done -/
theorem unw_ok {vs : List Nat} (R : Rel K mg F e σ H) (hn : noOwn e vs = true) (s : Stp F H (wip e vs) (wipe σ vs) F' H' e' (wipe σ vs)) (R' : Rel K mg F' e' (wipe σ vs) H') :
    Rel K mg F' (unw e e' vs) σ H' ∧ Stp F H e σ F' H' (unw e e' vs) σ ∧ ∀ b, Own (unw e e' vs) σ b → Own e' (wipe σ vs) b := by
  have hl' : e.length = e'.length := by rw [R'.len, wipe_length]; exact R.len
  have get : ∀ {k : Nat} {f : Bool} {c : Cont}, (unw e e' vs)[k]? = some (.own f c) → k ∉ vs ∧ e'[k]? = some (.own f c) := fun {k f c} h => by
    by_cases z : k ∈ vs
    · have hl : k < e.length := by rw [hl', ← unw_len (e0 := e) vs]; exact (List.getElem?_eq_some_iff.mp h).1
      rw [unw_mem z hl hl'] at h
      have q := List.all_eq_true.mp hn k z
      rw [h] at q
      cases q
    · exact ⟨z, by rw [unw_at z] at h; exact h⟩
  have ow : ∀ b, Own (unw e e' vs) σ b → Own e' (wipe σ vs) b := fun b ⟨i, f, c, h1, h2⟩ => by
    obtain ⟨z, h1⟩ := get h1
    exact ⟨i, f, c, h1, by rw [wipe_at z]; exact h2⟩
  have nm : ∀ b, NM H (wip e vs) (wipe σ vs) b → NM H e σ b := fun b z => z.imp id own_wip
  refine ⟨⟨R'.sub, by rw [unw_len, ← hl']; exact R.len, fun i t o es ex => ?_, fun i j f g c d a ei ej si sj => ?_⟩, ⟨s.fro, fun b o h n => s.kept b o h fun z => n (own_wip z), s.dom, fun b h h' => nm b (s.newF b h h'), fun b h => nm b (s.newO b (ow b h)), fun i c h => ?_, by rw [unw_len]; exact hl'.symm⟩, ow⟩
  · by_cases z : i ∈ vs
    · have hl : i < e.length := by rw [R.len]; exact (List.getElem?_eq_some_iff.mp ex).1
      rw [unw_mem z hl hl'] at es
      have q := R.ok i t o es ex
      cases t with
      | no => trivial
      | val d => obtain ⟨v, h1, h2⟩ := q; exact ⟨v, h1, h2.mono s.fro⟩
      | own f c =>
        have q' := List.all_eq_true.mp hn i z
        rw [es] at q'
        cases q'
    · rw [unw_at z] at es
      exact R'.ok i t o es (by rw [wipe_at z]; exact ex)
  · obtain ⟨zi, ei⟩ := get ei
    obtain ⟨zj, ej⟩ := get ej
    exact R'.inj i j f g c d a ei ej (by rw [wipe_at zi]; exact si) (by rw [wipe_at zj]; exact sj)
  · have z : i ∉ vs := fun z => by
      have q := List.all_eq_true.mp hn i z
      rw [h] at q
      cases q
    obtain ⟨⟨c', h1⟩, _⟩ := s.fix i c (by rw [wip_at z]; exact h)
    exact ⟨⟨c', by rw [unw_at z]; exact h1⟩, rfl⟩
end
/-- no exception leaves from within -/
abbrev W0 : WX := fun _ _ _ _ => False
theorem But.wipe {us : List Nat} {σ σ' : St} (b : But us σ σ') : L2.wipe σ' us = L2.wipe σ us := by
  apply List.ext_getElem?
  intro i
  by_cases z : i ∈ us
  · have at_ : ∀ (σ : St) (us : List Nat), i ∈ us → (L2.wipe σ us)[i]? = if i < σ.length then some none else none := by
      intro σ us
      induction us with
      | nil => intro h; cases h
      | cons v vs ih =>
        intro h
        unfold L2.wipe
        rw [List.getElem?_set]
        split
        · rename_i hv
          subst hv
          rw [wipe_length]
        · rename_i hv
          rcases List.mem_cons.mp h with y | y
          · exact absurd y.symm hv
          · exact ih y
    rw [at_ σ' us z, at_ σ us z, b.1]
  · rw [wipe_at z, wipe_at z]
    exact b.2 i z
theorem wipe_but (us : List Nat) (σ : St) : But us σ (L2.wipe σ us) := ⟨wipe_length _ _, fun i h => wipe_at h⟩
theorem wipe_wipe (us : List Nat) (σ : St) : L2.wipe (L2.wipe σ us) us = L2.wipe σ us := (wipe_but us σ).wipe
section
variable {X : Cx} {W : WX} {elt tg iter : Expr} {ifs : List Expr} {scope : Scope} {own : List (Str × Nat)} {it : M (List D)} {t : D → M Unit} {p : M Bool} {f : M RV} {us : List Nat} {pos pos' spos : Pos}
theorem lc_ok {K : PySem.W.Frag} {mg : Mg} {σ : St} {H : Hp} {Q : VK} (h : cE K mg W (eLc it t p f us) σ H Q) : tLc (cI K mg W it) (cU K mg us t) (cT K mg W0 p) (cE K mg W0 f) us σ H Q := by
  obtain ⟨e, F, R, h⟩ := h
  refine ⟨e, F, R, ?_⟩
  unfold eLc M.bind at h
  cases w : it e with
  | bad => rw [w] at h; exact h.elim
  | ex x e' => rw [w] at h; exact h
  | ok ds e1 =>
    rw [w] at h
    intro J F1 H1 s1 R1 wd D hD
    dsimp only at h
    split at h
    · rename_i hn
      split at h
      · rename_i accF eF wF
        have Rw := R1.wip us
        have RD := Rw.new (o := .lst []) hD
        refine lc_it (vs := us) (σ := σ) wd (fun i H' => ∃ e' F' acc av, Rel K mg F' e' (wipe σ us) H' ∧ Stp F1 H1 (wip e1 us) (wipe σ us) F' H' e' (wipe σ us) ∧ Same F1 F' ∧ H' D = some (.lst av) ∧ F' D = none ∧ ¬ Own e' (wipe σ us) D ∧ Reps K mg F' av acc ∧ lcRun t p f us (ds.drop i) acc e' = .ok accF eF)
          ⟨wip e1 us, F1, [], [], RD, Stp.new Rw hD, Same.refl _, upd_same, Rw.free hD, Rw.notOwn hD, .nil, wF⟩ (fun i H' _ ⟨e', F', _, _, R', _, sm, _⟩ => sm.trans R'.sub) ?_ ?_
        · rintro i x H2 H3 hi ⟨e2, F2, acc, av, R2, s2, sm2, d1, d2, d3, d4, w2⟩ ⟨d, hd, y⟩
          obtain ⟨F3, s3, R3, q3⟩ := y.got R2 sm2
          refine ⟨e2, F3, d, R3, q3, ?_⟩
          rw [show ds.drop i = d :: ds.drop (i + 1) from by
            obtain ⟨hl, he⟩ := (List.getElem?_eq_some_iff.mp hd)
            rw [List.drop_eq_getElem_cons hl, he]] at w2
          unfold lcRun at w2
          -- the new list is nobody's while the rest is reckoned
          have keep : ∀ {e5 : Sl} {F5 H5 : Hp} {σ5 : St}, Stp F2 H2 e2 (wipe σ us) F5 H5 e5 σ5 → H5 D = some (.lst av) ∧ F5 D = none ∧ ¬ Own e5 σ5 D := fun {e5 F5 H5 σ5} s5 => by
            have nD : ¬ NM H2 e2 (wipe σ us) D := fun z => by
              rcases z with z | z
              · rw [d1] at z; cases z
              · exact d3 z
            refine ⟨s5.kept D _ d1 d3, ?_, fun z => nD (s5.newO D z)⟩
            cases q : F5 D with
            | none => rfl
            | some u => exact absurd (s5.newF D d2 (by rw [q]; exact fun z => nomatch z)) nD
          -- back to the wiped slots
          have back : ∀ {e5 : Sl} {F5 H5 : Hp} {σ5 : St}, wipe σ5 us = wipe σ us → Rel K mg F5 e5 σ5 H5 → Stp F2 H2 e2 (wipe σ us) F5 H5 e5 σ5 → (∀ i c, e2[i]? = some (.own true c) → i ∉ us) → Rel K mg F5 (wip e5 us) (wipe σ us) H5 ∧ Stp F2 H2 e2 (wipe σ us) F5 H5 (wip e5 us) (wipe σ us) := fun {e5 F5 H5 σ5} hw R5 s5 hfix => by
            have Rw5 := R5.wip us
            rw [hw] at Rw5
            refine ⟨Rw5, s5.fro, s5.kept, s5.dom, s5.newF, fun b hb => s5.newO b (own_wip (vs := us) (by rw [hw]; exact hb)), fun i c hc => ?_, by rw [wip_len]; exact s5.len⟩
            obtain ⟨⟨c', h1⟩, h2⟩ := s5.fix i c hc
            exact ⟨⟨c', by rw [wip_at (hfix i c hc)]; exact h1⟩, rfl⟩
          have nofix : ∀ i c, e2[i]? = some (.own true c) → i ∉ us := fun i c hc hm => by
            have hl : i < (wipe σ us).length := by rw [← R2.len]; exact (List.getElem?_eq_some_iff.mp hc).1
            obtain ⟨p, o, h1, _⟩ := R2.ok i _ _ hc (List.getElem?_eq_getElem hl)
            have h2 : (wipe σ us)[i]? = some (some (.ref p)) := by rw [List.getElem?_eq_getElem hl, h1]
            exact (wipe_some h2).2 hm
          cases wt : t d e2 with
          | bad => rw [wt] at w2; cases w2
          | ex x e' => rw [wt] at w2; cases w2
          | ok u e3 =>
            rw [wt] at w2
            intro σ4 F4 H4 s4 R4 bt
            have hw4 : wipe σ4 us = wipe σ us := by rw [bt.wipe, wipe_wipe]
            dsimp only at w2
            refine ⟨hw4, e3, F4, R4, ?_⟩
            cases wp : p e3 with
            | bad => rw [wp] at w2; cases w2
            | ex x e' => rw [wp] at w2; cases w2
            | ok b e4 =>
              rw [wp] at w2
              intro b' F5 H5 s5 R5 hb'
              cases hb'
              have s25 := (s3.trans s4).trans s5
              cases b with
              | false =>
                obtain ⟨k1, k2, k3⟩ := keep s25
                obtain ⟨Rb, sb⟩ := back hw4 R5 s25 nofix
                obtain ⟨k4, k5, k6⟩ := keep sb
                exact iteF ⟨wip e4 us, F5, acc, av, Rb, s2.trans sb, sm2.trans s25.fro, k4, k5, k6, d4.mono s25.fro, w2⟩
              | true =>
                dsimp only at w2
                refine iteT ⟨e4, F5, R5, ?_⟩
                unfold M.bind at w2
                cases wf : f e4 with
                | bad => rw [wf] at w2; cases w2
                | ex x e' => rw [wf] at w2; cases w2
                | ok r e5 =>
                  rw [wf] at w2
                  intro y F6 H6 s6 R6 q6
                  dsimp only at w2
                  cases wz : frz r e5 with
                  | bad => rw [wz] at w2; cases w2
                  | ex x e' => exact (frz_noex wz).elim
                  | ok dy e6 =>
                    rw [wz] at w2
                    dsimp only at w2
                    split at w2
                    · rename_i hz
                      obtain ⟨F7, s7, R7, q7⟩ := frz_ok R6 q6 wz s6
                      have s27 := s25.trans s7
                      obtain ⟨k1, k2, k3⟩ := keep s27
                      obtain ⟨Rb, sb⟩ := back hw4 R7 s27 nofix
                      obtain ⟨k4, k5, k6⟩ := keep sb
                      refine ⟨av, k1, by rw [d4.length]; exact hz, wip e6 us, F7, acc ++ [dy], av ++ [y], ?_, ?_, sm2.trans s27.fro, upd_same, k5, k6, (d4.mono s27.fro).append (.cons q7 .nil), w2⟩
                      · -- the new list's own content turns
                        refine ⟨fun b u q => ?_, Rb.len, fun j sl o es ex => ?_, Rb.inj⟩
                        · rw [upd_ne (ne_of_none q k5)]; exact Rb.sub b u q
                        · have q := Rb.ok j sl o es ex
                          cases sl with
                          | no => trivial
                          | val d => exact q
                          | own fx c =>
                            obtain ⟨a', o', h1, hf', hh', hc'⟩ := q
                            refine ⟨a', o', h1, hf', ?_, hc'⟩
                            rw [upd_ne]
                            · exact hh'
                            · rintro rfl
                              exact k6 ⟨j, fx, c, es, by rw [ex, h1]⟩
                      · have s1b := s2.trans sb
                        refine ⟨s1b.fro, fun b o h n => ?_, fun b h => ?_, s1b.newF, s1b.newO, s1b.fix, s1b.len⟩
                        · rw [upd_ne (ne_of_none h hD)]; exact s1b.kept b o h n
                        · by_cases z : b = D
                          · rw [z]; exact hD
                          · rw [upd_ne z] at h; exact s1b.dom b h
                    · cases w2
        · rintro H2 ⟨e2, F2, acc, av, R2, s2, sm2, d1, d2, d3, d4, w2⟩
          rw [List.drop_length] at w2
          unfold lcRun at w2
          cases w2
          obtain ⟨Ru, su, ow⟩ := unw_ok R1 hn s2 R2
          refine h (.ref D) F2 H2 (s1.trans su) Ru ⟨D, _, rfl, d2, d1, ⟨av, rfl, d4⟩, fun z => d3 (ow D z), .inl (s1.dom D hD)⟩
      · exact h.elim
    · exact h.elim
variable (hN : X.N.Nodup)
/-- tests of a comprehension -/
abbrev DTs (X : Cx) (ifs : List Expr) (p : M Bool) : Prop := PTs X ifs (cT X.K X.mg W0 p)
theorem dts_nil {X : Cx} : DTs X [] tYesD := ⟨fun pins s σ H Q I ⟨e, F, R, h⟩ => pts_nil.run pins s σ H Q I (post_ret R h rfl)⟩
theorem dts_one {X : Cx} {c : Expr} (h : DT X W0 c p) : DTs X [c] p := pts_one h
theorem de_lc (own : List (Str × Nat)) (hc : X.calm = true) (hN : X.N.Nodup) (hi : DI X W tg iter it) (ok : blkC X.N X.env.scope scope own = true)
    (hg : ∀ (s : Shared) (H : Hp) (C : Addr) (cl : List (Str × Addr)) (fp : List Addr), DG (X.blk s H scope (compEnvC scope cl C X.env) fp) tg (own.map (·.2)) t) (ht : ∀ (s : Shared) (H : Hp) (C : Addr) (cl : List (Str × Addr)) (fp : List Addr), DTs (X.blk s H scope (compEnvC scope cl C X.env) fp) ifs p)
    (he : ∀ (s : Shared) (H : Hp) (C : Addr) (cl : List (Str × Addr)) (fp : List Addr), DE (X.blk s H scope (compEnvC scope cl C X.env) fp) W0 elt f) (hs : ∀ x, foldedSetIterable iter X.env x = pure x := by intro _; rfl) :
    DE X W (.ListComp elt [⟨tg, iter, ifs, 0⟩] scope pos) (eLc it t p f (own.map (·.2))) := peW (pe_lc hc hN hi (blkOk_by ok) hg ht he hs) fun _ _ _ h => lc_ok h
theorem ds_setLc (i : Nat) {y : Str} {py : Pos} (own : List (Str × Nat)) (hc : X.calm = true) (hN : X.N.Nodup) (hy : X.N[i]? = some y) (hyl : X.env.scope.names.lookup y = some .local) (hsw : swapsWith (.ListComp elt [⟨tg, iter, ifs, 0⟩] scope pos) (some (.Name y py)) spos.line X.env = pure true)
    (hi : DI X W tg iter it) (ok : blkC X.N X.env.scope scope own = true)
    (hg : ∀ (s : Shared) (H : Hp) (C : Addr) (cl : List (Str × Addr)) (fp : List Addr), DG (X.blk s H scope (compEnvC scope cl C X.env) fp) tg (own.map (·.2)) t) (ht : ∀ (s : Shared) (H : Hp) (C : Addr) (cl : List (Str × Addr)) (fp : List Addr), DTs (X.blk s H scope (compEnvC scope cl C X.env) fp) ifs p)
    (he : ∀ (s : Shared) (H : Hp) (C : Addr) (cl : List (Str × Addr)) (fp : List Addr), DE (X.blk s H scope (compEnvC scope cl C X.env) fp) W0 elt f) (hs : ∀ x, foldedSetIterable iter X.env x = pure x := by intro _; rfl) :
    DS X W (.Assign [.Name y py] (.ListComp elt [⟨tg, iter, ifs, 0⟩] scope pos) spos) (sSet i (eLc it t p f (own.map (·.2)))) := psW (ps_setLc hc hN hy hyl hsw hi (blkOk_by ok) hg ht he hs) fun E σ H ⟨e, F, R, h⟩ => by
  refine lc_ok (W := W) ⟨e, F, R, post_imp (postS_seq h) ?_⟩
  rintro v H1 ⟨r, e1, F1, q1, R1, s1, h1⟩
  exact stor_ok R1 q1 s1 h1
end
end Y

set_option Elab.async false
set_option linter.all false
set_option maxRecDepth 100000
set_option maxHeartbeats 4000000
namespace Y
open PySem PySem.Spec L2
set_option autoImplicit false
/-! ### a def, by what it does to data -/
abbrev Fn := Sl → Res RV
def isArg : Slot → Bool
  | .val _ => true
  | .own true _ => true
  | _ => false
def cSp (K : PySem.W.Frag) (mg : Mg) (f : Fn) : Sp := fun vs H Q E => ∃ args F, Rel K mg F args (vs.map some) H ∧ args.all isArg = true ∧ post K mg (fun c d _ H => E c d H) (rV K mg) F H args (vs.map some) (f args) Q
/-- what is left of the arguments: lent things as they are now -/
def outs : Sl → Sl → Sl
  | .own _ _ :: r, s :: t => s :: outs r t
  | a :: r, _ :: t => a :: outs r t
  | _, _ => []
def fnD (np n : Nat) (body : M Flo) : Fn := fun args => if args.length = np then (match body (args ++ List.replicate (n - np) .no) with
  | .ok (.rt (.val d)) e => .ok (.val d) (outs args e)
  | .ok (.rt (.own c)) e => .ok (.own c) (outs args e)
  | .ok .nx e => .ok (.val .non) (outs args e)
  | .ex x e => .ex x (outs args e)
  | _ => .bad) else .bad
section
variable {K : PySem.W.Frag} {mg : Mg} {F H F' H' : Hp}
theorem outs_len : ∀ {args e : Sl}, args.length ≤ e.length → (outs args e).length = args.length
  | [], _, _ => by cases ‹Sl› <;> rfl
  | s :: r, [], h => by simp at h
  | .no :: r, t :: u, h => by show (outs r u).length + 1 = r.length + 1; rw [outs_len (by simpa using h)]
  | .val d :: r, t :: u, h => by show (outs r u).length + 1 = r.length + 1; rw [outs_len (by simpa using h)]
  | .own f c :: r, t :: u, h => by show (outs r u).length + 1 = r.length + 1; rw [outs_len (by simpa using h)]
theorem outs_get : ∀ {args e : Sl} {i : Nat} {s : Slot}, (outs args e)[i]? = some s → (∃ f c, args[i]? = some (.own f c) ∧ e[i]? = some s) ∨ ((∀ f c, args[i]? ≠ some (.own f c)) ∧ args[i]? = some s)
  | [], e, i, s, h => by cases e <;> simp [outs] at h
  | s :: r, [], i, _, h => by cases s <;> simp [outs] at h
  | .no :: r, t :: u, 0, s, h => by
    have e : Slot.no = s := by simpa [outs] using h
    subst e
    exact .inr ⟨fun f c z => by simp at z, rfl⟩
  | .val d :: r, t :: u, 0, s, h => by
    have e : Slot.val d = s := by simpa [outs] using h
    subst e
    exact .inr ⟨fun f c z => by simp at z, rfl⟩
  | .own f c :: r, t :: u, 0, s, h => by
    have e : t = s := by simpa [outs] using h
    subst e
    exact .inl ⟨f, c, rfl, rfl⟩
  | .no :: r, t :: u, i + 1, s, h => by simpa using outs_get (args := r) (e := u) (i := i) (s := s) (by simpa [outs] using h)
  | .val d :: r, t :: u, i + 1, s, h => by simpa using outs_get (args := r) (e := u) (i := i) (s := s) (by simpa [outs] using h)
  | .own f c :: r, t :: u, i + 1, s, h => by simpa using outs_get (args := r) (e := u) (i := i) (s := s) (by simpa [outs] using h)
theorem start_get {N : List Str} {vs : List V} {i : Nat} (h : i < vs.length) : (L2.start N vs)[i]? = (vs.map some)[i]? := by
  unfold L2.start
  rw [List.getElem?_append_left (by rw [List.length_map]; exact h)]
theorem ext_get {args : Sl} {k i : Nat} (h : i < args.length) : (args ++ List.replicate k Slot.no)[i]? = args[i]? := List.getElem?_append_left h
theorem ext_own {args : Sl} {k i : Nat} {f : Bool} {c : Cont} (h : (args ++ List.replicate k Slot.no)[i]? = some (.own f c)) : i < args.length ∧ args[i]? = some (.own f c) := by
  by_cases z : i < args.length
  · exact ⟨z, by rw [ext_get z] at h; exact h⟩
  · rw [List.getElem?_append_right (by omega), List.getElem?_replicate] at h
    split at h <;> cases h
/-- the def's own frame at its entry -/
theorem Rel.entry {args : Sl} {vs : List V} {N : List Str} {n : Nat} (R : Rel K mg F args (vs.map some) H) (hn : N.length = n) (hl : args.length ≤ n) : Rel K mg F (args ++ List.replicate (n - args.length) .no) (L2.start N vs) H := by
  have hv : args.length = vs.length := by rw [R.len, List.length_map]
  refine ⟨R.sub, ?_, fun i s o es ex => ?_, fun i j f g c d a ei ej si sj => ?_⟩
  · unfold L2.start
    rw [List.length_append, List.length_append, List.length_replicate, List.length_replicate, List.length_map]
    omega
  · by_cases z : i < args.length
    · rw [ext_get z] at es
      rw [start_get (by omega)] at ex
      exact R.ok i s o es ex
    · rw [List.getElem?_append_right (by omega), List.getElem?_replicate] at es
      split at es
      · cases es; trivial
      · cases es
  · obtain ⟨zi, ei⟩ := ext_own ei
    obtain ⟨zj, ej⟩ := ext_own ej
    rw [start_get (by omega)] at si sj
    exact R.inj i j f g c d a ei ej si sj
theorem own_entry {args : Sl} {vs : List V} {N : List Str} {k : Nat} {b : Addr} (hv : args.length = vs.length) : Own (args ++ List.replicate k .no) (L2.start N vs) b ↔ Own args (vs.map some) b := by
  constructor
  · rintro ⟨i, f, c, h1, h2⟩
    obtain ⟨z, h1⟩ := ext_own h1
    rw [start_get (by omega)] at h2
    exact ⟨i, f, c, h1, h2⟩
  · rintro ⟨i, f, c, h1, h2⟩
    have z := (List.getElem?_eq_some_iff.mp h1).1
    exact ⟨i, f, c, by rw [ext_get z]; exact h1, by rw [start_get (by omega)]; exact h2⟩
/-- .. and at its end -/
theorem at_end {args : Sl} {vs : List V} {N : List Str} {k : Nat} {e' : Sl} {σ' : St} (R : Rel K mg F args (vs.map some) H) (ha : args.all isArg = true) (hlen : args.length ≤ e'.length) (s : Stp F H (args ++ List.replicate k .no) (L2.start N vs) F' H' e' σ') (R' : Rel K mg F' e' σ' H') :
    Rel K mg F' (outs args e') (vs.map some) H' ∧ Stp F H args (vs.map some) F' H' (outs args e') (vs.map some) ∧ ∀ b, Own (outs args e') (vs.map some) b → Own e' σ' b := by
  have hv : args.length = vs.length := by rw [R.len, List.length_map]
  have arg : ∀ {i : Nat} {f : Bool} {c : Cont}, args[i]? = some (.own f c) → f = true := fun {i f c} h => by
    have := List.all_eq_true.mp ha _ (List.mem_of_getElem? h)
    cases f with
    | true => rfl
    | false => cases this
  have fx : ∀ {i : Nat} {f : Bool} {c : Cont}, args[i]? = some (.own f c) → (∃ c', e'[i]? = some (.own true c')) ∧ σ'[i]? = (vs.map some)[i]? := fun {i f c} h => by
    have z := (List.getElem?_eq_some_iff.mp h).1
    obtain ⟨h1, h2⟩ := s.fix i c (by rw [ext_get z, h, arg h])
    exact ⟨h1, by rw [h2, start_get (by omega)]⟩
  have get : ∀ {i : Nat} {f : Bool} {c : Cont}, (outs args e')[i]? = some (.own f c) → ∃ c0, args[i]? = some (.own true c0) ∧ e'[i]? = some (.own f c) ∧ σ'[i]? = (vs.map some)[i]? := fun {i f c} h => by
    rcases outs_get h with ⟨f0, c0, h1, h2⟩ | ⟨h1, h2⟩
    · have := arg h1
      subst this
      exact ⟨c0, h1, h2, (fx h1).2⟩
    · exact absurd h2 (h1 f c)
  have ow : ∀ b, Own (outs args e') (vs.map some) b → Own e' σ' b := fun b ⟨i, f, c, h1, h2⟩ => by
    obtain ⟨c0, _, h3, h4⟩ := get h1
    exact ⟨i, f, c, h3, by rw [h4]; exact h2⟩
  have nm : ∀ b, NM H (args ++ List.replicate k .no) (L2.start N vs) b → NM H args (vs.map some) b := fun b z => z.imp id (own_entry hv).mp
  refine ⟨⟨R'.sub, by rw [outs_len hlen]; exact R.len, fun i t o es ex => ?_, fun i j f g c d a ei ej si sj => ?_⟩, ⟨s.fro, fun b o h n => s.kept b o h fun z => n ((own_entry hv).mp z), s.dom, fun b h h' => nm b (s.newF b h h'), fun b ⟨i, f, c, h1, h2⟩ => ?_, fun i c h => ?_, outs_len hlen⟩, ow⟩
  · rcases outs_get es with ⟨f0, c0, h1, h2⟩ | ⟨h1, h2⟩
    · exact R'.ok i t o h2 (by rw [(fx h1).2]; exact ex)
    · have q := R.ok i t o h2 ex
      cases t with
      | no => trivial
      | val d => obtain ⟨v, q1, q2⟩ := q; exact ⟨v, q1, q2.mono s.fro⟩
      | own f c => exact absurd h2 (h1 f c)
  · obtain ⟨_, _, ei, qi⟩ := get ei
    obtain ⟨_, _, ej, qj⟩ := get ej
    exact R'.inj i j f g c d a ei ej (by rw [qi]; exact si) (by rw [qj]; exact sj)
  · obtain ⟨c0, h3, _, _⟩ := get h1
    exact .inr ⟨i, true, c0, h3, h2⟩
  · obtain ⟨⟨c', h1⟩, _⟩ := fx h
    refine ⟨⟨c', ?_⟩, rfl⟩
    have hi : i < (outs args e').length := by rw [outs_len hlen]; exact (List.getElem?_eq_some_iff.mp h).1
    rw [List.getElem?_eq_getElem hi]
    rcases outs_get (List.getElem?_eq_getElem hi) with ⟨_, _, _, h2⟩ | ⟨h2, _⟩
    · rw [h1] at h2; exact h2.symm
    · exact absurd h (h2 true c)
end
section
variable {P : Program} {w : World} {K : PySem.W.Frag} {mg : Mg} {base : Heap}
theorem entry_ok {N : List Str} {np n : Nat} {body : M Flo} {vs : List V} {H : Hp} {Q : VK} {E : XK} (hn : N.length = n) (hle : np ≤ n) (h : cSp K mg (fnD np n body) vs H Q E) : cS K mg (fun c d _ H => E c d H) body { nx := fun _ H' => Q .non H', rt := Q } (L2.start N vs) H := by
  obtain ⟨args, F, R, ha, h⟩ := h
  unfold fnD at h
  split at h
  · rename_i hl
    have RE := R.entry (N := N) (n := n) hn (by omega)
    rw [hl] at RE
    refine ⟨_, F, RE, ?_⟩
    have hlen : ∀ {F' H' : Hp} {e' : Sl} {σ' : St}, Stp F H (args ++ List.replicate (n - np) .no) (L2.start N vs) F' H' e' σ' → args.length ≤ e'.length := fun s => by rw [s.len, List.length_append]; omega
    have hv : args.length = vs.length := by rw [R.len, List.length_map]
    cases q : body (args ++ List.replicate (n - np) .no) with
    | bad => rw [q] at h; exact h.elim
    | ex x e' =>
      rw [q] at h
      intro cls d σ' F' H' s' R' z
      obtain ⟨r1, r2, r3⟩ := at_end R ha (hlen s') s' R'
      exact h cls d F' H' r2 r1 z
    | ok fl e' =>
      rw [q] at h
      cases fl with
      | nx =>
        intro σ' F' H' s' R'
        obtain ⟨r1, r2, r3⟩ := at_end R ha (hlen s') s' R'
        exact h .non F' H' r2 r1 .non
      | bk => exact h.elim
      | ct => exact h.elim
      | rt r =>
        intro v σ' F' H' s' R' z
        cases r with
        | pk i => exact h.elim
        | val d =>
          obtain ⟨r1, r2, r3⟩ := at_end R ha (hlen s') s' R'
          exact h v F' H' r2 r1 z
        | own c =>
          obtain ⟨r1, r2, r3⟩ := at_end R ha (hlen s') s' R'
          obtain ⟨a, o, e1, hF, hH, hc, hn', hN'⟩ := z
          exact h v F' H' r2 r1 ⟨a, o, e1, hF, hH, hc, fun z => hn' (r3 a z), hN'.imp id (own_entry hv).mp⟩
  · exact h.elim
/-- THE RULE for a def -/
theorem fn_den {x qual : Str} {st : Stmt} {f : Addr} {fd : FuncData} {N ps : List Str} {k np n : Nat} {body : M Flo} (Fu : Fun K x qual st f fd) (S : FnScope N ps (defScope st)) (hnp : ps.length = np) (hn : N.length = n) (hle : np ≤ n)
    (hb : ∀ (cdv : Value) (A : Around) (outer : List Env) (s : Shared) (H : Hp) (E : XK), Room k (A.deeper (PyProof.Rows.envOfC qual (defScope st) s.heap.objs.size f cdv)) →
      Takes (cxOf (L2.CX P w) P w K mg base N qual (defScope st) f cdv A outer s H E) (fun c d _ H => E c d H) →
      PassesOwn (model P w) (A.deeper (PyProof.Rows.envOfC qual (defScope st) s.heap.objs.size f cdv)) (cxOf (L2.CX P w) P w K mg base N qual (defScope st) f cdv A outer s H E).env (cxOf (L2.CX P w) P w K mg base N qual (defScope st) f cdv A outer s H E).xe →
      DSs (cxOf (L2.CX P w) P w K mg base N qual (defScope st) f cdv A outer s H E) (fun c d _ H => E c d H) (defBody st) body) :
    FnOk P w K mg base (L2.CX P w) (k + 1) f fd ps (cSp K mg (fnD np n body)) := by
  refine Fu.okX S (fun vs H Q E h => ?_) (fun cdv A outer s H vs Q E hr h => ?_)
  · obtain ⟨args, F, R, ha, h⟩ := h
    unfold fnD at h
    split at h
    · rename_i hl
      have := R.len
      rw [List.length_map] at this
      rw [hnp]; omega
    · exact h.elim
  · exact ⟨_, hb cdv A outer s H E hr (takes_of rfl rfl rfl rfl) (passes_of rfl), entry_ok hn hle h⟩
end
/-! ### a call -/
def pks : List RV → List Nat
  | [] => []
  | .pk i :: rs => i :: pks rs
  | _ :: rs => pks rs
def pkOk : List RV → Bool
  | [] => true
  | .pk i :: rs => !(pks rs).contains i && pkOk rs
  | _ :: rs => pkOk rs
def argSl (e : Sl) : List RV → Option Sl
  | [] => some []
  | .val d :: rs => (argSl e rs).map (.val d :: ·)
  | .pk i :: rs => match e[i]? with
    | some (.own _ c) => (argSl e rs).map (.own true c :: ·)
    | _ => none
  | .own _ :: _ => none
def chg (e : Sl) (i : Nat) (c : Cont) : Sl := match e[i]? with
  | some (.own f _) => e.set i (.own f c)
  | _ => e
def back (e : Sl) : List RV → Sl → Sl
  | .pk i :: rs, .own _ c :: sl => back (chg e i c) rs sl
  | _ :: rs, _ :: sl => back e rs sl
  | _, _ => e
def callK (fn : Fn) (rs : List RV) : M RV := fun e => if pkOk rs then (match argSl e rs with
  | some sl => (match fn sl with
    | .ok (.val d) sl' => .ok (.val d) (back e rs sl')
    | .ok (.own c) sl' => .ok (.own c) (back e rs sl')
    | .ok (.pk _) _ => .bad
    | .ex x sl' => .ex x (back e rs sl')
    | .bad => .bad)
  | none => .bad) else .bad
def eCall (fn : Fn) (as : M (List RV)) : M RV := M.bind as (callK fn)
section
variable {K : PySem.W.Frag} {mg : Mg} {F H F' H' : Hp} {σ : St}
theorem mem_pks {i : Nat} : ∀ {rs : List RV} {j : Nat}, rs[j]? = some (.pk i) → i ∈ pks rs
  | [], _, h => by simp at h
  | .pk k :: rs, 0, h => by
    have e : k = i := by simpa using h
    subst e
    exact List.mem_cons_self
  | .val d :: rs, 0, h => by simp at h
  | .own d :: rs, 0, h => by simp at h
  | .pk k :: rs, j + 1, h => List.mem_cons_of_mem _ (mem_pks (rs := rs) (j := j) (by simpa using h))
  | .val k :: rs, j + 1, h => mem_pks (rs := rs) (j := j) (by simpa using h)
  | .own k :: rs, j + 1, h => mem_pks (rs := rs) (j := j) (by simpa using h)
theorem pk_inj {i : Nat} : ∀ {rs : List RV} {j k : Nat}, pkOk rs = true → rs[j]? = some (.pk i) → rs[k]? = some (.pk i) → j = k
  | [], _, _, _, h, _ => by simp at h
  | r :: rs, 0, 0, _, _, _ => rfl
  | .pk m :: rs, 0, k + 1, ok, h1, h2 => by
    have e : m = i := by simpa using h1
    subst e
    have := mem_pks (rs := rs) (j := k) (i := m) (by simpa using h2)
    unfold pkOk at ok
    simp only [Bool.and_eq_true, Bool.not_eq_true', List.contains_eq_mem, decide_eq_false_iff_not] at ok
    exact absurd this ok.1
  | .val m :: rs, 0, k + 1, ok, h1, h2 => by simp at h1
  | .own m :: rs, 0, k + 1, ok, h1, h2 => by simp at h1
  | .pk m :: rs, j + 1, 0, ok, h1, h2 => by
    have e : m = i := by simpa using h2
    subst e
    have := mem_pks (rs := rs) (j := j) (i := m) (by simpa using h1)
    unfold pkOk at ok
    simp only [Bool.and_eq_true, Bool.not_eq_true', List.contains_eq_mem, decide_eq_false_iff_not] at ok
    exact absurd this ok.1
  | .val m :: rs, j + 1, 0, ok, h1, h2 => by simp at h2
  | .own m :: rs, j + 1, 0, ok, h1, h2 => by simp at h2
  | .pk m :: rs, j + 1, k + 1, ok, h1, h2 => by
    unfold pkOk at ok
    simp only [Bool.and_eq_true] at ok
    exact congrArg (· + 1) (pk_inj ok.2 (by simpa using h1) (by simpa using h2))
  | .val m :: rs, j + 1, k + 1, ok, h1, h2 => congrArg (· + 1) (pk_inj (rs := rs) ok (by simpa using h1) (by simpa using h2))
  | .own m :: rs, j + 1, k + 1, ok, h1, h2 => congrArg (· + 1) (pk_inj (rs := rs) ok (by simpa using h1) (by simpa using h2))
/-- the arguments as slots, place by place -/
inductive ArgAt (e : Sl) (F : Hp) (K : PySem.W.Frag) (mg : Mg) (σ : St) : V → RV → Slot → Prop
  | val {v : V} {d : D} : Rep K mg F v d → ArgAt e F K mg σ v (.val d) (.val d)
  | lent {v : V} {i : Nat} {f : Bool} {c : Cont} : e[i]? = some (.own f c) → σ[i]? = some (some v) → ArgAt e F K mg σ v (.pk i) (.own true c)
theorem arg_at {e : Sl} : ∀ {rs : List RV} {vs : List V} {sl : Sl}, Args K mg F σ vs rs → argSl e rs = some sl → sl.length = vs.length ∧ rs.length = vs.length ∧ sl.all isArg = true ∧ ∀ (j : Nat) (s : Slot), sl[j]? = some s → ∃ v r, vs[j]? = some v ∧ rs[j]? = some r ∧ ArgAt e F K mg σ v r s
  | _, _, _, .nil, h => by cases h; exact ⟨rfl, rfl, rfl, fun j s z => by simp at z⟩
  | _, _, _, .cons (r := .own c) a b, h => a.elim
  | _, _, _, .cons (r := .val d) a b, h => by
    unfold argSl at h
    obtain ⟨t, ht, rfl⟩ := Option.map_eq_some_iff.mp h
    obtain ⟨i1, i2, i3, i4⟩ := arg_at b ht
    refine ⟨congrArg (· + 1) i1, congrArg (· + 1) i2, by rw [List.all_cons, i3]; rfl, fun j s z => ?_⟩
    cases j with
    | zero =>
      have e : Slot.val d = s := by simpa using z
      subst e
      exact ⟨_, _, rfl, rfl, .val a⟩
    | succ j => simpa using i4 j s (by simpa using z)
  | _, _, _, .cons (r := .pk i) a b, h => by
    unfold argSl at h
    split at h
    · rename_i f c hc
      obtain ⟨t, ht, rfl⟩ := Option.map_eq_some_iff.mp h
      obtain ⟨i1, i2, i3, i4⟩ := arg_at b ht
      refine ⟨congrArg (· + 1) i1, congrArg (· + 1) i2, by rw [List.all_cons, i3]; rfl, fun j s z => ?_⟩
      cases j with
      | zero =>
        have e : Slot.own true c = s := by simpa using z
        subst e
        exact ⟨_, _, rfl, rfl, .lent hc a⟩
      | succ j => simpa using i4 j s (by simpa using z)
    · cases h
/-- what back does at a slot -/
theorem chg_get {e : Sl} {i k : Nat} {c : Cont} {s : Slot} (h : (chg e i c)[k]? = some s) : (i = k ∧ ∃ f c0, e[k]? = some (.own f c0) ∧ s = .own f c) ∨ ((i ≠ k ∨ ∀ f c0, e[k]? ≠ some (.own f c0)) ∧ e[k]? = some s) := by
  unfold chg at h
  split at h
  · rename_i f c0 hc
    rcases get_set_of h with ⟨rfl, rfl⟩ | ⟨n, h⟩
    · exact .inl ⟨rfl, f, c0, hc, rfl⟩
    · exact .inr ⟨.inl n, h⟩
  · rename_i hc
    by_cases z : i = k
    · subst z
      exact .inr ⟨.inr fun f c0 q => hc f c0 q, h⟩
    · exact .inr ⟨.inl z, h⟩
theorem chg_len {e : Sl} {i : Nat} {c : Cont} : (chg e i c).length = e.length := by
  unfold chg
  split
  · exact List.length_set
  · rfl
theorem back_len : ∀ {rs : List RV} {sl e : Sl}, (back e rs sl).length = e.length
  | [], _, _ => by unfold back; rfl
  | r :: rs, [], e => by cases r <;> rfl
  | .pk i :: rs, .own f c :: sl, e => by unfold back; rw [back_len, chg_len]
  | .pk i :: rs, .no :: sl, e => by unfold back; exact back_len
  | .pk i :: rs, .val d :: sl, e => by unfold back; exact back_len
  | .val i :: rs, s :: sl, e => by unfold back; exact back_len
  | .own i :: rs, s :: sl, e => by unfold back; exact back_len
/-- at slot k: lent and come back, or as it was -/
theorem back_get {k : Nat} {s : Slot} : ∀ {rs : List RV} {sl e : Sl}, pkOk rs = true → (∀ (j i : Nat), rs[j]? = some (.pk i) → ∃ (f : Bool) (c : Cont), sl[j]? = some (.own f c)) → (back e rs sl)[k]? = some s →
    (∃ (j : Nat) (f g : Bool) (c c0 : Cont), rs[j]? = some (.pk k) ∧ sl[j]? = some (.own g c) ∧ e[k]? = some (.own f c0) ∧ s = .own f c) ∨ (((∀ j : Nat, rs[j]? ≠ some (.pk k)) ∨ ∀ (f : Bool) (c0 : Cont), e[k]? ≠ some (.own f c0)) ∧ e[k]? = some s)
  | [], sl, e, _, _, h => by
    unfold back at h
    exact .inr ⟨.inl fun j z => by simp at z, h⟩
  | .val d :: rs, [], e, _, ho, h => by
    have h : e[k]? = some s := h
    refine .inr ⟨.inl fun j z => ?_, h⟩
    obtain ⟨f, c, q⟩ := ho j k z
    simp at q
  | .own d :: rs, [], e, _, ho, h => by
    have h : e[k]? = some s := h
    refine .inr ⟨.inl fun j z => ?_, h⟩
    obtain ⟨f, c, q⟩ := ho j k z
    simp at q
  | .pk d :: rs, [], e, _, ho, h => by
    obtain ⟨f, c, q⟩ := ho 0 d rfl
    simp at q
  | .val d :: rs, t :: sl, e, ok, ho, h => by
    unfold back at h
    rcases back_get (rs := rs) (sl := sl) ok (fun j i z => by simpa using ho (j + 1) i (by simpa using z)) h with ⟨j, f, g, c, c0, h1, h2, h3, h4⟩ | ⟨h1, h2⟩
    · exact .inl ⟨j + 1, f, g, c, c0, by simpa using h1, by simpa using h2, h3, h4⟩
    · refine .inr ⟨h1.imp (fun z j => ?_) id, h2⟩
      cases j with
      | zero => intro y; simp at y
      | succ j => simpa using z j
  | .own d :: rs, t :: sl, e, ok, ho, h => by
    unfold back at h
    rcases back_get (rs := rs) (sl := sl) ok (fun j i z => by simpa using ho (j + 1) i (by simpa using z)) h with ⟨j, f, g, c, c0, h1, h2, h3, h4⟩ | ⟨h1, h2⟩
    · exact .inl ⟨j + 1, f, g, c, c0, by simpa using h1, by simpa using h2, h3, h4⟩
    · refine .inr ⟨h1.imp (fun z j => ?_) id, h2⟩
      cases j with
      | zero => intro y; simp at y
      | succ j => simpa using z j
  | .pk i :: rs, .no :: sl, e, ok, ho, h => by
    obtain ⟨f, c, q⟩ := ho 0 i rfl
    simp at q
  | .pk i :: rs, .val d :: sl, e, ok, ho, h => by
    obtain ⟨f, c, q⟩ := ho 0 i rfl
    simp at q
  | .pk i :: rs, .own g c :: sl, e, ok, ho, h => by
    have okr : pkOk rs = true := by
      unfold pkOk at ok
      simp only [Bool.and_eq_true] at ok
      exact ok.2
    unfold back at h
    rcases back_get (rs := rs) (sl := sl) okr (fun j i z => by simpa using ho (j + 1) i (by simpa using z)) h with ⟨j, f, g', c', c0, h1, h2, h3, h4⟩ | ⟨h1, h2⟩
    · have ne : i ≠ k := fun z => by
        subst z
        have := pk_inj (rs := .pk i :: rs) (j := 0) (k := j + 1) ok rfl (by simpa using h1)
        omega
      rcases chg_get h3 with ⟨z, _⟩ | ⟨_, h3⟩
      · exact absurd z ne
      · exact .inl ⟨j + 1, f, g', c', c0, by simpa using h1, by simpa using h2, h3, h4⟩
    · rcases chg_get h2 with ⟨rfl, f, c0, h3, h4⟩ | ⟨h3, h4⟩
      · exact .inl ⟨0, f, g, c, c0, rfl, rfl, h3, h4⟩
      · refine .inr ⟨?_, h4⟩
        rcases h3 with h3 | h3
        · rcases h1 with h1 | h1
          · refine .inl fun j => ?_
            cases j with
            | zero => intro y; exact h3 (by simpa using y)
            | succ j => simpa using h1 j
          · refine .inr fun f c0 z => ?_
            have : (chg e i c)[k]? = e[k]? := by
              unfold chg
              split
              · exact List.getElem?_set_ne h3
              · rfl
            exact h1 f c0 (by rw [this]; exact z)
        · exact .inr h3
end
end Y

set_option Elab.async false
set_option linter.all false
set_option maxRecDepth 100000
set_option maxHeartbeats 4000000
namespace Y
open PySem PySem.Spec L2
set_option autoImplicit false
section
variable {K : PySem.W.Frag} {mg : Mg} {F H F' H' : Hp} {σ : St} {e : Sl} {vs : List V} {rs : List RV} {sl sl' : Sl} {W : WX} {Q : VK} {fn : Fn}
/-- the callee's view of the arguments -/
theorem Rel.args (R : Rel K mg F e σ H) (ok : pkOk rs = true) (A : Args K mg F σ vs rs) (hs : argSl e rs = some sl) : Rel K mg F sl (vs.map some) H := by
  obtain ⟨l1, l2, l3, l4⟩ := arg_at A hs
  have vget : ∀ {j : Nat} {v : V}, vs[j]? = some v → (vs.map some)[j]? = some (some v) := fun {j v} h => by rw [List.getElem?_map, h]; rfl
  refine ⟨R.sub, by rw [l1, List.length_map], fun j s o es ex => ?_, fun i j f g c d a ei ej si sj => ?_⟩
  · obtain ⟨v, r, h1, h2, h3⟩ := l4 j s es
    rw [vget h1] at ex
    cases ex
    cases h3 with
    | val q => exact ⟨v, rfl, q⟩
    | lent q1 q2 =>
      obtain ⟨p, o', h4, h5⟩ := R.ok _ _ _ q1 q2
      exact ⟨p, o', h4, h5⟩
  · obtain ⟨v1, r1, h1, h2, h3⟩ := l4 i _ ei
    obtain ⟨v2, r2, k1, k2, k3⟩ := l4 j _ ej
    rw [vget h1] at si
    rw [vget k1] at sj
    cases si
    cases sj
    cases h3 with
    | lent q1 q2 =>
      cases k3 with
      | lent p1 p2 =>
        have := R.inj _ _ _ _ _ _ _ q1 p1 q2 p2
        subst this
        exact pk_inj ok h2 k2
theorem own_args (R : Rel K mg F e σ H) (A : Args K mg F σ vs rs) (hs : argSl e rs = some sl) {b : Addr} (h : Own sl (vs.map some) b) : ∃ (j i : Nat) (f : Bool) (c : Cont), rs[j]? = some (.pk i) ∧ e[i]? = some (.own f c) ∧ σ[i]? = some (some (.ref b)) ∧ vs[j]? = some (.ref b) := by
  obtain ⟨l1, l2, l3, l4⟩ := arg_at A hs
  obtain ⟨j, f, c, h1, h2⟩ := h
  obtain ⟨v, r, k1, k2, k3⟩ := l4 j _ h1
  rw [List.getElem?_map, k1] at h2
  have ev : v = .ref b := by simpa using h2
  subst ev
  cases k3 with
  | lent q1 q2 => exact ⟨j, _, _, _, k2, q1, q2, k1⟩
theorem call_back (R : Rel K mg F e σ H) (ok : pkOk rs = true) (A : Args K mg F σ vs rs) (hs : argSl e rs = some sl) (s : Stp F H sl (vs.map some) F' H' sl' (vs.map some)) (R' : Rel K mg F' sl' (vs.map some) H') :
    Rel K mg F' (back e rs sl') σ H' ∧ Stp F H e σ F' H' (back e rs sl') σ ∧ ∀ b, Own (back e rs sl') σ b → Own e σ b := by
  obtain ⟨l1, l2, l3, l4⟩ := arg_at A hs
  have oe : ∀ b, Own sl (vs.map some) b → Own e σ b := fun b h => by
    obtain ⟨j, i, f, c, _, h2, h3, _⟩ := own_args R A hs h
    exact ⟨i, f, c, h2, h3⟩
  -- every lent slot comes back
  have lent : ∀ (j i : Nat), rs[j]? = some (.pk i) → ∃ (f : Bool) (c : Cont) (v : V), sl'[j]? = some (.own true c) ∧ vs[j]? = some v ∧ σ[i]? = some (some v) ∧ ∃ f0 c0, e[i]? = some (.own f0 c0) := fun j i h => by
    have hj : j < sl.length := by rw [l1, ← l2]; exact (List.getElem?_eq_some_iff.mp h).1
    obtain ⟨v, r, k1, k2, k3⟩ := l4 j _ (List.getElem?_eq_getElem hj)
    rw [h] at k2
    cases k2
    generalize hq : sl[j] = q at k3
    cases k3 with
    | lent q1 q2 =>
      obtain ⟨⟨c', z⟩, _⟩ := s.fix j _ (by rw [List.getElem?_eq_getElem hj, hq])
      exact ⟨true, c', v, z, k1, q2, _, _, q1⟩
  have hso : ∀ (j i : Nat), rs[j]? = some (.pk i) → ∃ (f : Bool) (c : Cont), sl'[j]? = some (.own f c) := fun j i h => by
    obtain ⟨f, c, v, z, _⟩ := lent j i h
    exact ⟨true, c, z⟩
  have get : ∀ {k : Nat} {t : Slot}, (back e rs sl')[k]? = some t → (∃ (j : Nat) (f g : Bool) (c c0 : Cont), rs[j]? = some (.pk k) ∧ sl'[j]? = some (.own g c) ∧ e[k]? = some (.own f c0) ∧ t = .own f c) ∨ (((∀ j : Nat, rs[j]? ≠ some (.pk k)) ∨ ∀ (f : Bool) (c0 : Cont), e[k]? ≠ some (.own f c0)) ∧ e[k]? = some t) := fun h => back_get ok hso h
  have og : ∀ {k : Nat} {f : Bool} {c : Cont}, (back e rs sl')[k]? = some (.own f c) → ∃ c0, e[k]? = some (.own f c0) := fun {k f c} h => by
    rcases get h with ⟨j, f', g, c', c0, _, _, h3, h4⟩ | ⟨_, h⟩
    · cases h4; exact ⟨c0, h3⟩
    · exact ⟨c, h⟩
  have ob : ∀ b, Own (back e rs sl') σ b → Own e σ b := fun b ⟨k, f, c, h1, h2⟩ => by
    obtain ⟨c0, h3⟩ := og h1
    exact ⟨k, f, c0, h3, h2⟩
  -- what is own here and not lent is not the callee's
  have mine : ∀ {k : Nat} {f : Bool} {c0 : Cont} {b : Addr}, e[k]? = some (.own f c0) → σ[k]? = some (some (.ref b)) → (∀ j : Nat, rs[j]? ≠ some (.pk k)) → ¬ Own sl (vs.map some) b := fun {k f c0 b} h1 h2 h3 h4 => by
    obtain ⟨j, i, f', c', q1, q2, q3, _⟩ := own_args R A hs h4
    have := R.inj _ _ _ _ _ _ _ h1 q2 h2 q3
    subst this
    exact h3 j q1
  refine ⟨⟨R'.sub, by rw [back_len]; exact R.len, fun k t o es ex => ?_, fun i j f g c d a ei ej si sj => ?_⟩, ⟨s.fro, fun b o h n => s.kept b o h fun z => n (oe b z), s.dom, fun b h h' => (s.newF b h h').imp id (oe b), fun b h => .inr (ob b h), fun i c h => ?_, by rw [back_len]⟩, ob⟩
  · rcases get es with ⟨j, f, g, c, c0, h1, h2, h3, rfl⟩ | ⟨h1, h2⟩
    · obtain ⟨_, c', v, z1, z2, z3, _⟩ := lent j k h1
      rw [h2] at z1
      cases z1
      rw [z3] at ex
      cases ex
      obtain ⟨a, o, q1, q2⟩ := R'.ok j _ _ h2 (show (vs.map some)[j]? = some (some v) by rw [List.getElem?_map, z2]; rfl)
      exact ⟨a, o, q1, q2⟩
    · have q := R.ok k t o h2 ex
      cases t with
      | no => trivial
      | val d => obtain ⟨v, q1, q2⟩ := q; exact ⟨v, q1, q2.mono s.fro⟩
      | own f c =>
        obtain ⟨a, o', q1, q2, q3, q4⟩ := q
        have hm : ¬ Own sl (vs.map some) a := by
          rcases h1 with h1 | h1
          · exact mine h2 (by rw [ex, q1]) h1
          · exact absurd h2 (h1 f c)
        refine ⟨a, o', q1, ?_, s.kept a o' q3 hm, q4.mono s.fro⟩
        cases z : F' a with
        | none => rfl
        | some u =>
          rcases s.newF a q2 (by rw [z]; exact fun y => nomatch y) with y | y
          · rw [q3] at y; cases y
          · exact absurd y hm
  · obtain ⟨c1, ei⟩ := og ei
    obtain ⟨c2, ej⟩ := og ej
    exact R.inj i j f g _ _ a ei ej si sj
  · refine ⟨?_, rfl⟩
    have hl : i < (back e rs sl').length := by rw [back_len]; exact (List.getElem?_eq_some_iff.mp h).1
    rcases get (List.getElem?_eq_getElem hl) with ⟨j, f, g, c', c0, _, _, h3, h4⟩ | ⟨_, h2⟩
    · rw [h] at h3
      cases h3
      exact ⟨c', by rw [List.getElem?_eq_getElem hl, h4]⟩
    · exact ⟨c, by rw [List.getElem?_eq_getElem hl, ← h2]; exact h⟩
/-- THE CALL: from what the caller wants to the callee's promise -/
theorem callK_ok (R : Rel K mg F e σ H) (A : Args K mg F σ vs rs) (h : post K mg W (rV K mg) F H e σ (callK fn rs e) Q) : cSp K mg fn vs H Q (fun c d H => W c d σ H) := by
  unfold callK at h
  split at h
  · rename_i ok
    cases hs : argSl e rs with
    | none => rw [hs] at h; exact h.elim
    | some sl =>
      rw [hs] at h
      obtain ⟨l1, l2, l3, l4⟩ := arg_at A hs
      have RA := R.args ok A hs
      refine ⟨sl, F, RA, l3, ?_⟩
      have oe : ∀ b, NM H sl (vs.map some) b → NM H e σ b := fun b z => z.imp id fun y => by
        obtain ⟨j, i, f, c, _, h2, h3, _⟩ := own_args R A hs y
        exact ⟨i, f, c, h2, h3⟩
      dsimp only at h
      cases w : fn sl with
      | bad => rw [w] at h; exact h.elim
      | ex x sl' =>
        rw [w] at h
        intro cls d F' H' s R' z
        obtain ⟨r1, r2, r3⟩ := call_back R ok A hs s R'
        exact h cls d F' H' r2 r1 z
      | ok r sl' =>
        rw [w] at h
        intro v F' H' s R' z
        obtain ⟨r1, r2, r3⟩ := call_back R ok A hs s R'
        cases r with
        | pk i => exact h.elim
        | val d => exact h v F' H' r2 r1 z
        | own c =>
          obtain ⟨a, o, e1, hF, hH, hc, hn, hN⟩ := z
          refine h v F' H' r2 r1 ⟨a, o, e1, hF, hH, hc, fun y => ?_, oe a hN⟩
          -- a new thing is none of the caller's
          obtain ⟨k, f, c', h1, h2⟩ := y
          obtain ⟨i', f', c'', h3, h4⟩ := r3 a ⟨k, f, c', h1, h2⟩
          obtain ⟨a', o', q1, q2, q3, q4⟩ := R.ok i' _ _ h3 h4
          cases q1
          rcases hN with hN | hN
          · rw [hN] at q3; cases q3
          · -- it was lent: then it is still the callee's
            obtain ⟨j, i, f0, c0, p1, p2, p3, p4⟩ := own_args R A hs hN
            obtain ⟨j0, f1, c1, m1, m2⟩ := hN
            have hj : ∃ c2, sl'[j0]? = some (.own true c2) := by
              have ht : f1 = true := by
                have := List.all_eq_true.mp l3 _ (List.mem_of_getElem? m1)
                cases f1 with
                | true => rfl
                | false => cases this
              subst ht
              exact (s.fix j0 c1 m1).1
            obtain ⟨c2, hj⟩ := hj
            exact hn ⟨j0, true, c2, hj, m2⟩
  · exact h.elim
end
section
variable {X : Cx} {W : WX} {a b c : Expr} {es : List Expr} {f g : M RV} {as : M (List RV)} {fn : Fn} {pos p : Pos} {k : Nat} {fa : Addr} {fd : FuncData} {ps : List Str} {x : Str}
theorem de_call (G : FnOk X.prog X.w X.K X.mg X.base (L2.CX X.prog X.w) k fa fd ps (cSp X.K X.mg fn)) (hr : Room k X.A) (tk : Takes X W) (hg : Gl X x) (hm : X.mg x = some (.ref fa)) (hk : PySem.W.keepIn X.K (.ref fa) = true) (hb : Binds X.K fd ps []) (ha : DA X W (a :: es) as)
    (hdb : (x == ("__debug__" : Str)) = false := by decide) (he : starEach (a :: es) X.env = (false, eval a X.env) :: starEach es X.env := by rfl) (hpl : (backTo pos (starEach es X.env)).any (·.1) = false := by rfl) :
    DE X W (.Call (.Name x p) (a :: es) [] pos) (eCall fn as) := peW (pe_callSD (dvs := []) (E := fun σ c d H => W c d σ H) G hr hg hm hk hb .nil (fun σ => passAt tk σ) ha hdb he hpl) fun σ H Q ⟨e, F, R, h⟩ => by
  refine ⟨e, F, R, post_imp (post_seq up_V h) ?_⟩
  rintro vs H1 ⟨rs, e1, F1, q1, R1, s1, h1⟩
  rw [List.append_nil]
  exact callK_ok R1 q1 h1
/-! ### attributes, += -/
def fldK (c : Str) (n : Str) : D → M RV
  | .ins c' fs => fun e => if c' = c then (match fs.lookup n with
    | some d => .ok (.val d) e
    | none => .bad) else .bad
  | _ => M.bad
theorem de_fld {c n : Str} {C : Addr} (hC : X.mg c = some (.ref C)) (cl : Cls X.K C) (no : NoAttr X.K C n) (ha : DE X W a f) (hb : attributeBase a n X.env (eval a X.env) = eval a X.env := by rfl) : DE X W (.Attribute a n pos) (rd1 f (fldK c n)) := peW (pe_fld ha hb) fun σ H Q h0 =>
  rd1_ok (r := fun x H1 Q => ∃ a C dx fs v, x = .ref a ∧ H1 a = some (.ins C dx fs) ∧ Cls X.K C ∧ NoAttr X.K C n ∧ fs.lookup n = some v ∧ Q v H1) (fun F H e σ x d Q R rx h => by
    unfold fldK at h
    split at h
    · rename_i c' fs
      split at h
      · rename_i hc
        subst hc
        cases w : fs.lookup n with
        | none => rw [w] at h; exact h.elim
        | some d =>
          rw [w] at h
          obtain ⟨p, C', dx, gs, rfl, m, hH, r⟩ := rx
          rw [hC] at m
          cases m
          obtain ⟨v, h1, h2⟩ := r.look w
          exact ⟨p, C, dx, gs, v, rfl, hH, cl, no, h1, post_val R h h2⟩
      · exact h.elim
    · exact h.elim) h0
def sAug (i : Nat) (f : M RV) (k : D → D → M RV) : M Flo := M.bind (rd2 (eVar i) f k) (stor i)
end
end Y

set_option Elab.async false
set_option linter.all false
set_option maxRecDepth 100000
set_option maxHeartbeats 4000000
namespace Y
open PySem PySem.Spec L2
set_option autoImplicit false
/-! ### x += e -/
section
variable {X : Cx} {W : WX} {a b c : Expr} {f g : M RV} {pos pos' p : Pos} {x : Str}
def augK (k : D → D → M RV) (d : D) (i : Nat) (r : RV) : M Flo := fun e => match rdat e r with
  | some d' => (M.bind (k d d') (stor i)) e
  | none => .bad
/-- a name that holds plain data -/
def sAugI (i : Nat) (f : M RV) (k : D → D → M RV) : M Flo := fun e => match e[i]? with
  | some (.val d) => (M.bind f (augK k d i)) e
  | _ => .bad
theorem ds_augI {op : Operator} {r : R2} {k : D → D → M RV} (i : Nat) (hN : X.N.Nodup) (ho : OpR X (inplaceOp op) r) (hk : K2 X.K X.mg W r k) (ha : DE X W a f) (hi : X.N[i]? = some x := by rfl) (hx : Loc X.env.scope x := by first | exact Or.inl rfl | exact Or.inr rfl)
    (hf : X.fn x = true ∨ X.env.scope.names.lookup x = some .local := by first | exact .inl rfl | exact .inr rfl) : DS X W (.AugAssign (.Name x pos') op a pos) (sAugI i f k) := psW (ps_aug (ti := r) hN hi hx ha ho hf) fun E σ H ⟨e, F, R, h⟩ => by
  unfold sAugI at h
  split at h
  · rename_i d es
    have hl : i < σ.length := by rw [← R.len]; exact (List.getElem?_eq_some_iff.mp es).1
    obtain ⟨v, h1, h2⟩ := R.ok i _ _ es (List.getElem?_eq_getElem hl)
    refine ⟨v, by rw [List.getElem?_eq_getElem hl, h1], e, F, R, post_imp (postS_seq h) ?_⟩
    rintro y H1 ⟨r1, e1, F1, q1, R1, s1, z1⟩
    unfold augK at z1
    cases w : rdat e1 r1 with
    | none => rw [w] at z1; exact z1.elim
    | some d' =>
      rw [w] at z1
      dsimp only at z1
      refine hk F1 H1 e1 σ v y d d' _ R1 (Rep.rd R1.sub (h2.mono s1.fro)) (R1.rd q1 w) (post_imp (postS_seqG (R1 := rV X.K X.mg) s1 z1) ?_)
      rintro z H2 ⟨r2, e2, F2, q2, R2, s2, z2⟩
      exact stor_ok R2 (q2.imp fun _ y => s1.nm y) (s1.trans s2) z2
  · exact h.elim
/-! ### isinstance -/
def tyD : D → Option String
  | .non => some "NoneType"
  | .bl _ => some "bool"
  | .int _ => some "int"
  | .str _ => some "str"
  | .lst _ => some "list"
  | .tup _ => some "tuple"
  | _ => none
theorem rd_ty {K : PySem.W.Frag} {mg : Mg} {F H : Hp} {x : V} {d : D} {t : String} (s : Same F H) (rx : RdOk K mg F H x d) (h : tyD d = some t) : TyX K H x (.type t) := by
  cases d with
  | non => cases h; cases rx; exact .base .non
  | bl b => cases h; cases rx; exact .base (.bl b)
  | int b => cases h; cases rx; exact .base (.int b)
  | str b => cases h; cases rx; exact .base (.str b)
  | lst ds =>
    cases h
    obtain ⟨p, vs, rfl, q, _⟩ := rx
    rcases q with (q | ⟨o, q⟩) | ⟨o, its, n, q, hc, _⟩
    · exact .base (.lst q)
    · exact .base (.frz q)
    · exact .kList q hc
  | tup ds =>
    cases h
    obtain ⟨p, vs, rfl, q, _⟩ := rx
    rcases sqT_mono s q with (q | ⟨o, q⟩) | ⟨o, its, n, q, hc, _⟩
    · exact .base (.tup q)
    · exact .fTuple q
    · exact .kTuple q hc
  | ins c fs => cases h
  | raw v => cases h
/-- the built-in classes that are asked for -/
def subB (t n : String) : Bool := t == n || (t == "bool" && n == "int")
def isiK (ns : List String) : D → M RV := fun d e => match tyD d with
  | some t => .ok (.val (.bl (ns.any (subB t)))) e
  | none => .bad
abbrev tys : List String := ["NoneType", "bool", "int", "str", "list", "tuple"]
theorem kit_table : (tys.all fun t => ["int", "bool", "str", "list", "tuple"].all fun n => decide (kitB t n = some (subB t n))) = true := by decide +kernel
theorem tyD_mem {d : D} {t : String} (h : tyD d = some t) : t ∈ tys := by
  cases d <;> (unfold tyD at h; first | (cases h; decide) | cases h)
theorem kit_one {K : PySem.W.Frag} {d : D} {t n : String} (h : tyD d = some t) (hn : n ∈ ["int", "bool", "str", "list", "tuple"]) : PySem.W.kitOne K (.type t) (.type n) = some (subB t n) :=
  kit_ty (of_decide_eq_true (List.all_eq_true.mp (List.all_eq_true.mp kit_table t (tyD_mem h)) n hn))
theorem kit_any {K : PySem.W.Frag} {d : D} {t : String} (h : tyD d = some t) : ∀ {ns : List String}, (∀ n ∈ ns, n ∈ ["int", "bool", "str", "list", "tuple"]) → PySem.W.kitAny K (.type t) (ns.map Value.type) = some (ns.any (subB t))
  | [], _ => rfl
  | n :: ns, hn => by
    have ih := kit_any (K := K) h (ns := ns) fun m hm => hn m (List.mem_cons_of_mem _ hm)
    refine kitAny_cons (kit_one h (hn n List.mem_cons_self)) (fun hb => ?_) fun hb => ?_
    · rw [List.any_cons, hb, Bool.false_or]; exact ih
    · rw [List.any_cons, hb, Bool.true_or]
/-- isinstance(a, T), T a built-in class -/
theorem de_isi {n : String} {q q2 : Pos} {nm : Str} (hg : Gl X "isinstance") (hm : X.mg "isinstance" = none) (hg2 : Gl X nm) (hm2 : X.mg nm = none) (hv : bootBuiltins nm = some (.type n)) (hn : n ∈ ["int", "bool", "str", "list", "tuple"]) (ha : DE X W a f)
    (hnn : nm ≠ "__name__" := by decide) (hnd : (nm == ("__debug__" : Str)) = false := by decide)
    (he : starEach [a, .Name nm q2] X.env = (false, eval a X.env) :: starEach [.Name nm q2] X.env := by rfl) (he2 : starEach [.Name nm q2] X.env = (false, eval (.Name nm q2) X.env) :: starEach [] X.env := by rfl)
    (hpl : (backTo pos (starEach [.Name nm q2] X.env)).any (·.1) = false := by rfl) :
    DE X W (.Call (.Name "isinstance" q) [a, .Name nm q2] [] pos) (rd1 f (isiK [n])) :=
  peW (pe_callB call_isi hg hm (by decide +kernel) (pa_cons ha (pa_cons (pe_bltn (v := .ty n) hg2 hm2 hv rfl hnn hnd) pa_nil he2) he) (by decide) (by decide) he hpl) fun σ H Q h0 =>
    rd1_ok (r := fun x H1 Q => rIsi X.K [x, .ty n] H1 Q) (fun F H e σ x d Q R rx h => by
      unfold isiK at h
      cases w : tyD d with
      | none => rw [w] at h; exact h.elim
      | some t =>
        rw [w] at h
        refine ⟨x, .ty n, .type t, .type n, subB t n, rfl, .ty n, rd_ty R.sub rx w, kit_one w hn, ?_⟩
        have e1 : [n].any (subB t) = subB t n := by simp
        dsimp only at h
        rw [e1] at h
        exact post_val R h (.bl _)) h0
/-- isinstance(a, (T1, T2)) -/
theorem de_isi2 {n m : String} {q q2 q3 q4 : Pos} {nm mm : Str} {j : Nat} (hg : Gl X "isinstance") (hm : X.mg "isinstance" = none) (hg2 : Gl X nm) (hm2 : X.mg nm = none) (hv : bootBuiltins nm = some (.type n)) (hn : n ∈ ["int", "bool", "str", "list", "tuple"])
    (hg3 : Gl X mm) (hm3 : X.mg mm = none) (hv3 : bootBuiltins mm = some (.type m)) (hn3 : m ∈ ["int", "bool", "str", "list", "tuple"]) (ha : DE X W a f)
    (hnn : nm ≠ "__name__" := by decide) (hnd : (nm == ("__debug__" : Str)) = false := by decide) (hnn3 : mm ≠ "__name__" := by decide) (hnd3 : (mm == ("__debug__" : Str)) = false := by decide)
    (he : starEach [a, .Tuple [.Name nm q2, .Name mm q3] j q4] X.env = (false, eval a X.env) :: starEach [.Tuple [.Name nm q2, .Name mm q3] j q4] X.env := by rfl) (he2 : starEach [.Tuple [.Name nm q2, .Name mm q3] j q4] X.env = (false, eval (.Tuple [.Name nm q2, .Name mm q3] j q4) X.env) :: starEach [] X.env := by rfl)
    (he3 : starEach [.Name nm q2, .Name mm q3] X.env = (false, eval (.Name nm q2) X.env) :: starEach [.Name mm q3] X.env := by rfl) (he4 : starEach [.Name mm q3] X.env = (false, eval (.Name mm q3) X.env) :: starEach [] X.env := by rfl)
    (hpl : (backTo pos (starEach [.Tuple [.Name nm q2, .Name mm q3] j q4] X.env)).any (·.1) = false := by rfl) :
    DE X W (.Call (.Name "isinstance" q) [a, .Tuple [.Name nm q2, .Name mm q3] j q4] [] pos) (rd1 f (isiK [n, m])) :=
  peW (pe_callB call_isiT hg hm (by decide +kernel) (pa_cons ha (pa_cons (pe_tup (pa_cons (pe_bltn (v := .ty n) hg2 hm2 hv rfl hnn hnd) (pa_cons (pe_bltn (v := .ty m) hg3 hm3 hv3 rfl hnn3 hnd3) pa_nil he4) he3)) pa_nil he2) he) (by decide) (by decide) he hpl) fun σ H Q h0 =>
    rd1_ok (r := fun x H1 Q => [V.ty n, V.ty m].length ≤ sizeLine ∧ ∀ p, H1 p = none → rIsiT X.K [x, .ref p] (upd H1 p (.tup [.ty n, .ty m])) Q) (fun F H e σ x d Q R rx h => by
      unfold isiK at h
      cases w : tyD d with
      | none => rw [w] at h; exact h.elim
      | some t =>
        rw [w] at h
        refine ⟨by show 2 ≤ sizeLine; decide, fun p hp => ⟨x, p, [.ty n, .ty m], .type t, [.type n, .type m], [n, m].any (subB t), rfl, upd_same, .cons (.ty n) (.cons (.ty m) .nil), ?_, ?_, ?_⟩⟩
        · have rx' : RdOk X.K X.mg F (upd H p (.tup [.ty n, .ty m])) x d := by
            cases d with
            | lst ds => obtain ⟨q, vs, e1, h2, h3⟩ := rx; exact ⟨q, vs, e1, (same_upd' hp).seq h2, h3⟩
            | ins c fs => cases w
            | _ => exact rx
          exact rd_ty (R.new hp).sub rx' w
        · exact kit_any w (ns := [n, m]) (fun z hz => by
            rcases List.mem_cons.mp hz with y | y
            · rw [y]; exact hn
            · rcases List.mem_cons.mp y with y | y
              · rw [y]; exact hn3
              · cases y)
        · exact h _ F _ (Stp.new R hp) (R.new hp) (.bl _)) h0
/-- what the written part knows of a class of one's own -/
structure ClsF (K : PySem.W.Frag) (mg : Mg) (c : Str) (C : Addr) : Prop where
  mgC : mg c = some (.ref C)
  cl : Cls K C
  ha : PySem.W.findIn K (.ref C) "__class__" = some (some (.builtin "object.__class__"))
  hn : PySem.W.specialIn K (.builtin "object.__class__") "__get__" = some (some (.builtin "getset_descriptor.__get__"))
  htk : PySem.W.takesIn K (.builtin "object.__class__") = some true
  hm : PySem.W.mroIn K C (.type "object") = some true
  kc : PySem.W.kitOne K (.ref C) (.ref C) = some true
  k0 : PySem.W.kitOne K (.type "NoneType") (.ref C) = some false
  k1 : PySem.W.kitOne K (.type "bool") (.ref C) = some false
  k2 : PySem.W.kitOne K (.type "int") (.ref C) = some false
  k3 : PySem.W.kitOne K (.type "str") (.ref C) = some false
  k4 : PySem.W.kitOne K (.type "list") (.ref C) = some false
  k5 : PySem.W.kitOne K (.type "tuple") (.ref C) = some false
def isiC (c : Str) : D → M RV := fun d e => match d with
  | .ins c' _ => if c' = c then .ok (.val (.bl true)) e else .bad
  | d => match tyD d with
    | some _ => .ok (.val (.bl false)) e
    | none => .bad
theorem de_isiC {c : Str} {C : Addr} {q q2 : Pos} (hg : Gl X "isinstance") (hm : X.mg "isinstance" = none) (hg2 : Gl X c) (T : ClsF X.K X.mg c C) (ha : DE X W a f) (hnd : (c == ("__debug__" : Str)) = false := by decide)
    (he : starEach [a, .Name c q2] X.env = (false, eval a X.env) :: starEach [.Name c q2] X.env := by rfl) (he2 : starEach [.Name c q2] X.env = (false, eval (.Name c q2) X.env) :: starEach [] X.env := by rfl)
    (hpl : (backTo pos (starEach [.Name c q2] X.env)).any (·.1) = false := by rfl) :
    DE X W (.Call (.Name "isinstance" q) [a, .Name c q2] [] pos) (rd1 f (isiC c)) :=
  peW (pe_callB call_isi hg hm (by decide +kernel) (pa_cons ha (pa_cons (pe_glob (v := .ref C) hg2 T.mgC rfl hnd) pa_nil he2) he) (by decide) (by decide) he hpl) fun σ H Q h0 =>
    rd1_ok (r := fun x H1 Q => rIsi X.K [x, .ref C] H1 Q) (fun F H e σ x d Q R rx h => by
      have plain : ∀ t, tyD d = some t → post X.K X.mg W (rV X.K X.mg) F H e σ (.ok (.val (.bl false)) e) Q → rIsi X.K [x, .ref C] H Q := fun t w h => by
        refine ⟨x, .ref C, .type t, .ref C, false, rfl, .own C, rd_ty R.sub rx w, ?_, post_val R h (.bl _)⟩
        have hmem := tyD_mem w
        simp only [tys, List.mem_cons, List.not_mem_nil, or_false] at hmem
        rcases hmem with rfl | rfl | rfl | rfl | rfl | rfl
        · exact T.k0
        · exact T.k1
        · exact T.k2
        · exact T.k3
        · exact T.k4
        · exact T.k5
      cases d with
      | ins c' fs =>
        unfold isiC at h
        dsimp only at h
        split at h
        · rename_i hc
          subst hc
          obtain ⟨p, C', dx, gs, rfl, m, hH, r⟩ := rx
          rw [T.mgC] at m
          cases m
          exact ⟨_, .ref C, .ref C, .ref C, true, rfl, .own C, .base (.ins hH T.cl T.ha T.hn T.htk T.hm), T.kc, post_val R h (.bl _)⟩
        · exact h.elim
      | raw v => exact h.elim
      | non => exact plain _ rfl h
      | bl b => exact plain _ rfl h
      | int b => exact plain _ rfl h
      | str b => exact plain _ rfl h
      | lst b => exact plain _ rfl h
      | tup b => exact plain _ rfl h) h0
end
end Y

set_option Elab.async false
set_option linter.all false
set_option maxRecDepth 100000
set_option maxHeartbeats 4000000
namespace Y
open PySem PySem.Spec L2
set_option autoImplicit false
/-! ### self.f = e -/
def putD (f : Str) (v : D) : List (Str × D) → List (Str × D)
  | [] => [(f, v)]
  | p :: r => if p.1 = f then (p.1, v) :: r else p :: putD f v r
theorem RepF.put {K : PySem.W.Frag} {mg : Mg} {F : Hp} {f : Str} {v : V} {d : D} (r : Rep K mg F v d) : ∀ {gs : List (Str × V)} {fs : List (Str × D)}, RepF K mg F gs fs → RepF K mg F (putF f v gs) (putD f d fs)
  | _, _, .nil => .cons r .nil
  | _, _, .cons (f := g) q t => by
    unfold putF putD
    dsimp only
    split
    · exact .cons r t
    · exact .cons q (RepF.put r t)
theorem RepF.length {K : PySem.W.Frag} {mg : Mg} {F : Hp} : ∀ {gs : List (Str × V)} {fs : List (Str × D)}, RepF K mg F gs fs → gs.length = fs.length
  | _, _, .nil => rfl
  | _, _, .cons _ t => congrArg (· + 1) t.length
def sFldSet (i : Nat) (c n : Str) (f : M RV) : M Flo := M.bind f fun r => M.bind (frz r) fun d => fun e => match e[i]? with
  | some (.own fx (.ins c' fs)) => if c' = c ∧ fs.length < 1000 then .ok .nx (e.set i (.own fx (.ins c' (putD n d fs)))) else .bad
  | _ => .bad
section
variable {X : Cx} {W : WX} {a b : Expr} {es : List Expr} {f g : M RV} {as ks : M (List RV)} {pos pos' pos'' p : Pos} {x c n : Str} {C : Addr}
theorem ds_fldSet (i : Nat) (hC : X.mg c = some (.ref C)) (cl : Cls X.K C) (no : NoAttr X.K C n) (ha : DE X W a f) (hN : X.N[i]? = some x := by rfl) (hv : Vis X.env.scope x := by first | exact Or.inl rfl | exact Or.inr (Or.inl rfl) | exact Or.inr (Or.inr rfl)) (hd : (x == ("__debug__" : Str)) = false := by decide)
    (hcd : (x == ("__classdict__" : Str)) = false := by decide) (hs : swapsWith a (some (.Attribute (.Name x pos') n pos'')) pos.line X.env = pure false := by rfl) :
    DS X W (.Assign [.Attribute (.Name x pos') n pos''] a pos) (sFldSet i c n f) := psW (ps_fld (pe_var hN hv hd hcd) ha hs) fun E σ H ⟨e, F, R, h⟩ => by
  refine ⟨e, F, R, post_imp (postS_seq h) ?_⟩
  rintro y H1 ⟨r, e1, F1, q1, R1, s1, h1⟩
  cases w : frz r e1 with
  | bad => unfold M.bind at h1; rw [w] at h1; exact h1.elim
  | ex x e' => exact (frz_noex w).elim
  | ok d e2 =>
    unfold M.bind at h1
    rw [w] at h1
    obtain ⟨F2, s2, R2, q2⟩ := frz_ok R1 q1 w s1
    dsimp only at h1
    split at h1
    · rename_i fx c' fs es2
      split at h1
      · rename_i hc
        obtain ⟨rfl, hz⟩ := hc
        obtain ⟨q, o, hq, hH, C', dx, gs, rfl, m, rf⟩ := own_at R2 es2
        rw [hC] at m
        cases m
        refine ⟨_, hq, q, C, dx, gs, rfl, hH, cl, no, by rw [rf.length]; exact hz, ?_⟩
        exact h1 σ F2 _ (s2.change R2 es2 hq) (R2.change es2 hq ⟨C, dx, _, rfl, hC, rf.put q2⟩)
      · exact h1.elim
    · exact h1.elim
/-! ### C(e, .., k = v, ..) -/
abbrev DK (X : Cx) (W : WX) (kws : List Keyword) (f : M (List RV)) : Prop := PK X kws (cA X.K X.mg W f)
theorem pkW {X : Cx} {e : List Keyword} {t t' : TA} (h : PK X e t) (i : ∀ σ H Q, t' σ H Q → t σ H Q) : PK X e t' := ⟨fun pos pins s σ H Q I q => h.run pos pins s σ H Q I (i σ H Q q)⟩
theorem dk_nil : DK X W [] aNil := pkW pk_nil fun σ H Q ⟨e, F, R, h⟩ => post_ret R h .nil
theorem dk_cons {nm : Option Str} {kpos : Pos} {kws : List Keyword} (ha : DE X W a f) (hr : DK X W kws ks) : DK X W (⟨nm, a, kpos⟩ :: kws) (aCons (aV f) ks) := pkW (pk_cons ha hr) fun _ _ _ h => aCons_ok h
/-- the new instance, its __init__ having run -/
def mkK (fn : Fn) (c : Str) (nn mm : Nat) (g : List D → List D → List D) (rs rk : List RV) : M RV := fun e => match valsOf rs, valsOf rk with
  | some ds, some dk => if ds.length = nn ∧ dk.length = mm then (match fn (.own true (.ins c []) :: (g ds dk).map Slot.val) with
    | .ok (.val .non) (.own _ (.ins c' fs) :: _) => .ok (.own (.ins c' fs)) e
    | .ex x _ => .ex x e
    | _ => .bad) else .bad
  | _, _ => .bad
def eMake (fn : Fn) (c : Str) (nn mm : Nat) (g : List D → List D → List D) (as ks : M (List RV)) : M RV := M.bind as fun rs => M.bind ks fun rk => mkK fn c nn mm g rs rk
theorem all_val {l : List D} : (l.map Slot.val).all isArg = true := by
  induction l with
  | nil => rfl
  | cons d l ih => rw [List.map_cons, List.all_cons, ih]; rfl
/-- THE MAKING, from the caller's wish to the promise of __init__ -/
theorem mkK_ok {K : PySem.W.Frag} {mg : Mg} {F H : Hp} {e : Sl} {σ : St} {Q : VK} {fn : Fn} {q : Addr} {dx : Addr} {ws : List V} {ds : List D} {r : Res RV} (R : Rel K mg F e σ H) (hC : mg c = some (.ref C)) (rw' : Reps K mg F ws ds) (hq : H q = none) (hdx : H dx = none) (hne : dx ≠ q)
    (hr : r = (match fn (.own true (.ins c []) :: ds.map Slot.val) with
      | .ok (.val .non) (.own _ (.ins c' fs) :: _) => .ok (.own (.ins c' fs)) e
      | .ex x _ => .ex x e
      | _ => .bad)) (h : post K mg W (rV K mg) F H e σ r Q) :
    cSp K mg fn (.ref q :: ws) (upd (upd H dx (.own q)) q (.ins C dx [])) (fun v H3 => v = .non ∧ Q (.ref q) H3) (fun c d H => W c d σ H) := by
  have hu : ∀ b o, H b = some o → (upd (upd H dx (.own q)) q (.ins C dx [])) b = some o := fun b o z => by rw [upd_ne (ne_of_none z hq), upd_ne (ne_of_none z hdx)]; exact z
  have hnone : ∀ b, (upd (upd H dx (.own q)) q (.ins C dx [])) b = none → H b = none := fun b z => by
    cases y : H b with
    | none => rfl
    | some o => rw [hu b o y] at z; cases z
  have vget : ∀ {j : Nat} {v : V}, ws[j]? = some v → (ws.map some)[j]? = some (some v) := fun {j v} h => by rw [List.getElem?_map, h]; rfl
  have RA : Rel K mg F (.own true (.ins c []) :: ds.map Slot.val) ((V.ref q :: ws).map some) (upd (upd H dx (.own q)) q (.ins C dx [])) := by
    refine ⟨fun b o z => hu b o (R.sub b o z), by rw [List.length_cons, List.length_map, List.length_map, List.length_cons, rw'.length], fun i s o es ex => ?_, fun i j f g c1 c2 a ei ej _ _ => ?_⟩
    · cases i with
      | zero =>
        have e1 : Slot.own true (.ins c []) = s := by simpa using es
        have e2 : some (V.ref q) = o := by simpa using ex
        subst e1 e2
        exact ⟨q, _, rfl, R.free hq, upd_same, C, dx, [], rfl, hC, .nil⟩
      | succ i =>
        have e1 : (ds.map Slot.val)[i]? = some s := by simpa using es
        rw [List.getElem?_map] at e1
        cases y : ds[i]? with
        | none => rw [y] at e1; cases e1
        | some d =>
          rw [y] at e1
          have e1 : Slot.val d = s := by simpa using e1
          subst e1
          obtain ⟨v, h1, h2⟩ := rw'.get y
          have e2 : some v = o := by
            have : (ws.map some)[i]? = some o := by simpa using ex
            rw [vget h1] at this
            exact Option.some.inj this
          subst e2
          exact ⟨v, rfl, h2⟩
    · have z : ∀ {k : Nat} {f : Bool} {c1 : Cont}, (Slot.own true (.ins c []) :: ds.map Slot.val)[k]? = some (.own f c1) → k = 0 := fun {k f c1} h => by
        cases k with
        | zero => rfl
        | succ k =>
          have h : (ds.map Slot.val)[k]? = some (.own f c1) := by simpa using h
          rw [List.getElem?_map] at h
          cases y : ds[k]? with
          | none => rw [y] at h; cases h
          | some d => rw [y] at h; cases h
      rw [z ei, z ej]
  have ow : ∀ {b : Addr}, Own (.own true (.ins c []) :: ds.map Slot.val) ((V.ref q :: ws).map some) b → b = q := fun {b} ⟨k, f, c1, h1, h2⟩ => by
    cases k with
    | zero =>
      have : some (V.ref q) = some (V.ref b) := by simpa using h2
      cases this
      rfl
    | succ k =>
      have h : (ds.map Slot.val)[k]? = some (.own f c1) := by simpa using h1
      rw [List.getElem?_map] at h
      cases y : ds[k]? with
      | none => rw [y] at h; cases h
      | some d => rw [y] at h; cases h
  -- a step of the callee's is one of ours
  have step : ∀ {F' H' : Hp} {a' : Sl}, Stp F (upd (upd H dx (.own q)) q (.ins C dx [])) (.own true (.ins c []) :: ds.map Slot.val) ((V.ref q :: ws).map some) F' H' a' ((V.ref q :: ws).map some) → Same F' H' → Stp F H e σ F' H' e σ ∧ Rel K mg F' e σ H' := fun {F' H' a'} s sb => by
    have nm : ∀ b, NM (upd (upd H dx (.own q)) q (.ins C dx [])) (.own true (.ins c []) :: ds.map Slot.val) ((V.ref q :: ws).map some) b → H b = none := fun b z => by
      rcases z with z | z
      · exact hnone b z
      · rw [ow z]; exact hq
    refine ⟨⟨s.fro, fun b o z _ => s.kept b o (hu b o z) fun y => ?_, fun b z => hnone b (s.dom b z), fun b z z' => .inl (nm b (s.newF b z z')), fun b z => .inr z, fun i c z => ⟨⟨c, z⟩, rfl⟩, rfl⟩, ⟨sb, R.len, fun i t o es ex => ?_, R.inj⟩⟩
    · rw [ow y, hq] at z; cases z
    · have z := R.ok i t o es ex
      cases t with
      | no => trivial
      | val d => obtain ⟨v, z1, z2⟩ := z; exact ⟨v, z1, z2.mono s.fro⟩
      | own f c1 =>
        obtain ⟨a, o', z1, z2, z3, z4⟩ := z
        refine ⟨a, o', z1, ?_, s.kept a o' (hu a o' z3) (fun y => by rw [ow y, hq] at z3; cases z3), z4.mono s.fro⟩
        cases y : F' a with
        | none => rfl
        | some u =>
          have := nm a (s.newF a z2 (by rw [y]; exact fun k => nomatch k))
          rw [z3] at this; cases this
  refine ⟨_, F, RA, by rw [List.all_cons, all_val]; rfl, ?_⟩
  subst hr
  cases w : fn (.own true (.ins c []) :: ds.map Slot.val) with
  | bad => rw [w] at h; exact h.elim
  | ex x a' =>
    rw [w] at h
    intro cls d F' H' s R' z
    obtain ⟨s1, r1⟩ := step s R'.sub
    exact h cls d F' H' s1 r1 z
  | ok r a' =>
    rw [w] at h
    intro v F' H' s R' z
    split at h
    · rename_i fx c' fs rest heq
      cases heq
      obtain ⟨s1, r1⟩ := step s R'.sub
      obtain ⟨a, o, z1, z2, z3, z4⟩ := R'.ok 0 _ (some (V.ref q)) rfl rfl
      have : q = a := by simpa using z1
      subst this
      cases z
      refine ⟨rfl, h (.ref q) F' H' s1 r1 ⟨q, o, rfl, z2, z3, z4, ?_, .inl hq⟩⟩
      rintro ⟨k, f, c1, k1, k2⟩
      obtain ⟨a, o', m1, m2, m3, _⟩ := R.ok k _ _ k1 k2
      cases m1
      rw [hq] at m3; cases m3
    · rename_i heq
      cases heq
    · exact h.elim
variable {fn : Fn} {k nn : Nat} {fa : Addr} {fd : FuncData} {ps nms : List Str} {kws : List Keyword} {gu : List Value → List Value → List Value} {gV : List V → List V → List V} {gD : List D → List D → List D}
theorem de_make (M : Mk X.K C fa) (G : FnOk X.prog X.w X.K X.mg X.base (L2.CX X.prog X.w) k fa fd ps (cSp X.K X.mg fn)) (hr : Room (k + 1) X.A) (hp : ∀ {E : XK}, (∀ c d σ H, E c d H → W c d σ H) → Passes (L2.CX X.prog X.w) X E) (hW : ∀ c d σ σ' H, W c d σ H → W c d σ' H) (hg : Gl X c) (hm : X.mg c = some (.ref C))
    (hb : KBn X.K fd ps (nn + 1) nms gu gV) (ha : DA X W (a :: es) as) (hk : DK X W kws ks)
    (hgD : ∀ (F : Hp) (v : V) (vs zs : List V) (ds dk : List D), Reps X.K X.mg F vs ds → Reps X.K X.mg F zs dk → ds.length = nn → dk.length = nms.length → ∃ ws, gV (v :: vs) zs = v :: ws ∧ Reps X.K X.mg F ws (gD ds dk))
    (hall : (backToKw pos (keywordEach kws X.env)).all (·.1.isSome) = true := by rfl) (hks : (backToKw pos (keywordEach kws X.env)).filterMap (·.1) = nms := by rfl) (hdb : (c == ("__debug__" : Str)) = false := by decide)
    (he : starEach (a :: es) X.env = (false, eval a X.env) :: starEach es X.env := by rfl) (hpl : ((backTo pos (starEach (a :: es) X.env)).any (·.1) || (backToKw pos (keywordEach kws X.env)).any (·.1.isNone)) = false := by rfl) :
    DE X W (.Call (.Name c p) (a :: es) kws pos) (eMake fn c nn nms.length gD as ks) := peW (pe_makeK (E := fun c d H => ∃ σ, W c d σ H) M G hr hg hm hb (hp fun c d σ H ⟨σ', z⟩ => hW c d σ' σ H z) ha hk hall hks hdb he hpl) fun σ H Q ⟨e, F, R, h⟩ => by
  refine ⟨e, F, R, post_imp (post_seq up_V h) ?_⟩
  rintro vs H1 ⟨rs, e1, F1, q1, R1, s1, h1⟩
  refine ⟨e1, F1, R1, post_imp (post_seq up_V h1) ?_⟩
  rintro zs H2 ⟨rk, e2, F2, q2, R2, s2, h2⟩
  have q1 := q1.mono s2.fro
  unfold mkK at h2
  cases w1 : valsOf rs with
  | none => rw [w1] at h2; exact h2.elim
  | some ds =>
    cases w2 : valsOf rk with
    | none => rw [w1, w2] at h2; exact h2.elim
    | some dk =>
      rw [w1, w2] at h2
      dsimp only at h2
      split at h2
      · rename_i hl
        have r1 := q1.reps w1
        have r2 := q2.reps w2
        refine ⟨by rw [r1.length]; exact hl.1, by rw [r2.length]; exact hl.2, fun x dx hx hdx hne => ?_⟩
        obtain ⟨ws, e1, e2⟩ := hgD F2 (.ref x) vs zs ds dk r1 r2 hl.1 hl.2
        rw [e1]
        obtain ⟨args, F3, R3, a3, p3⟩ := mkK_ok (W := W) R2 hm e2 hx hdx hne rfl h2
        refine ⟨args, F3, R3, a3, ?_⟩
        revert p3
        cases fn args with
        | bad => exact id
        | ok r s => exact id
        | ex y s => exact fun p3 cls d F' H' s' R' z => ⟨σ, p3 cls d F' H' s' R' z⟩
      · exact h2.elim
end
end Y

set_option Elab.async false
set_option linter.all false
set_option maxRecDepth 100000
set_option maxHeartbeats 4000000
namespace Y
open PySem PySem.Spec L2
set_option autoImplicit false
/-! ### enumerate of a tuple -/
set_option maxHeartbeats 1000000 in
theorem meets_enT (q : Addr) (its : Array Value) : Meets (Builtin.«enumerate.__new__» ⟨[.type "enumerate", .ref q], []⟩) (fun _ R s => s.heap.IsTuple q its ∧
      R (.ok (.ret (.ref (s.heap.push { cls := .type "tuple_iterator", data := .fields #[.ref q, .int 0 0] }).objs.size)))
        { s with heap := (s.heap.push { cls := .type "tuple_iterator", data := .fields #[.ref q, .int 0 0] }).push { cls := .type "enumerate", data := .fields #[.none, .bool false, .ref s.heap.objs.size, rawInt 0, .none, .none] } }) :=
  .of_wp fun prog w A R s hyp => by
    obtain ⟨hp, gg, dr, tk, os⟩ := s
    obtain ⟨isT, hyp⟩ := hyp
    have hsub := PySem.sub_enumerate
    have it0 : ∀ {A' : Around} {E : Value → Shared → Prop} {Q : Value → Shared → Prop}, Q (.ref hp.objs.size) ⟨hp.push { cls := .type "tuple_iterator", data := .fields #[.ref q, .int 0 0] }, gg, dr, tk, os⟩ → wpAny (model prog w) A' (pyIter (.ref q)) Q E ⟨hp, gg, dr, tk, os⟩ :=
      fun z => wpAny_pyIter_tuple isT z
    wp_walk using it0
    refine wpAny_stack_any fun st => wpAny_pure ?_
    split
    · rename_i cc _ _ _ _ _
      cases (cc == Value.type "enumerate")
      · wp_walk using it0
        exact ⟨_, rfl, hyp⟩
      · wp_walk using it0
        exact ⟨_, rfl, hyp⟩
    · wp_walk using it0
      exact ⟨_, rfl, hyp⟩
section
variable {prog : Program} {w : World} {A : Around} {E : Value → Shared → Prop} {s : Shared}
theorem call_enT {q : Addr} {its : Array Value} {Q : Value → Shared → Prop} (isT : s.heap.IsTuple q its)
    (h : ∀ h', PySem.IsEnum h' (s.heap.objs.size + 1) s.heap.objs.size 0 .none → h'.IsTupleIter s.heap.objs.size q 0 → (∀ b o, s.heap.get? b = some o → h'.get? b = some o) → Q (.ref (s.heap.objs.size + 1)) { s with heap := h' }) :
    wpAny (model prog w) A (call (.type "enumerate") [.ref q]) Q E s := by
  refine callType_new F.called_enumerate (by decide) (F.typeCall_enumerate_1 _) (F.newCall_enumerate_1 _) (fun ob => F.args_object_init_2 ob _) F.entry_enumerate_new (meets_enT q its) ⟨isT, ?_⟩
  have hz : (s.heap.push { cls := .type "tuple_iterator", data := .fields #[.ref q, .int 0 0] }).objs.size = s.heap.objs.size + 1 := Heap.size_push ..
  show _ ∧ _
  rw [hz]
  have he : PySem.IsEnum ((s.heap.push { cls := .type "tuple_iterator", data := .fields #[.ref q, .int 0 0] }).push { cls := .type "enumerate", data := .fields #[.none, .bool false, .ref s.heap.objs.size, rawInt 0, .none, .none] }) (s.heap.objs.size + 1) s.heap.objs.size 0 .none := by
    have z := Heap.get?_push_size (s.heap.push { cls := .type "tuple_iterator", data := .fields #[.ref q, .int 0 0] }) (o := { cls := .type "enumerate", data := .fields #[.none, .bool false, .ref s.heap.objs.size, rawInt 0, .none, .none] }) rfl
    rw [hz] at z
    exact z
  exact ⟨⟨_, he, rfl⟩, h _ he ⟨_, Heap.get?_push_of_some _ (Heap.get?_push_size _ rfl), rfl, rfl⟩ fun b o x => Heap.get?_push_of_some _ (Heap.get?_push_of_some _ x)⟩
end
/-- the tuple at a, each item in a new pair -/
def ItT (K : PySem.W.Frag) (a : Addr) : It :=
  ⟨fun i H => ∃ (xs : List V) (x : V), SqT K H a xs ∧ xs[i]? = some x, fun i H v H' => ∃ T x, v = .ref T ∧ H T = none ∧ H' = upd H T (.tup [.int (i : Nat), x]) ∧ ∀ xs, SqT K H a xs → xs[i]? = some x, fun i H => ∃ xs : List V, SqT K H a xs ∧ xs.length = i⟩
theorem turn_enT {P : Program} {w : World} {K : PySem.W.Frag} {elts : List Expr} {kk : Nat} {tpos : Pos} (a en it : Addr) (hai : a ≠ it) (hae : a ≠ en) :
    Turn P w K (.Tuple elts kk tpos) (ItT K a) [en, it] en (fun i h => (∃ old, PySem.IsEnum h en it ((i : Nat) : Int) old) ∧ h.IsTupleIter it a i ∧ en ≠ it) where
  mem := by simp
  obj := fun i h st b hb => by
    obtain ⟨⟨old, he⟩, ⟨ob, ho, hcl, hdt⟩, _⟩ := st
    have two : b = en ∨ b = it := by simpa using hb
    rcases two with z | z
    · rw [z]
      exact ⟨_, he, fun v q => nomatch q⟩
    · rw [z]
      exact ⟨ob, ho, fun v q => by rw [hdt] at q; cases q⟩
  keep := fun i h h' st k => let ⟨⟨old, he⟩, hi, hne⟩ := st; ⟨⟨old, k en (by simp) _ he⟩, hi.at fun ob q => k it (by simp) ob q, hne⟩
  item := by
    intro X eP ew eK hcalm i pins s σ H E I hfp st hgo
    subst eP ew eK
    obtain ⟨⟨old, he⟩, hit, hne⟩ := st
    obtain ⟨xs, x, hsq, hx⟩ := hgo
    obtain ⟨its, rv, isT, hz⟩ := I.tuple hsq
    obtain ⟨u, hu, ru⟩ := rv.get hx
    have len : i < its.toArray.size := by
      have := (List.getElem?_eq_some_iff.mp hu).1
      simpa using this
    have hen : en < s.heap.objs.size := Heap.lt_size he
    have hil : it < s.heap.objs.size := by
      obtain ⟨_, q, _⟩ := hit
      exact Heap.lt_size q
    have hd := I.ok.hd hcalm
    refine wpAny_pyNext_enum_itemD (Draws.tuple (A := X.A.in1) hd it a hai its.toArray) he ⟨hit, isT⟩ len hne (by simp [hne, Ne.symm hae]) fun y h' tk hy ho hst hT hsz hkp => ?_
    have ey : y = u := by
      have z : its[i]? = some y := by simpa using hy
      rw [hu] at z
      exact (Option.some.inj z).symm
    subst ey
    refine ⟨_, rfl, wpAny_letOwnedTupleGo_enum (s := { s with heap := h', toks := tk + 1 }) ho fun h'' he' sb => ?_⟩
    have hT2 : h''.get? s.heap.objs.size = some { cls := .type "tuple", data := .seq #[.int i tk, y] } := (sb.2 _ (Nat.ne_of_gt hen)).trans hT
    have laid : ObjOk X.prog X.w (upd H s.heap.objs.size (.tup [.int (i : Nat), x])) h'' s.heap.objs.size (.tup [.int (i : Nat), x]) :=
      ⟨by show 2 ≤ sizeLine; decide, [.int i tk, y], .cons ⟨_, rfl⟩ (.cons ru .nil), ⟨_, hT2, rfl, _, rfl⟩⟩
    have I1 : Inv X pins σ (upd H s.heap.objs.size (.tup [.int (i : Nat), x])) { s with heap := h'', toks := tk + 1 } :=
      I.turnedNew (ch := [en, it]) (fun b ob nb q => (sb.2 b (fun z => nb (by simp [z]))).trans (hkp b ob (fun z => nb (by simp [z])) (fun z => nb (by simp [z])) q)) hfp (Nat.le_refl _) laid
    refine ⟨.ref s.heap.objs.size, _, I1, rfl, ⟨_, x, rfl, I.hok.fresh (Nat.le_refl _), rfl, fun ys hys => by rw [I.tuple_inj hys hsq]; exact hx⟩, ⟨⟨y, ?_⟩, hst.1.at fun ob q => (sb.2 it (Ne.symm hne)).trans q, hne⟩, fun b hb => ?_⟩
    · rw [show ((i + 1 : Nat) : Int) = (i : Int) + 1 by omega]
      exact he'
    · have two : b = en ∨ b = it := by simpa using hb
      have hlt : b < s.heap.objs.size := by
        rcases two with z | z
        · rw [z]; exact hen
        · rw [z]; exact hil
      rw [upd_ne (Nat.ne_of_lt hlt)]
      exact (hfp b hb).1
  done := by
    intro X eP ew eK hcalm i pins s σ H E I hfp st hgo
    subst eP ew eK
    obtain ⟨⟨old, he⟩, hit, hne⟩ := st
    obtain ⟨xs, hsq, hx⟩ := hgo
    obtain ⟨its, rv, isT, hz⟩ := I.tuple hsq
    obtain ⟨f0, f1, f2, f3, f4, f5⟩ := hfp it (by simp)
    have hd := I.ok.hd hcalm
    have hl : i = its.toArray.size := by rw [List.size_toArray, ← rv.length, hx]
    have D0 := Draws.tuple (prog := X.prog) (w := X.w) (A := X.A.in1) hd it a hai its.toArray
    subst hl
    exact wpAny_pyNext_enum_endD D0 he ⟨hit, isT⟩ fun h' eb => ⟨rfl, I.turned (t' := s.toks) (fun b ob hb q => eb b ob hb q) f0 f1 f3 f4 f5⟩
  self := fun A i s Q E st hQ => let ⟨⟨_, he⟩, _⟩ := st; wpAny_pyIter_enum he hQ

/-- enumerate(x), x a list or a tuple -/
def iEn (K : PySem.W.Frag) (ta : TA) : TI := fun σ H R => ta σ H fun vs H1 => ∃ a, vs = [.ref a] ∧ (((∃ xs, SqL K H1 a xs) ∧ R (Ite K a) H1) ∨ ((∃ xs, SqT K H1 a xs) ∧ R (ItT K a) H1))
def enumD : Nat → List D → List D
  | _, [] => []
  | k, d :: r => .tup [.int (k : Int), d] :: enumD (k + 1) r
theorem enumD_len : ∀ (k : Nat) (ds : List D), (enumD k ds).length = ds.length
  | _, [] => rfl
  | k, d :: r => congrArg (· + 1) (enumD_len (k + 1) r)
theorem enumD_get : ∀ (k i : Nat) (ds : List D) (d : D), ds[i]? = some d → (enumD k ds)[i]? = some (.tup [.int ((k + i : Nat) : Int), d])
  | _, _, [], _, h => by simp at h
  | k, 0, x :: r, d, h => by
    have e : x = d := by simpa using h
    subst e
    rfl
  | k, i + 1, x :: r, d, h => by
    have := enumD_get (k + 1) i r d (by simpa using h)
    show (enumD (k + 1) r)[i]? = _
    rw [this, show k + 1 + i = k + (i + 1) by omega]
def itEnum (f : M RV) : M (List D) := M.bind (itSeq f) fun ds => M.ret (enumD 0 ds)
section
variable {X : Cx} {W : WX} {a : Expr} {f : M RV} {pos p tpos : Pos} {elts : List Expr} {kk : Nat}
theorem pi_en {ta : TA} (hg : Gl X "enumerate") (hm : X.mg "enumerate" = none) (ha : PA X [a] ta) (hs : starEach [a] X.env = [(false, eval a X.env)] := by rfl) : PI X (.Tuple elts kk tpos) (.Call (.Name "enumerate" p) [a] [] pos) (iEn X.K ta) := by
  refine ⟨fun pins s σ H R I h => ?_⟩
  refine PyProof.Rows.Call_ (ld_blt I hg hm PyProof.Rows.boot_enumerate (PyProof.Rows.callWith_type1 (thn (ha.run pos pins s σ H _ I h) fun us s1 ⟨vs, H1, I1, r1, q1⟩ => ?_) hs rfl))
  obtain ⟨q, ev, hq⟩ := q1
  subst ev
  have eu := r1.ref1
  subst eu
  have fresh : ∀ b ∈ [s1.heap.objs.size + 1, s1.heap.objs.size], FpOk X pins H1 b := fun b hb => by
    have two : b = s1.heap.objs.size + 1 ∨ b = s1.heap.objs.size := by simpa using hb
    have hle : s1.heap.objs.size ≤ b := by omega
    exact I1.fpOk hle (I1.hok.fresh hle)
  rcases hq with ⟨⟨xs, hs1⟩, z⟩ | ⟨⟨xs, hs1⟩, z⟩
  · obtain ⟨its, rv, pl, _⟩ := I1.list hs1
    refine call_enumerate_list pl.isList fun h' he hit hsz hkp => wpAny_pyIter_enum he ?_
    exact ⟨_, _, _, _, H1, rfl, I1.kept (t' := s1.toks) hkp, turn_enum q _ _, ⟨⟨.none, he⟩, hit, Nat.succ_ne_self _⟩, fresh, z⟩
  · obtain ⟨its, rv, isT, _⟩ := I1.tuple hs1
    have hlt : q < s1.heap.objs.size := by
      obtain ⟨ob, ho, _⟩ := id isT
      exact Heap.lt_size ho
    refine call_enT isT fun h' he hit hkp => wpAny_pyIter_enum he ?_
    exact ⟨_, _, _, _, H1, rfl, I1.kept (t' := s1.toks) hkp, turn_enT q _ _ (Nat.ne_of_lt hlt) (Nat.ne_of_lt (Nat.lt_succ_of_lt hlt)), ⟨⟨.none, he⟩, hit, Nat.succ_ne_self _⟩, fresh, z⟩
theorem walkD_en {K : PySem.W.Frag} {mg : Mg} {F : Hp} {a : Addr} {vs : List V} {ds : List D} (h : SqL K F a vs) (r : Reps K mg F vs ds) : WalkD K mg F (Ite K a) (enumD 0 ds) := by
  unfold WalkD
  rw [enumD_len, ← r.length]
  refine ⟨fun i H hi s => ⟨vs, vs[i], s.seq h, List.getElem?_eq_getElem hi⟩, fun H s => ⟨vs, s.seq h, Nat.le_refl _⟩, fun i H x H' hi s y => ?_⟩
  obtain ⟨T, v, e1, e2, e3, e4⟩ := y
  have hd : i < ds.length := by rw [← r.length]; exact hi
  obtain ⟨v', h1, h2⟩ := r.get (List.getElem?_eq_getElem hd)
  rw [e4 vs (s.seq h)] at h1
  cases h1
  refine ⟨_, enumD_get 0 i ds _ (List.getElem?_eq_getElem hd), .inr ⟨T, .int (i : Nat), v, _, _, e1, e2, e3, rfl, ?_, h2⟩⟩
  rw [Nat.zero_add]
  exact .int _
theorem walkD_enT {K : PySem.W.Frag} {mg : Mg} {F : Hp} {a : Addr} {vs : List V} {ds : List D} (h : SqT K F a vs) (r : Reps K mg F vs ds) : WalkD K mg F (ItT K a) (enumD 0 ds) := by
  unfold WalkD
  rw [enumD_len, ← r.length]
  refine ⟨fun i H hi s => ⟨vs, vs[i], sqT_mono s h, List.getElem?_eq_getElem hi⟩, fun H s => ⟨vs, sqT_mono s h, rfl⟩, fun i H x H' hi s y => ?_⟩
  obtain ⟨T, v, e1, e2, e3, e4⟩ := y
  have hd : i < ds.length := by rw [← r.length]; exact hi
  obtain ⟨v', h1, h2⟩ := r.get (List.getElem?_eq_getElem hd)
  rw [e4 vs (sqT_mono s h)] at h1
  cases h1
  refine ⟨_, enumD_get 0 i ds _ (List.getElem?_eq_getElem hd), .inr ⟨T, .int (i : Nat), v, _, _, e1, e2, e3, rfl, ?_, h2⟩⟩
  rw [Nat.zero_add]
  exact .int _
theorem di_enum (hg : Gl X "enumerate") (hm : X.mg "enumerate" = none) (ha : DE X W a f) (hs : starEach [a] X.env = [(false, eval a X.env)] := by rfl) (hs' : starEach [a] X.env = (false, eval a X.env) :: starEach [] X.env := by rfl) :
    DI X W (.Tuple elts kk tpos) (.Call (.Name "enumerate" p) [a] [] pos) (itEnum f) := piW (pi_en hg hm (pa_cons ha pa_nil hs') hs) fun σ H Q ⟨e, F, R, h⟩ => by
  refine ⟨e, F, R, ?_⟩
  unfold itEnum itSeq M.bind at h
  cases w : f e with
  | bad => rw [w] at h; exact h.elim
  | ex x e' => rw [w] at h; exact h
  | ok r e1 =>
    rw [w] at h
    dsimp only at h
    intro x F1 H1 s1 R1 q1
    cases w' : frz r e1 with
    | bad => rw [w'] at h; exact h.elim
    | ex x e' => exact (frz_noex w').elim
    | ok d e2 =>
      rw [w'] at h
      obtain ⟨F2, s2, R2, q2⟩ := frz_ok R1 q1 w' s1
      dsimp only at h
      cases d with
      | lst ds =>
        cases q2 with
        | lst q r => exact ⟨_, rfl, .inl ⟨⟨_, R2.sub.seq q⟩, h _ F2 H1 s2 R2 (walkD_en q r)⟩⟩
      | tup ds =>
        cases q2 with
        | tup q r => exact ⟨_, rfl, .inr ⟨⟨_, sqT_mono R2.sub q⟩, h _ F2 H1 s2 R2 (walkD_enT q r)⟩⟩
      | _ => exact h.elim
end
end Y

set_option Elab.async false
set_option linter.all false
set_option maxRecDepth 100000
set_option maxHeartbeats 4000000
namespace Y
open PySem PySem.Spec L2
set_option autoImplicit false
/-! ### defs by name -/
/-- how plain positional arguments bind -/
def BA (fd : FuncData) (ps : List Str) : Prop := ∀ us : List Value, us.length = ps.length → bindArgs fd ⟨us, []⟩ = pure (ps.zip us)
/-- a def of the text stands behind its name -/
def DefAt (K : PySem.W.Frag) (mg : Mg) (x : Str) (st : Stmt) (ps : List Str) : Prop := ∃ f fd, Fun K x x st f fd ∧ mg x = some (.ref f) ∧ BA fd ps
def CallOk (P : Program) (w : World) (K : PySem.W.Frag) (mg : Mg) (x : Str) (k : Nat) (ps : List Str) (fn : Fn) : Prop := ∃ f fd, (∀ base, FnOk P w K mg base (L2.CX P w) k f fd ps (cSp K mg fn)) ∧ mg x = some (.ref f) ∧ PySem.W.keepIn K (.ref f) = true ∧ BA fd ps
theorem DefAt.ok {P : Program} {w : World} {K : PySem.W.Frag} {mg : Mg} {x : Str} {st : Stmt} {ps : List Str} {k : Nat} {fn : Fn} (d : DefAt K mg x st ps) (h : ∀ f fd, Fun K x x st f fd → ∀ base, FnOk P w K mg base (L2.CX P w) k f fd ps (cSp K mg fn)) : CallOk P w K mg x k ps fn := by
  obtain ⟨f, fd, F, m, b⟩ := d
  exact ⟨f, fd, h f fd F, m, F.kp, b⟩
section
variable {X : Cx} {W : WX} {a b c : Expr} {es : List Expr} {f g h : M RV} {as : M (List RV)} {fn : Fn} {pos p : Pos} {k : Nat} {ps : List Str} {x : Str}
theorem de_callN (G : CallOk X.prog X.w X.K X.mg x k ps fn) (hr : Room k X.A) (tk : Takes X W) (hg : Gl X x) (ha : DA X W (a :: es) as)
    (hdb : (x == ("__debug__" : Str)) = false := by decide) (he : starEach (a :: es) X.env = (false, eval a X.env) :: starEach es X.env := by rfl) (hpl : (backTo pos (starEach es X.env)).any (·.1) = false := by rfl) :
    DE X W (.Call (.Name x p) (a :: es) [] pos) (eCall fn as) := by
  obtain ⟨fa, fd, G, m, hk, hb⟩ := G
  exact de_call (G X.base) hr tk hg m hk (.all hb) ha hdb he hpl
/-! ### chains -/
theorem de_chain {op op' : CmpOp} {pp qq : Int → Int → Bool} (ho : OpR X (compareOp op) (rI0 fun i j => .bl (pp i j))) (ho' : OpR X (compareOp op') (rI0 fun i j => .bl (qq i j))) (ha : DE X W a f) (hb : DE X W b g) (hc : DE X W c h)
    (hm : lastMarks [op, op'] [b, c] = false := by with_unfolding_all rfl) : DE X W (.Compare a [op, op'] [b, c] pos) (chI pp qq f g h) := peW (pe_chain ho ho' ha hb hc hm) fun _ _ _ z => chI_ok z
theorem dt_chain {op op' : CmpOp} {pp qq : Int → Int → Bool} (ho : OpR X (compareOp op) (rI0 fun i j => .bl (pp i j))) (ho' : OpR X (compareOp op') (rI0 fun i j => .bl (qq i j))) (ha : DE X W a f) (hb : DE X W b g) (hc : DE X W c h)
    (hm : lastMarks [op, op'] [b, c] = false := by with_unfolding_all rfl) : DT X W (.Compare a [op, op'] [b, c] pos) (asB (chI pp qq f g h)) := ptW (pt_chain ho ho' ha hb hc hm) fun _ _ _ z => chI_ok (asB_ok z)
end
/-! ### a law's end -/
def spTrue (K : PySem.W.Frag) : Sp := fun vs H Q _ => ∃ (a : Addr) (ns : List Int), vs = [.ref a] ∧ SqL K H a (ns.map V.int) ∧ ns.length ≤ 63 ∧ ∀ H', Q (.bl true) H'
theorem reps_ints {K : PySem.W.Frag} {mg : Mg} {F : Hp} : ∀ ns : List Int, Reps K mg F (ns.map V.int) (ns.map D.int)
  | [] => .nil
  | n :: ns => .cons (.int n) (reps_ints ns)
theorem law_end {P : Program} {w : World} {K : PySem.W.Frag} {mg : Mg} {x : Str} {k : Nat} {p : Str} {fn : Fn} {fa : Addr} (G : CallOk P w K mg x k [p] fn) (hm : mg x = some (.ref fa)) (h : ∀ ns : List Int, ns.length ≤ 63 → ∃ e, fn [.val (.lst (ns.map D.int))] = .ok (.val (.bl true)) e) :
    ∃ fd : FuncData, (∀ (s : Shared) (u : Value), BindsTo s fd ⟨[u], []⟩ [(p, u)]) ∧ ∀ base : Heap, K.In base → base.Ns mainGlobals mg → FnOk P w K mg base (L2.CX P w) k fa fd [p] (spTrue K) := by
  obtain ⟨f, fd, G, m, _, hb⟩ := G
  rw [hm] at m
  cases m
  have imp : ∀ vs H Q E, spTrue K vs H Q E → cSp K mg fn vs H Q E := fun vs H Q E ⟨a, ns, ev, hS, hl, q⟩ => by
    subst ev
    refine ⟨[.val (.lst (ns.map D.int))], H, ⟨Same.refl _, rfl, fun i s o es ex => ?_, fun i j f g c d a ei ej _ _ => ?_⟩, rfl, ?_⟩
    · cases i with
      | zero =>
        have e1 : Slot.val (.lst (ns.map D.int)) = s := by simpa using es
        have e2 : some (V.ref a) = o := by simpa using ex
        subst e1 e2
        exact ⟨_, rfl, .lst hS (reps_ints ns)⟩
      | succ i => simp at es
    · cases i with
      | zero => simp at ei
      | succ i => simp at ei
    · obtain ⟨e, he⟩ := h ns hl
      rw [he]
      intro v F' H' _ _ z
      cases z
      exact q H'
  exact ⟨fd, fun s u => .of_eq (hb [u] rfl), fun base _ _ => (G base).imp imp⟩
theorem walk_law {l : PySem.W.OpenLaw} {k : Nat} {q : Program} {loose : List Str} {XP : (Str → Option Value) → Heap → Prop} {YP : World → Heap → Prop} {d : DefRec} {K : Params → PySem.W.Frag} {x : Str}
    (hn : l.most = some 63) (hdf : d.params.defaults = []) (hr : Room k callerA) (hY : ∀ (w : World) (h : Heap), YP w h → (K w.params).In h)
    (F : ∀ (w : World) (mg : Mg) (fa : Addr) (h : Heap), (K w.params).In h → h.Ns mainGlobals mg → mg d.name = some (.ref fa) →
      ∃ fd : FuncData, (∀ (s : Shared) (u : Value), BindsTo s fd ⟨[u], []⟩ [(x, u)]) ∧ ∀ base : Heap, (K w.params).In base → base.Ns mainGlobals mg → FnOk l.prog w (K w.params) mg base (L2.CX l.prog w) k fa fd [x] (spTrue (K w.params))) :
    PySem.W.WalkO q loose XP YP l.row.toRowW d [] (fun f vs => PySem.call f vs) :=
  L2.walk_of (n := 63) (k := k) (x := x) (CX := fun w => L2.CX l.prog w) (sp := fun w => spTrue (K w.params)) hn (by decide) hdf hr hY F (fun _ _ a ns hl _ hS => ⟨a, ns, rfl, hS, hl, fun _ => rfl⟩) fun _ _ _ _ _ z => by
    obtain ⟨_, _, _, _, _, _, _, _, _, _, _, _, y⟩ := z
    exact y.elim
end Y

set_option Elab.async false
set_option linter.all false
set_option maxRecDepth 100000
set_option maxHeartbeats 4000000
namespace Y
open PySem PySem.Spec L2
set_option autoImplicit false
/-! ### classes by name -/
/-- how a call of the class binds -/
def FormOk (K : PySem.W.Frag) (mg : Mg) (fd : FuncData) (ps : List Str) (n : Nat) (ks : List Str) (gD : List D → List D → List D) : Prop := ∃ gu gV, KBn K fd ps (n + 1) ks gu gV ∧
  ∀ (F : Hp) (v : V) (vs zs : List V) (ds dk : List D), Reps K mg F vs ds → Reps K mg F zs dk → ds.length = n → dk.length = ks.length → ∃ ws, gV (v :: vs) zs = v :: ws ∧ Reps K mg F ws (gD ds dk)
def MakeOk (P : Program) (w : World) (K : PySem.W.Frag) (mg : Mg) (c : Str) (k : Nat) (ps : List Str) (fn : Fn) (n : Nat) (ks : List Str) (gD : List D → List D → List D) : Prop :=
  ∃ C f fd, mg c = some (.ref C) ∧ Mk K C f ∧ (∀ base, FnOk P w K mg base (L2.CX P w) k f fd ps (cSp K mg fn)) ∧ FormOk K mg fd ps n ks gD
section
variable {P : Program} {w : World} {K : PySem.W.Frag} {mg : Mg} {base : Heap}
theorem fn_denI {x qual : Str} {st : Stmt} {f : Addr} {fd : FuncData} {N ps : List Str} {k np n : Nat} {body : M Flo} {dvs : List V} {kws : List (Str × V)} (Fu : FunD K x qual (defArgs st) (defBody st) (defScope st) dvs kws f fd) (S : FnScope N ps (defScope st)) (hnp : ps.length = np) (hn : N.length = n) (hle : np ≤ n)
    (hb : ∀ (cdv : Value) (A : Around) (outer : List Env) (s : Shared) (H : Hp) (E : XK), Room k (A.deeper (PyProof.Rows.envOfC qual (defScope st) s.heap.objs.size f cdv)) →
      Takes (cxOf (L2.CX P w) P w K mg base N qual (defScope st) f cdv A outer s H E) (fun c d _ H => E c d H) →
      PassesOwn (model P w) (A.deeper (PyProof.Rows.envOfC qual (defScope st) s.heap.objs.size f cdv)) (cxOf (L2.CX P w) P w K mg base N qual (defScope st) f cdv A outer s H E).env (cxOf (L2.CX P w) P w K mg base N qual (defScope st) f cdv A outer s H E).xe →
      DSs (cxOf (L2.CX P w) P w K mg base N qual (defScope st) f cdv A outer s H E) (fun c d _ H => E c d H) (defBody st) body) :
    FnOk P w K mg base (L2.CX P w) (k + 1) f fd ps (cSp K mg (fnD np n body)) := by
  refine Fu.ok S (fun vs H Q E h => ?_) (fun cdv A outer s H vs Q E hr h => ?_)
  · obtain ⟨args, F, R, ha, h⟩ := h
    unfold fnD at h
    split at h
    · rename_i hl
      have := R.len
      rw [List.length_map] at this
      rw [hnp]; omega
    · exact h.elim
  · exact ⟨_, hb cdv A outer s H E hr (takes_of rfl rfl rfl rfl) (passes_of rfl), entry_ok hn hle h⟩
end
section
variable {X : Cx} {W : WX} {a : Expr} {es : List Expr} {as ks : M (List RV)} {fn : Fn} {pos p : Pos} {k nn : Nat} {ps nms : List Str} {c : Str} {kws : List Keyword} {gD : List D → List D → List D}
theorem de_makeN (G : MakeOk X.prog X.w X.K X.mg c k ps fn nn nms gD) (hr : Room (k + 1) X.A) (tk : Takes X W) (hW : ∀ c d σ σ' H, W c d σ H → W c d σ' H) (hg : Gl X c) (ha : DA X W (a :: es) as) (hk : DK X W kws ks)
    (hall : (backToKw pos (keywordEach kws X.env)).all (·.1.isSome) = true := by rfl) (hks : (backToKw pos (keywordEach kws X.env)).filterMap (·.1) = nms := by rfl) (hdb : (c == ("__debug__" : Str)) = false := by decide)
    (he : starEach (a :: es) X.env = (false, eval a X.env) :: starEach es X.env := by rfl) (hpl : ((backTo pos (starEach (a :: es) X.env)).any (·.1) || (backToKw pos (keywordEach kws X.env)).any (·.1.isNone)) = false := by rfl) :
    DE X W (.Call (.Name c p) (a :: es) kws pos) (eMake fn c nn nms.length gD as ks) := by
  obtain ⟨C, f, fd, m, M, G, gu, gV, kb, hgD⟩ := G
  exact de_make M (G X.base) hr (fun h => passes_call tk h) hW hg m kb ha hk hgD hall hks hdb he hpl
end
end Y

set_option Elab.async false
set_option linter.all false
set_option maxRecDepth 100000
set_option maxHeartbeats 4000000
namespace Y
open PySem PySem.Spec L2
set_option autoImplicit false
section
variable {K : PySem.W.Frag} {h : Heap} {mg : Mg}
theorem defAt_mk {x : Str} {st : Stmt} {ps : List Str} {f : Addr} {oc kV dc pm cd ct : Value} {od an : Option Addr} {sl : Array (Option Value)} (X : K.In h) (G : h.Ns mainGlobals mg) (a : PySem.W.nsIn K mainGlobals x = some (some (.ref f)))
    (l : K.lookup f = some ⟨oc, od, .func (PySem.W.fnOf x x (defArgs st) (defBody st) (defScope st) .none kV dc pm an cd ct), sl⟩) (c : PySem.W.codeIn K cd x = true) (k : PySem.W.keepIn K (.ref f) = true)
    (hb : ∀ (kV doc pm : Value) (an : Option Addr) (cdv ct : Value) (us : List Value), us.length = ps.length → bindArgs (PySem.W.fnOf x x (defArgs st) (defBody st) (defScope st) .none kV doc pm an cdv ct) ⟨us, []⟩ = pure (ps.zip us)) : DefAt K mg x st ps :=
  ⟨f, _, fun_mk l c k, PySem.W.mg_of X G a, fun us hl => hb kV dc pm an cd ct us hl⟩
theorem cls_mk {c : Str} {C : Addr} (X : K.In h) (G : h.Ns mainGlobals mg) (a : PySem.W.nsIn K mainGlobals c = some (some (.ref C))) (p1 : PySem.W.plainGet K C Str.empty = true) (p2 : PySem.W.hasDictIn K C = true) (p3 : PySem.W.plainOver K C = true) (p4 : PySem.W.findIn K (.ref C) "__setattr__" = some (some (.builtin "object.__setattr__")))
    (ha : PySem.W.findIn K (.ref C) "__class__" = some (some (.builtin "object.__class__"))) (hn : PySem.W.specialIn K (.builtin "object.__class__") "__get__" = some (some (.builtin "getset_descriptor.__get__"))) (htk : PySem.W.takesIn K (.builtin "object.__class__") = some true)
    (hm : PySem.W.mroIn K C (.type "object") = some true) (ic : PySem.W.isClsIn K C = true) (ty : PySem.W.typeIn K (.ref C) = some (.type "type")) (k0 : PySem.W.subIn K (.type "NoneType") (.ref C) = some false) (k1 : PySem.W.subIn K (.type "bool") (.ref C) = some false) (k2 : PySem.W.subIn K (.type "int") (.ref C) = some false)
    (k3 : PySem.W.subIn K (.type "str") (.ref C) = some false) (k4 : PySem.W.subIn K (.type "list") (.ref C) = some false) (k5 : PySem.W.subIn K (.type "tuple") (.ref C) = some false) : ClsF K mg c C := by
  have kit : ∀ {t : String} {b : Bool}, PySem.W.subIn K (.type t) (.ref C) = some b → PySem.W.kitOne K (.type t) (.ref C) = some b := fun {t b} hs => by
    unfold PySem.W.kitOne PySem.W.kitCls
    rw [if_neg (by simp)]
    dsimp only
    rw [if_pos]
    · exact hs
    · rw [Bool.and_eq_true]
      exact ⟨ic, by rw [ty]; simp⟩
  exact ⟨PySem.W.mg_of X G a, ⟨p1, p2, p3, p4⟩, ha, hn, htk, hm, if_pos (by simp), kit k0, kit k1, kit k2, kit k3, kit k4, kit k5⟩
theorem const_mk {x : Str} {n : Int} {u : Value} (X : K.In h) (G : h.Ns mainGlobals mg) (a : PySem.W.nsIn K mainGlobals x = some (some u)) (r : RelV (.int n) u) : ∃ t, mg x = some (.int n t) := by
  obtain ⟨t, e⟩ := r
  exact ⟨t, by rw [PySem.W.mg_of X G a, e]⟩
/-- an __init__ with keyword-only parameters that have defaults -/
theorem init_mk {qual : Str} {st : Stmt} {f D : Addr} {oc dc pm cd ct : Value} {od an : Option Addr} {sl : Array (Option Value)} {kws : List (Str × V)}
    (l : K.lookup f = some ⟨oc, od, .func (PySem.W.fnOf "__init__" qual (defArgs st) (defBody st) (defScope st) .none (.ref D) dc pm an cd ct), sl⟩) (c : PySem.W.codeIn K cd qual = true) (k : PySem.W.keepIn K (.ref f) = true)
    (hk : ∀ q ∈ kws, ∃ u, PySem.W.nsIn K D q.1 = some (some u) ∧ RelV q.2 u) : FunD K "__init__" qual (defArgs st) (defBody st) (defScope st) [] kws f (PySem.W.fnOf "__init__" qual (defArgs st) (defBody st) (defScope st) .none (.ref D) dc pm an cd ct) :=
  ⟨⟨oc, od, .none, .ref D, dc, pm, an, cd, ct, sl, rfl, l, c, .inl ⟨rfl, rfl⟩, .inr ⟨D, rfl, hk⟩⟩, k⟩
end
end Y

set_option Elab.async false
set_option linter.all false
set_option maxRecDepth 100000
set_option maxHeartbeats 4000000
namespace Y
open PySem PySem.Spec L2
set_option autoImplicit false
def tTupL (n : Nat) (t : List D → M Unit) : D → M Unit
  | .lst ds => fun e => if ds.length = n then t ds e else .bad
  | _ => M.bad
/-- what repr tells of a bool -/
def repS (b : Bool) : Str := if b then "True" else "False"
def repK : D → M RV
  | .bl b => fun e => .ok (.val (.str (repS b))) e
  | _ => M.bad
section
variable {X : Cx} {W : WX} {a : Expr} {es : List Expr} {f : M RV} {ts : List D → M Unit} {us : List Nat} {pos : Pos}
theorem dg_unl {k n : Nat} (hc : X.calm = true) (h : DGs X es us ts) (hn : (assignEach es X.env).length = n := by rfl) (hst : (assignEach es X.env).findIdx? (·.1) = none := by rfl) : DG X (.Tuple es k pos) us (tTupL n ts) := pgW (pg_unl hc h hn hst) fun v σ H Q ⟨e, F, d, R, q, h⟩ => by
  unfold tTupL at h
  split at h
  · rename_i ds
    split at h
    · rename_i hl
      cases q with
      | lst q r => exact ⟨_, _, rfl, R.sub.seq q, by rw [r.length]; exact hl, e, F, ds, R, r, h⟩
    · exact h.elim
  · exact h.elim
theorem call_reprB : CallR X (.builtin "repr") (fun xs H Q => ∃ b, xs = [.bl b] ∧ Q (.str (repS b)) H) := by
  intro pins s σ H xs us Q I r h
  obtain ⟨b, rfl, q⟩ := h
  obtain ⟨u, rfl, t⟩ := vals1 r
  cases t
  exact PySem.P.repr_of_bool ⟨.str _, H, I.tok _, ⟨_, rfl⟩, q⟩
theorem de_repr {p : Pos} (hg : Gl X "repr") (hm : X.mg "repr" = none) (ha : DE X W a f) (he : starEach [a] X.env = (false, eval a X.env) :: starEach [] X.env := by rfl) (hpl : (backTo pos (starEach [] X.env)).any (·.1) = false := by rfl) :
    DE X W (.Call (.Name "repr" p) [a] [] pos) (rd1 f repK) := de_b1 call_reprB (fun F H e σ x d Q R rx h => by
  unfold repK at h
  split at h
  · cases rx
    exact ⟨_, rfl, post_val R h (.str _)⟩
  · exact h.elim) hg hm (by decide +kernel) ha (he := he) (hpl := hpl)
end
end Y

set_option Elab.async false
set_option linter.all false
set_option maxRecDepth 100000
set_option maxHeartbeats 4000000
namespace Y
open PySem PySem.Spec L2
set_option autoImplicit false
/-! ### reckoning with denotations: what is done next stands under a name, so that simp goes from the left -/
section
variable {α β : Type}
def Res.bnd (r : Res α) (k : α → Sl → Res β) : Res β := match r with
  | .ok a e => k a e
  | .ex x e => .ex x e
  | .bad => .bad
@[simp] theorem bnd_ok (a : α) (e : Sl) (k : α → Sl → Res β) : Res.bnd (.ok a e) k = k a e := id rfl
@[simp] theorem bnd_ex (x : Xn) (e : Sl) (k : α → Sl → Res β) : Res.bnd (.ex x e) k = .ex x e := id rfl
@[simp] theorem bnd_bad (k : α → Sl → Res β) : Res.bnd .bad k = .bad := id rfl
def oB (o : Option α) (k : α → Res β) : Res β := match o with
  | some a => k a
  | none => .bad
@[simp] theorem oB_some (a : α) (k : α → Res β) : oB (some a) k = k a := id rfl
@[simp] theorem oB_none (k : α → Res β) : oB none k = .bad := id rfl
def gB (c : Bool) (r : Res α) : Res α := match c with
  | true => r
  | false => .bad
@[simp] theorem gB_t (r : Res α) : gB true r = r := id rfl
@[simp] theorem gB_f (r : Res α) : gB false r = .bad := id rfl
def ifC (f g : M α) (c : Bool) (e : Sl) : Res α := match c with
  | true => f e
  | false => g e
@[simp] theorem ifC_t (f g : M α) (e : Sl) : ifC f g true e = f e := id rfl
@[simp] theorem ifC_f (f g : M α) (e : Sl) : ifC f g false e = g e := id rfl
theorem gB_if (c : Prop) [Decidable c] (r : Res α) : (if c then r else .bad) = gB (decide c) r := by
  by_cases h : c
  · rw [if_pos h, decide_eq_true h]; rfl
  · rw [if_neg h, decide_eq_false h]; rfl
theorem gB_iff (c : Bool) (r : Res α) : (if c = true then r else .bad) = gB c r := by cases c <;> rfl
@[simp] theorem v_bind (f : M α) (k : α → M β) (e : Sl) : M.bind f k e = (f e).bnd k := id rfl
@[simp] theorem v_ret (a : α) (e : Sl) : M.ret a e = .ok a e := id rfl
@[simp] theorem v_bad (e : Sl) : (M.bad : M α) e = .bad := id rfl
end
@[simp] theorem v_rval (e : Sl) (d : D) : rdat e (.val d) = some d := id rfl
@[simp] theorem v_rown (e : Sl) (c : Cont) : rdat e (.own c) = some c.dat := id rfl
@[simp] theorem v_rpk (e : Sl) (i : Nat) : rdat e (.pk i) = sdat e[i]? := id rfl
@[simp] theorem v_sval (d : D) : sdat (some (.val d)) = some d := id rfl
@[simp] theorem v_sown (f : Bool) (c : Cont) : sdat (some (.own f c)) = some c.dat := id rfl
@[simp] theorem v_clst (xs : List D) : (Cont.lst xs).dat = .lst xs := id rfl
@[simp] theorem v_cins (c : Str) (fs : List (Str × D)) : (Cont.ins c fs).dat = .ins c fs := id rfl
def ap (k : D → M RV) (e : Sl) (d : D) : Res RV := k d e
@[simp] theorem v_ap (k : D → M RV) (e : Sl) (d : D) : ap k e d = k d e := id rfl
def rd1c (k : D → M RV) (r : RV) (e : Sl) : Res RV := oB (rdat e r) (ap k e)
@[simp] theorem v_rd1c (k : D → M RV) (r : RV) (e : Sl) : rd1c k r e = oB (rdat e r) (ap k e) := id rfl
@[simp] theorem v_rd1 (f : M RV) (k : D → M RV) (e : Sl) : rd1 f k e = (f e).bnd (rd1c k) := by kernel_rfl
def rd2e (k : D → D → M RV) (r' : RV) (e : Sl) (d : D) : Res RV := oB (rdat e r') (ap (k d) e)
@[simp] theorem v_rd2e (k : D → D → M RV) (r' : RV) (e : Sl) (d : D) : rd2e k r' e d = oB (rdat e r') (ap (k d) e) := id rfl
def rd2d (k : D → D → M RV) (r r' : RV) (e : Sl) : Res RV := oB (rdat e r) (rd2e k r' e)
@[simp] theorem v_rd2d (k : D → D → M RV) (r r' : RV) (e : Sl) : rd2d k r r' e = oB (rdat e r) (rd2e k r' e) := id rfl
def rd2c (g : M RV) (k : D → D → M RV) (r : RV) (e : Sl) : Res RV := (g e).bnd (rd2d k r)
@[simp] theorem v_rd2c (g : M RV) (k : D → D → M RV) (r : RV) (e : Sl) : rd2c g k r e = (g e).bnd (rd2d k r) := id rfl
@[simp] theorem v_rd2 (f g : M RV) (k : D → D → M RV) (e : Sl) : rd2 f g k e = (f e).bnd (rd2c g k) := by
  unfold rd2 M.bind
  cases f e with
  | bad => rfl
  | ex x e' => rfl
  | ok r e' =>
    show _ = (g e').bnd (rd2d k r)
    dsimp only
    cases g e' with
    | bad => rfl
    | ex x e2 => rfl
    | ok r' e2 =>
      show _ = oB (rdat e2 r) (rd2e k r' e2)
      dsimp only
      cases rdat e2 r with
      | none => rfl
      | some d =>
        show _ = oB (rdat e2 r') (ap (k d) e2)
        cases rdat e2 r' <;> rfl
def varC (i : Nat) (e : Sl) : Slot → Res RV
  | .val d => .ok (.val d) e
  | .own _ _ => .ok (.pk i) e
  | .no => .bad
@[simp] theorem v_varCv (i : Nat) (e : Sl) (d : D) : varC i e (.val d) = .ok (.val d) e := id rfl
@[simp] theorem v_varCo (i : Nat) (e : Sl) (f : Bool) (c : Cont) : varC i e (.own f c) = .ok (.pk i) e := id rfl
@[simp] theorem v_varCn (i : Nat) (e : Sl) : varC i e .no = .bad := id rfl
@[simp] theorem v_var (i : Nat) (e : Sl) : eVar i e = oB e[i]? (varC i e) := by
  unfold eVar
  cases e[i]? with
  | none => rfl
  | some s => cases s <;> rfl
@[simp] theorem v_eC (d : D) (e : Sl) : eC d e = .ok (.val d) e := id rfl
def asBd (e : Sl) : D → Res Bool
  | .bl b => .ok b e
  | _ => .bad
@[simp] theorem v_asBd (e : Sl) (b : Bool) : asBd e (.bl b) = .ok b e := id rfl
def asBc (r : RV) (e : Sl) : Res Bool := oB (rdat e r) (asBd e)
@[simp] theorem v_asBc (r : RV) (e : Sl) : asBc r e = oB (rdat e r) (asBd e) := id rfl
@[simp] theorem v_asB (f : M RV) (e : Sl) : asB f e = (f e).bnd asBc := by
  unfold asB M.bind
  cases f e with
  | bad => rfl
  | ex x e' => rfl
  | ok r e' =>
    show _ = oB (rdat e' r) (asBd e')
    dsimp only
    cases rdat e' r with
    | none => rfl
    | some d => cases d <;> rfl
def notC (c : Bool) (e : Sl) : Res Bool := .ok (!c) e
@[simp] theorem v_notC (c : Bool) (e : Sl) : notC c e = .ok (!c) e := id rfl
@[simp] theorem v_not (f : M Bool) (e : Sl) : mNot f e = (f e).bnd notC := by kernel_rfl
theorem ifC_eq {α : Type} (p : M Bool) (f g : M α) (e : Sl) : M.bind p (fun c => if c then f else g) e = (p e).bnd (ifC f g) := by
  unfold M.bind
  cases p e with
  | bad => rfl
  | ex x e' => rfl
  | ok c e' => cases c <;> rfl
@[simp] theorem v_and (f g : M Bool) (e : Sl) : mAnd f g e = (f e).bnd (ifC g (M.ret false)) := ifC_eq f g _ e
@[simp] theorem v_or (f g : M Bool) (e : Sl) : mOr f g e = (f e).bnd (ifC (M.ret true) g) := ifC_eq f _ g e
@[simp] theorem v_eIf (p : M Bool) (f g : M RV) (e : Sl) : eIf p f g e = (p e).bnd (ifC f g) := ifC_eq p f g e
@[simp] theorem v_sIf (p : M Bool) (f g : M Flo) (e : Sl) : sIf p f g e = (p e).bnd (ifC f g) := ifC_eq p f g e
def eAndD (g : M RV) (e : Sl) : D → Res RV
  | .bl true => g e
  | .bl false => .ok (.val (.bl false)) e
  | _ => .bad
@[simp] theorem v_eAndDt (g : M RV) (e : Sl) : eAndD g e (.bl true) = g e := id rfl
@[simp] theorem v_eAndDf (g : M RV) (e : Sl) : eAndD g e (.bl false) = .ok (.val (.bl false)) e := id rfl
def eAndC (g : M RV) (r : RV) (e : Sl) : Res RV := oB (rdat e r) (eAndD g e)
@[simp] theorem v_eAndC (g : M RV) (r : RV) (e : Sl) : eAndC g r e = oB (rdat e r) (eAndD g e) := id rfl
@[simp] theorem v_eAnd (f g : M RV) (e : Sl) : eAnd f g e = (f e).bnd (eAndC g) := by
  unfold eAnd M.bind
  cases f e with
  | bad => rfl
  | ex x e' => rfl
  | ok r e' =>
    show _ = oB (rdat e' r) (eAndD g e')
    dsimp only
    cases rdat e' r with
    | none => rfl
    | some d => cases d with
      | bl b => cases b <;> rfl
      | _ => rfl
def eOrD (g : M RV) (e : Sl) : D → Res RV
  | .bl false => g e
  | .bl true => .ok (.val (.bl true)) e
  | _ => .bad
@[simp] theorem v_eOrDf (g : M RV) (e : Sl) : eOrD g e (.bl false) = g e := id rfl
@[simp] theorem v_eOrDt (g : M RV) (e : Sl) : eOrD g e (.bl true) = .ok (.val (.bl true)) e := id rfl
def eOrC (g : M RV) (r : RV) (e : Sl) : Res RV := oB (rdat e r) (eOrD g e)
@[simp] theorem v_eOrC (g : M RV) (r : RV) (e : Sl) : eOrC g r e = oB (rdat e r) (eOrD g e) := id rfl
@[simp] theorem v_eOr (f g : M RV) (e : Sl) : eOr f g e = (f e).bnd (eOrC g) := by
  unfold eOr M.bind
  cases f e with
  | bad => rfl
  | ex x e' => rfl
  | ok r e' =>
    show _ = oB (rdat e' r) (eOrD g e')
    dsimp only
    cases rdat e' r with
    | none => rfl
    | some d => cases d with
      | bl b => cases b <;> rfl
      | _ => rfl
def eNotD (e : Sl) : D → Res RV
  | .bl b => .ok (.val (.bl (!b))) e
  | _ => .bad
@[simp] theorem v_eNotD (e : Sl) (b : Bool) : eNotD e (.bl b) = .ok (.val (.bl (!b))) e := id rfl
def eNotC (r : RV) (e : Sl) : Res RV := oB (rdat e r) (eNotD e)
@[simp] theorem v_eNotC (r : RV) (e : Sl) : eNotC r e = oB (rdat e r) (eNotD e) := id rfl
@[simp] theorem v_eNot (f : M RV) (e : Sl) : eNot f e = (f e).bnd eNotC := by
  unfold eNot M.bind
  cases f e with
  | bad => rfl
  | ex x e' => rfl
  | ok r e' =>
    show _ = oB (rdat e' r) (eNotD e')
    dsimp only
    cases rdat e' r with
    | none => rfl
    | some d => cases d <;> rfl
@[simp] theorem v_sub (i j : Int) (e : Sl) : subI (.int i) (.int j) e = .ok (.val (.int (i - j))) e := id rfl
@[simp] theorem v_mul (i j : Int) (e : Sl) : mulI (.int i) (.int j) e = gB (decide ((-(2 ^ 64) < i ∧ i < 2 ^ 64) ∨ (-(2 ^ 64) < j ∧ j < 2 ^ 64))) (.ok (.val (.int (i * j))) e) := by
  rw [← gB_if]
  unfold mulI kI2
  dsimp only
  split <;> rfl
@[simp] theorem v_fdiv (i j : Int) (e : Sl) : fdivI (.int i) (.int j) e = gB (decide (0 < j ∧ j < 1073741824)) (.ok (.val (.int (i / j))) e) := by
  rw [← gB_if]
  unfold fdivI kI2
  dsimp only
  split <;> rfl
@[simp] theorem v_mod (i j : Int) (e : Sl) : modI (.int i) (.int j) e = gB (decide (0 < j)) (.ok (.val (.int (i % j))) e) := by
  rw [← gB_if]
  unfold modI kI2
  dsimp only
  split <;> rfl
@[simp] theorem v_pow (i j : Int) (e : Sl) : powI (.int i) (.int j) e = gB (decide (0 ≤ j ∧ j ≤ 1000000 ∧ i.natAbs < 2 ^ 64)) (.ok (.val (.int (i ^ j.toNat))) e) := by
  rw [← gB_if]
  unfold powI kI2
  dsimp only
  split <;> rfl
@[simp] theorem v_neg (i : Int) (e : Sl) : negI (.int i) e = .ok (.val (.int (-i))) e := id rfl
@[simp] theorem v_lt (i j : Int) (e : Sl) : ltI (.int i) (.int j) e = .ok (.val (.bl (decide (i < j)))) e := id rfl
@[simp] theorem v_le (i j : Int) (e : Sl) : leI (.int i) (.int j) e = .ok (.val (.bl (decide (i ≤ j)))) e := id rfl
@[simp] theorem v_gt (i j : Int) (e : Sl) : gtI (.int i) (.int j) e = .ok (.val (.bl (decide (j < i)))) e := id rfl
@[simp] theorem v_ge (i j : Int) (e : Sl) : geI (.int i) (.int j) e = .ok (.val (.bl (decide (j ≤ i)))) e := id rfl
@[simp] theorem v_addI (i j : Int) (e : Sl) : addK (.int i) (.int j) e = .ok (.val (.int (i + j))) e := id rfl
@[simp] theorem v_addL (i j : List D) (e : Sl) : addK (.lst i) (.lst j) e = gB (decide (i.length + j.length ≤ sizeLine)) (.ok (.own (.lst (i ++ j))) e) := gB_if _ _
@[simp] theorem v_addT (i j : List D) (e : Sl) : addK (.tup i) (.tup j) e = gB (decide (i.length + j.length ≤ sizeLine)) (.ok (.val (.tup (i ++ j))) e) := gB_if _ _
@[simp] theorem v_addS (i j : Str) (e : Sl) : addK (.str i) (.str j) e = gB (decide (i.length + j.length ≤ sizeLine)) (.ok (.val (.str (i ++ j))) e) := gB_if _ _
def okV (e : Sl) (d : D) : Res RV := .ok (.val d) e
@[simp] theorem v_okV (e : Sl) (d : D) : okV e d = .ok (.val d) e := id rfl
@[simp] theorem v_ixL (xs : List D) (i : Int) (e : Sl) : ixK (.lst xs) (.int i) e = oB (atI xs i) (okV e) := by
  unfold ixK
  dsimp only
  cases atI xs i <;> rfl
@[simp] theorem v_ixT (xs : List D) (i : Int) (e : Sl) : ixK (.tup xs) (.int i) e = oB (atI xs i) (okV e) := by
  unfold ixK
  dsimp only
  cases atI xs i <;> rfl
@[simp] theorem v_lenL (xs : List D) (e : Sl) : lenK (.lst xs) e = .ok (.val (.int xs.length)) e := id rfl
@[simp] theorem v_lenT (xs : List D) (e : Sl) : lenK (.tup xs) e = .ok (.val (.int xs.length)) e := id rfl
@[simp] theorem v_intI (i : Int) (e : Sl) : intK (.int i) e = .ok (.val (.int i)) e := id rfl
@[simp] theorem v_intB (b : Bool) (e : Sl) : intK (.bl b) e = .ok (.val (.int (if b then 1 else 0))) e := id rfl
@[simp] theorem v_tupL (xs : List D) (e : Sl) : tupK (.lst xs) e = .ok (.val (.tup xs)) e := id rfl
@[simp] theorem v_tupT (xs : List D) (e : Sl) : tupK (.tup xs) e = .ok (.val (.tup xs)) e := id rfl
@[simp] theorem v_lstL (xs : List D) (e : Sl) : lstK (.lst xs) e = .ok (.own (.lst xs)) e := id rfl
@[simp] theorem v_lstT (xs : List D) (e : Sl) : lstK (.tup xs) e = .ok (.own (.lst xs)) e := id rfl
@[simp] theorem v_max2 (i j : Int) (e : Sl) : max2 (.int i) (.int j) e = .ok (.val (.int (if j > i then j else i))) e := id rfl
@[simp] theorem v_min2 (i j : Int) (e : Sl) : min2 (.int i) (.int j) e = .ok (.val (.int (if j < i then j else i))) e := id rfl
def okI (e : Sl) (ns : List Int) : Res RV := .ok (.val (.int ns.sum)) e
@[simp] theorem v_okI (e : Sl) (ns : List Int) : okI e ns = .ok (.val (.int ns.sum)) e := id rfl
@[simp] theorem v_sum (xs : List D) (e : Sl) : sumK (.lst xs) e = oB (intsOf xs) (okI e) := by
  unfold sumK
  dsimp only
  cases intsOf xs <;> rfl
@[simp] theorem v_dm (i j : Int) (e : Sl) : dmK (.int i) (.int j) e = gB (decide (0 < j ∧ j < 1073741824)) (.ok (.val (.tup [.int (i / j), .int (i % j)])) e) := by
  rw [← gB_if]
  unfold dmK kI2
  dsimp only
  split <;> rfl
@[simp] theorem v_slL (xs : List D) (lo hi : Option Int) (e : Sl) : slK (.lst xs) lo hi e = .ok (.own (.lst (cutD xs lo hi))) e := id rfl
@[simp] theorem v_slT (xs : List D) (lo hi : Option Int) (e : Sl) : slK (.tup xs) lo hi e = .ok (.val (.tup (cutD xs lo hi))) e := id rfl
@[simp] theorem v_oNo (e : Sl) : oNo e = .ok none e := id rfl
def oSomeD (e : Sl) : D → Res (Option Int)
  | .int i => .ok (some i) e
  | _ => .bad
@[simp] theorem v_oSomeD (e : Sl) (i : Int) : oSomeD e (.int i) = .ok (some i) e := id rfl
def oSomeC (r : RV) (e : Sl) : Res (Option Int) := oB (rdat e r) (oSomeD e)
@[simp] theorem v_oSomeC (r : RV) (e : Sl) : oSomeC r e = oB (rdat e r) (oSomeD e) := id rfl
@[simp] theorem v_oSome (f : M RV) (e : Sl) : oSome f e = (f e).bnd oSomeC := by
  unfold oSome M.bind
  cases f e with
  | bad => rfl
  | ex x e' => rfl
  | ok r e' =>
    show _ = oB (rdat e' r) (oSomeD e')
    dsimp only
    cases rdat e' r with
    | none => rfl
    | some d => cases d <;> rfl
def slA (lo hi : Option Int) (e : Sl) (d : D) : Res RV := slK d lo hi e
@[simp] theorem v_slA (lo hi : Option Int) (e : Sl) (d : D) : slA lo hi e d = slK d lo hi e := id rfl
def eSl3 (r : RV) (lo hi : Option Int) (e : Sl) : Res RV := oB (rdat e r) (slA lo hi e)
@[simp] theorem v_eSl3 (r : RV) (lo hi : Option Int) (e : Sl) : eSl3 r lo hi e = oB (rdat e r) (slA lo hi e) := id rfl
def eSl2 (u : M (Option Int)) (r : RV) (lo : Option Int) (e : Sl) : Res RV := (u e).bnd (eSl3 r lo)
@[simp] theorem v_eSl2 (u : M (Option Int)) (r : RV) (lo : Option Int) (e : Sl) : eSl2 u r lo e = (u e).bnd (eSl3 r lo) := id rfl
def eSl1 (l u : M (Option Int)) (r : RV) (e : Sl) : Res RV := (l e).bnd (eSl2 u r)
@[simp] theorem v_eSl1 (l u : M (Option Int)) (r : RV) (e : Sl) : eSl1 l u r e = (l e).bnd (eSl2 u r) := id rfl
@[simp] theorem v_eSl (f : M RV) (l u : M (Option Int)) (e : Sl) : eSl f l u e = (f e).bnd (eSl1 l u) := by
  unfold eSl M.bind
  cases f e with
  | bad => rfl
  | ex x e' => rfl
  | ok r e' =>
    show _ = (l e').bnd (eSl2 u r)
    dsimp only
    cases l e' with
    | bad => rfl
    | ex x e2 => rfl
    | ok lo e2 =>
      show _ = (u e2).bnd (eSl3 r lo)
      dsimp only
      cases u e2 with
      | bad => rfl
      | ex x e3 => rfl
      | ok hi e3 =>
        show _ = oB (rdat e3 r) (slA lo hi e3)
        dsimp only
        cases rdat e3 r <;> rfl
def isiD (ns : List String) (e : Sl) (t : String) : Res RV := .ok (.val (.bl (ns.any (subB t)))) e
@[simp] theorem v_isiD (ns : List String) (e : Sl) (t : String) : isiD ns e t = .ok (.val (.bl (ns.any (subB t)))) e := id rfl
@[simp] theorem v_isiK (ns : List String) (d : D) (e : Sl) : isiK ns d e = oB (tyD d) (isiD ns e) := by
  unfold isiK
  cases tyD d <;> rfl
@[simp] theorem v_tyN : tyD .non = some "NoneType" := id rfl
@[simp] theorem v_tyB (b : Bool) : tyD (.bl b) = some "bool" := id rfl
@[simp] theorem v_tyI (b : Int) : tyD (.int b) = some "int" := id rfl
@[simp] theorem v_tyS (b : Str) : tyD (.str b) = some "str" := id rfl
@[simp] theorem v_tyL (b : List D) : tyD (.lst b) = some "list" := id rfl
@[simp] theorem v_tyT (b : List D) : tyD (.tup b) = some "tuple" := id rfl
@[simp] theorem v_isNi (i : Int) (e : Sl) : isN (.int i) e = .ok (.val (.bl false)) e := id rfl
@[simp] theorem v_isNl (i : List D) (e : Sl) : isN (.lst i) e = .ok (.val (.bl false)) e := id rfl
@[simp] theorem v_isNt (i : List D) (e : Sl) : isN (.tup i) e = .ok (.val (.bl false)) e := id rfl
@[simp] theorem v_isN0 (e : Sl) : isN .non e = .ok (.val (.bl true)) e := id rfl
@[simp] theorem v_notN0 (e : Sl) : notN .non e = .ok (.val (.bl false)) e := id rfl
@[simp] theorem v_notNi (i : Int) (e : Sl) : notN (.int i) e = .ok (.val (.bl true)) e := id rfl
@[simp] theorem v_notNl (i : List D) (e : Sl) : notN (.lst i) e = .ok (.val (.bl true)) e := id rfl
@[simp] theorem v_notNt (i : List D) (e : Sl) : notN (.tup i) e = .ok (.val (.bl true)) e := id rfl
def ch3 (q : Int → Int → Bool) (j : Int) (e : Sl) : D → Res RV
  | .int l => .ok (.val (.bl (q j l))) e
  | _ => .bad
@[simp] theorem v_ch3 (q : Int → Int → Bool) (j : Int) (e : Sl) (l : Int) : ch3 q j e (.int l) = .ok (.val (.bl (q j l))) e := id rfl
def ch2 (q : Int → Int → Bool) (j : Int) (r : RV) (e : Sl) : Res RV := oB (rdat e r) (ch3 q j e)
@[simp] theorem v_ch2 (q : Int → Int → Bool) (j : Int) (r : RV) (e : Sl) : ch2 q j r e = oB (rdat e r) (ch3 q j e) := id rfl
def ch1 (q : Int → Int → Bool) (h : M RV) (j : Int) (c : Bool) (e : Sl) : Res RV := match c with
  | true => (h e).bnd (ch2 q j)
  | false => .ok (.val (.bl false)) e
@[simp] theorem v_ch1t (q : Int → Int → Bool) (h : M RV) (j : Int) (e : Sl) : ch1 q h j true e = (h e).bnd (ch2 q j) := id rfl
@[simp] theorem v_ch1f (q : Int → Int → Bool) (h : M RV) (j : Int) (e : Sl) : ch1 q h j false e = .ok (.val (.bl false)) e := id rfl
def chK (p q : Int → Int → Bool) (h : M RV) : D → D → M RV
  | .int i, .int j => fun e => ch1 q h j (p i j) e
  | _, _ => M.bad
@[simp] theorem v_chK (p q : Int → Int → Bool) (h : M RV) (i j : Int) (e : Sl) : chK p q h (.int i) (.int j) e = ch1 q h j (p i j) e := id rfl
@[simp] theorem v_ch (p q : Int → Int → Bool) (f g h : M RV) (e : Sl) : chI p q f g h e = rd2 f g (chK p q h) e := by
  unfold chI rd2 M.bind
  cases f e with
  | bad => rfl
  | ex x e' => rfl
  | ok r e' =>
    dsimp only
    cases g e' with
    | bad => rfl
    | ex x e2 => rfl
    | ok r' e2 =>
      dsimp only
      cases rdat e2 r with
      | none => cases rdat e2 r' <;> rfl
      | some d =>
        cases rdat e2 r' with
        | none => cases d <;> rfl
        | some d' =>
          cases d with
          | int i =>
            cases d' with
            | int j =>
              show _ = ch1 q h j (p i j) e2
              dsimp only
              cases p i j with
              | false => rfl
              | true =>
                show _ = (h e2).bnd (ch2 q j)
                rw [if_pos rfl]
                cases h e2 with
                | bad => rfl
                | ex x e3 => rfl
                | ok r3 e3 =>
                  show _ = oB (rdat e3 r3) (ch3 q j e3)
                  dsimp only
                  cases rdat e3 r3 with
                  | none => rfl
                  | some d3 => cases d3 <;> rfl
            | _ => rfl
          | _ => cases d' <;> rfl
/-! statements -/
def seqC (g : M Flo) : Flo → Sl → Res Flo
  | .nx, e => g e
  | .bk, e => .ok .bk e
  | .ct, e => .ok .ct e
  | .rt r, e => .ok (.rt r) e
@[simp] theorem v_seqCn (g : M Flo) (e : Sl) : seqC g .nx e = g e := id rfl
@[simp] theorem v_seqCb (g : M Flo) (e : Sl) : seqC g .bk e = .ok .bk e := id rfl
@[simp] theorem v_seqCc (g : M Flo) (e : Sl) : seqC g .ct e = .ok .ct e := id rfl
@[simp] theorem v_seqCr (g : M Flo) (r : RV) (e : Sl) : seqC g (.rt r) e = .ok (.rt r) e := id rfl
@[simp] theorem v_seq (f g : M Flo) (e : Sl) : sSeq f g e = (f e).bnd (seqC g) := by
  unfold sSeq
  cases f e with
  | bad => rfl
  | ex x e' => rfl
  | ok fl e' => cases fl <;> rfl
@[simp] theorem v_nil (e : Sl) : sNil e = .ok .nx e := id rfl
@[simp] theorem v_sbad (e : Sl) : sBad e = .bad := id rfl
def nxC (_r : RV) (e : Sl) : Res Flo := .ok .nx e
@[simp] theorem v_nxC (r : RV) (e : Sl) : nxC r e = .ok .nx e := id rfl
@[simp] theorem v_expr (f : M RV) (e : Sl) : sExpr f e = (f e).bnd nxC := by kernel_rfl
@[simp] theorem v_retN (e : Sl) : sRetN e = .ok (.rt (.val .non)) e := id rfl
def retP (i : Nat) (e : Sl) : Slot → Res Flo
  | .val d => .ok (.rt (.val d)) e
  | .own false c => .ok (.rt (.own c)) (e.set i .no)
  | _ => .bad
@[simp] theorem v_retPv (i : Nat) (e : Sl) (d : D) : retP i e (.val d) = .ok (.rt (.val d)) e := id rfl
@[simp] theorem v_retPo (i : Nat) (e : Sl) (c : Cont) : retP i e (.own false c) = .ok (.rt (.own c)) (e.set i .no) := id rfl
@[simp] theorem v_retV (d : D) (e : Sl) : retR (.val d) e = .ok (.rt (.val d)) e := id rfl
@[simp] theorem v_retO (c : Cont) (e : Sl) : retR (.own c) e = .ok (.rt (.own c)) e := id rfl
@[simp] theorem v_retR (i : Nat) (e : Sl) : retR (.pk i) e = oB e[i]? (retP i e) := by
  unfold retR
  dsimp only
  cases e[i]? with
  | none => rfl
  | some s => cases s with
    | own f c => cases f <;> rfl
    | _ => rfl
@[simp] theorem v_sRet (f : M RV) (e : Sl) : sRet f e = (f e).bnd retR := id rfl
def stoS : Option Slot → Bool
  | none => false
  | some (.own true _) => false
  | _ => true
@[simp] theorem v_stoSv (d : D) : stoS (some (.val d)) = true := id rfl
@[simp] theorem v_stoSn : stoS (some .no) = true := id rfl
@[simp] theorem v_stoSo (c : Cont) : stoS (some (.own false c)) = true := id rfl
@[simp] theorem v_sto (e : Sl) (i : Nat) : sto e i = stoS e[i]? := by
  unfold sto
  cases e[i]? with
  | none => rfl
  | some s => cases s with
    | own f c => cases f <;> rfl
    | _ => rfl
@[simp] theorem v_stoV (i : Nat) (d : D) (e : Sl) : stoV i d e = gB (sto e i) (.ok .nx (e.set i (.val d))) := gB_iff _ _
@[simp] theorem v_storV (i : Nat) (d : D) (e : Sl) : stor i (.val d) e = gB (sto e i) (.ok .nx (e.set i (.val d))) := gB_iff _ _
@[simp] theorem v_storO (i : Nat) (c : Cont) (e : Sl) : stor i (.own c) e = gB (sto e i) (.ok .nx (e.set i (.own false c))) := gB_iff _ _
@[simp] theorem v_storP (i j : Nat) (e : Sl) : stor i (.pk j) e = (frz (.pk j) e).bnd (stoV i) := id rfl
@[simp] theorem v_frzV (d : D) (e : Sl) : frz (.val d) e = .ok d e := id rfl
@[simp] theorem v_frzO (c : Cont) (e : Sl) : frz (.own c) e = .ok c.dat e := id rfl
def frzS (i : Nat) (e : Sl) : Slot → Res D
  | .val d => .ok d e
  | .own false c => .ok c.dat (e.set i (.val c.dat))
  | _ => .bad
@[simp] theorem v_frzSv (i : Nat) (e : Sl) (d : D) : frzS i e (.val d) = .ok d e := id rfl
@[simp] theorem v_frzSo (i : Nat) (e : Sl) (c : Cont) : frzS i e (.own false c) = .ok c.dat (e.set i (.val c.dat)) := id rfl
@[simp] theorem v_frzP (i : Nat) (e : Sl) : frz (.pk i) e = oB e[i]? (frzS i e) := by
  unfold frz
  dsimp only
  cases e[i]? with
  | none => rfl
  | some s => cases s with
    | own f c => cases f <;> rfl
    | _ => rfl
@[simp] theorem v_sSet (i : Nat) (f : M RV) (e : Sl) : sSet i f e = (f e).bnd (stor i) := id rfl
def valC (d : D) (e : Sl) : Res RV := .ok (.val d) e
@[simp] theorem v_valC (d : D) (e : Sl) : valC d e = .ok (.val d) e := id rfl
def aVc (r : RV) (e : Sl) : Res RV := (frz r e).bnd valC
@[simp] theorem v_aVc (r : RV) (e : Sl) : aVc r e = (frz r e).bnd valC := id rfl
@[simp] theorem v_aV (f : M RV) (e : Sl) : aV f e = (f e).bnd aVc := by kernel_rfl
def aOc : RV → Sl → Res RV
  | .own c, e => .ok (.own c) e
  | .val d, e => .ok (.val d) e
  | .pk i, e => (frz (.pk i) e).bnd valC
@[simp] theorem v_aOo (c : Cont) (e : Sl) : aOc (.own c) e = .ok (.own c) e := id rfl
@[simp] theorem v_aOv (d : D) (e : Sl) : aOc (.val d) e = .ok (.val d) e := id rfl
@[simp] theorem v_aOp (i : Nat) (e : Sl) : aOc (.pk i) e = (frz (.pk i) e).bnd valC := id rfl
@[simp] theorem v_aO (f : M RV) (e : Sl) : aO f e = (f e).bnd aOc := by
  unfold aO M.bind
  cases f e with
  | ok r e' => cases r <;> kernel_rfl
  | ex x e' => rfl
  | bad => rfl
def ioC (i : Nat) (e : Sl) : Slot → Res RV
  | .own _ _ => .ok (.pk i) e
  | _ => .bad
@[simp] theorem v_ioC (i : Nat) (e : Sl) (f : Bool) (c : Cont) : ioC i e (.own f c) = .ok (.pk i) e := id rfl
@[simp] theorem v_aIO (i : Nat) (e : Sl) : aIO i e = oB e[i]? (ioC i e) := by
  unfold aIO
  cases e[i]? with
  | none => rfl
  | some s => cases s <;> rfl
@[simp] theorem v_aNil (e : Sl) : aNil e = .ok [] e := id rfl
def consC (r : RV) (rs : List RV) (e : Sl) : Res (List RV) := .ok (r :: rs) e
@[simp] theorem v_consC (r : RV) (rs : List RV) (e : Sl) : consC r rs e = .ok (r :: rs) e := id rfl
def aConsC (g : M (List RV)) (r : RV) (e : Sl) : Res (List RV) := (g e).bnd (consC r)
@[simp] theorem v_aConsC (g : M (List RV)) (r : RV) (e : Sl) : aConsC g r e = (g e).bnd (consC r) := id rfl
@[simp] theorem v_aCons (f : M RV) (g : M (List RV)) (e : Sl) : aCons f g e = (f e).bnd (aConsC g) := by kernel_rfl
@[simp] theorem v_valsN : valsOf [] = some [] := id rfl
@[simp] theorem v_valsC (d : D) (rs : List RV) : valsOf (.val d :: rs) = (valsOf rs).map (d :: ·) := id rfl
def tupC (e : Sl) (ds : List D) : Res RV := gB (decide (ds.length ≤ sizeLine)) (.ok (.val (.tup ds)) e)
def lstC (e : Sl) (ds : List D) : Res RV := gB (decide (ds.length ≤ sizeLine)) (.ok (.own (.lst ds)) e)
@[simp] theorem v_tupC (e : Sl) (ds : List D) : tupC e ds = gB (decide (ds.length ≤ sizeLine)) (.ok (.val (.tup ds)) e) := id rfl
@[simp] theorem v_lstC (e : Sl) (ds : List D) : lstC e ds = gB (decide (ds.length ≤ sizeLine)) (.ok (.own (.lst ds)) e) := id rfl
def tupB (rs : List RV) (e : Sl) : Res RV := oB (valsOf rs) (tupC e)
def lstB (rs : List RV) (e : Sl) : Res RV := oB (valsOf rs) (lstC e)
@[simp] theorem v_tupB (rs : List RV) (e : Sl) : tupB rs e = oB (valsOf rs) (tupC e) := id rfl
@[simp] theorem v_lstB (rs : List RV) (e : Sl) : lstB rs e = oB (valsOf rs) (lstC e) := id rfl
@[simp] theorem v_eTup (g : M (List RV)) (e : Sl) : eTup g e = (g e).bnd tupB := by
  unfold eTup M.bind
  cases g e with
  | bad => rfl
  | ex x e' => rfl
  | ok rs e' =>
    show _ = oB (valsOf rs) (tupC e')
    dsimp only
    cases valsOf rs with
    | none => rfl
    | some ds => exact gB_if _ _
@[simp] theorem v_eLst (g : M (List RV)) (e : Sl) : eLst g e = (g e).bnd lstB := by
  unfold eLst M.bind
  cases g e with
  | bad => rfl
  | ex x e' => rfl
  | ok rs e' =>
    show _ = oB (valsOf rs) (lstC e')
    dsimp only
    cases valsOf rs with
    | none => rfl
    | some ds => exact gB_if _ _
@[simp] theorem v_sPar (is : List Nat) (fs : M (List RV)) (e : Sl) : sPar is fs e = (fs e).bnd (storAll is) := id rfl
@[simp] theorem v_storN (e : Sl) : storAll [] [] e = .ok .nx e := id rfl
@[simp] theorem v_storC (i : Nat) (is : List Nat) (r : RV) (rs : List RV) (e : Sl) : storAll (i :: is) (r :: rs) e = (stor i r e).bnd (seqC (storAll is rs)) := v_seq _ _ e
def appS (i : Nat) (d : D) (e : Sl) : Slot → Res Flo
  | .own fx (.lst xs) => gB (decide (xs.length < sizeLine)) (.ok .nx (e.set i (.own fx (.lst (xs ++ [d])))))
  | _ => .bad
@[simp] theorem v_appS (i : Nat) (d : D) (e : Sl) (fx : Bool) (xs : List D) : appS i d e (.own fx (.lst xs)) = gB (decide (xs.length < sizeLine)) (.ok .nx (e.set i (.own fx (.lst (xs ++ [d]))))) := id rfl
def app3 (i : Nat) (d : D) (e : Sl) : Res Flo := oB e[i]? (appS i d e)
@[simp] theorem v_app3 (i : Nat) (d : D) (e : Sl) : app3 i d e = oB e[i]? (appS i d e) := id rfl
def app2 (i : Nat) (r : RV) (e : Sl) : Res Flo := (frz r e).bnd (app3 i)
@[simp] theorem v_app2 (i : Nat) (r : RV) (e : Sl) : app2 i r e = (frz r e).bnd (app3 i) := id rfl
def app1 (i : Nat) (f : M RV) (e : Sl) : Slot → Res Flo
  | .own _ (.lst _) => (f e).bnd (app2 i)
  | _ => .bad
@[simp] theorem v_app1 (i : Nat) (f : M RV) (e : Sl) (fx : Bool) (xs : List D) : app1 i f e (.own fx (.lst xs)) = (f e).bnd (app2 i) := id rfl
@[simp] theorem v_sApp (i : Nat) (f : M RV) (e : Sl) : sApp i f e = oB e[i]? (app1 i f e) := by
  unfold sApp
  cases e[i]? with
  | none => rfl
  | some s =>
    cases s with
    | no => rfl
    | val d => rfl
    | own fx c =>
      cases c with
      | ins c fs => rfl
      | lst xs =>
        show _ = (f e).bnd (app2 i)
        unfold M.bind
        dsimp only
        cases f e with
        | bad => rfl
        | ex x e' => rfl
        | ok r e' =>
          show _ = (frz r e').bnd (app3 i)
          dsimp only
          cases frz r e' with
          | bad => rfl
          | ex x e2 => rfl
          | ok d e2 =>
            show _ = oB e2[i]? (appS i d e2)
            dsimp only
            cases e2[i]? with
            | none => rfl
            | some s => cases s with
              | no => rfl
              | val d => rfl
              | own f2 c2 => cases c2 with
                | ins _ _ => rfl
                | lst ys => exact gB_if _ _
def sixL (i : Nat) (b : Bool) (xs : List D) (d : D) (e : Sl) (j : Nat) : Res Flo := .ok .nx (e.set i (.own b (.lst (xs.set j d))))
@[simp] theorem v_sixL (i : Nat) (b : Bool) (xs : List D) (d : D) (e : Sl) (j : Nat) : sixL i b xs d e j = .ok .nx (e.set i (.own b (.lst (xs.set j d)))) := id rfl
def sixS (i : Nat) (d : D) (k : Int) (e : Sl) : Slot → Res Flo
  | .own b (.lst xs) => oB (ixN xs.length k) (sixL i b xs d e)
  | _ => .bad
@[simp] theorem v_sixS (i : Nat) (d : D) (k : Int) (e : Sl) (b : Bool) (xs : List D) : sixS i d k e (.own b (.lst xs)) = oB (ixN xs.length k) (sixL i b xs d e) := id rfl
def six5 (i : Nat) (d : D) (e : Sl) : D → Res Flo
  | .int k => oB e[i]? (sixS i d k e)
  | _ => .bad
@[simp] theorem v_six5 (i : Nat) (d : D) (e : Sl) (k : Int) : six5 i d e (.int k) = oB e[i]? (sixS i d k e) := id rfl
def six4 (i : Nat) (d : D) (r : RV) (e : Sl) : Res Flo := oB (rdat e r) (six5 i d e)
@[simp] theorem v_six4 (i : Nat) (d : D) (r : RV) (e : Sl) : six4 i d r e = oB (rdat e r) (six5 i d e) := id rfl
def six3 (i : Nat) (fx : M RV) (d : D) (e : Sl) : Slot → Res Flo
  | .own _ (.lst _) => (fx e).bnd (six4 i d)
  | _ => .bad
@[simp] theorem v_six3 (i : Nat) (fx : M RV) (d : D) (e : Sl) (b : Bool) (xs : List D) : six3 i fx d e (.own b (.lst xs)) = (fx e).bnd (six4 i d) := id rfl
def six2 (i : Nat) (fx : M RV) (d : D) (e : Sl) : Res Flo := oB e[i]? (six3 i fx d e)
@[simp] theorem v_six2 (i : Nat) (fx : M RV) (d : D) (e : Sl) : six2 i fx d e = oB e[i]? (six3 i fx d e) := id rfl
def six1 (i : Nat) (fx : M RV) (r : RV) (e : Sl) : Res Flo := (frz r e).bnd (six2 i fx)
@[simp] theorem v_six1 (i : Nat) (fx : M RV) (r : RV) (e : Sl) : six1 i fx r e = (frz r e).bnd (six2 i fx) := id rfl
@[simp] theorem v_sSetIx (i : Nat) (fv fx : M RV) (e : Sl) : sSetIx i fv fx e = (fv e).bnd (six1 i fx) := by
  unfold sSetIx M.bind
  cases fv e with
  | bad => rfl
  | ex x e' => rfl
  | ok r e' =>
    show _ = (frz r e').bnd (six2 i fx)
    dsimp only
    cases frz r e' with
    | bad => rfl
    | ex x e2 => rfl
    | ok d e2 =>
      show _ = oB e2[i]? (six3 i fx d e2)
      dsimp only
      cases e2[i]? with
      | none => rfl
      | some s => cases s with
        | no => rfl
        | val d => rfl
        | own b c => cases c with
          | ins _ _ => rfl
          | lst xs =>
            show _ = (fx e2).bnd (six4 i d)
            dsimp only
            cases fx e2 with
            | bad => rfl
            | ex x e3 => rfl
            | ok r3 e3 =>
              show _ = oB (rdat e3 r3) (six5 i d e3)
              dsimp only
              cases rdat e3 r3 with
              | none => cases e3[i]? <;> rfl
              | some d3 =>
                cases d3 with
                | int k =>
                  show _ = oB e3[i]? (sixS i d k e3)
                  cases e3[i]? with
                  | none => rfl
                  | some s => cases s with
                    | no => rfl
                    | val d => rfl
                    | own b c => cases c with
                      | ins _ _ => rfl
                      | lst ys =>
                        show _ = oB (ixN ys.length k) (sixL i b ys d e3)
                        dsimp only
                        cases ixN ys.length k <;> rfl
                | _ => cases e3[i]? <;> rfl
@[simp] theorem v_tName (i : Nat) (d : D) (e : Sl) : tName i d e = gB (sto e i) (.ok () (e.set i (.val d))) := gB_iff _ _
@[simp] theorem v_tTup (n : Nat) (t : List D → M Unit) (ds : List D) (e : Sl) : tTupD n t (.tup ds) e = gB (decide (ds.length = n)) (t ds e) := gB_if _ _
@[simp] theorem v_tsN (e : Sl) : tsNil [] e = .ok () e := id rfl
def tsC (ts : List D → M Unit) (ds : List D) (_u : Unit) (e : Sl) : Res Unit := ts ds e
@[simp] theorem v_tsCc (ts : List D → M Unit) (ds : List D) (u : Unit) (e : Sl) : tsC ts ds u e = ts ds e := id rfl
@[simp] theorem v_tsC (t : D → M Unit) (ts : List D → M Unit) (d : D) (ds : List D) (e : Sl) : tsCons t ts (d :: ds) e = (t d e).bnd (tsC ts ds) := by
  unfold tsCons
  dsimp only
  cases t d e <;> rfl
def nxU (_u : Unit) (e : Sl) : Res Flo := .ok .nx e
@[simp] theorem v_nxU (u : Unit) (e : Sl) : nxU u e = .ok .nx e := id rfl
def noEx {α : Type} (r : Res α) : Res α := match r with
  | .ok a e => .ok a e
  | _ => .bad
@[simp] theorem noEx_ok {α : Type} (a : α) (e : Sl) : noEx (.ok a e) = .ok a e := id rfl
@[simp] theorem noEx_bad {α : Type} : noEx (.bad : Res α) = .bad := id rfl
@[simp] theorem noEx_ex {α : Type} (x : Xn) (e : Sl) : noEx (.ex x e : Res α) = .bad := id rfl
def asg2 (t : D → M Unit) (d : D) (e : Sl) : Res Flo := (noEx (t d e)).bnd nxU
@[simp] theorem v_asg2 (t : D → M Unit) (d : D) (e : Sl) : asg2 t d e = (noEx (t d e)).bnd nxU := id rfl
def asg1 (t : D → M Unit) (r : RV) (e : Sl) : Res Flo := (frz r e).bnd (asg2 t)
@[simp] theorem v_asg1 (t : D → M Unit) (r : RV) (e : Sl) : asg1 t r e = (frz r e).bnd (asg2 t) := id rfl
@[simp] theorem v_sAsg (f : M RV) (t : D → M Unit) (e : Sl) : sAsg f t e = (f e).bnd (asg1 t) := by
  unfold sAsg M.bind
  cases f e with
  | bad => rfl
  | ex x e' => rfl
  | ok r e' =>
    show _ = (frz r e').bnd (asg2 t)
    dsimp only
    cases frz r e' with
    | bad => rfl
    | ex x e2 => rfl
    | ok d e2 =>
      show _ = (noEx (t d e2)).bnd nxU
      dsimp only
      cases t d e2 <;> rfl
def itC : D → Sl → Res (List D)
  | .lst ds, e => .ok ds e
  | .tup ds, e => .ok ds e
  | _, _ => .bad
@[simp] theorem v_itCl (ds : List D) (e : Sl) : itC (.lst ds) e = .ok ds e := id rfl
@[simp] theorem v_itCt (ds : List D) (e : Sl) : itC (.tup ds) e = .ok ds e := id rfl
def itF (r : RV) (e : Sl) : Res (List D) := (frz r e).bnd itC
@[simp] theorem v_itF (r : RV) (e : Sl) : itF r e = (frz r e).bnd itC := id rfl
@[simp] theorem v_itSeq (f : M RV) (e : Sl) : itSeq f e = (f e).bnd itF := by
  unfold itSeq M.bind
  cases f e with
  | bad => rfl
  | ex x e' => rfl
  | ok r e' =>
    show _ = (frz r e').bnd itC
    dsimp only
    cases frz r e' with
    | ok d e1 => cases d <;> rfl
    | ex x e1 => rfl
    | bad => rfl
def itRd (e : Sl) : D → Res (List D)
  | .int j => gB (decide (-(2 ^ 62) ≤ j ∧ j < 2 ^ 62)) (.ok (rangeD 0 j.toNat) e)
  | _ => .bad
theorem p62 : (2 : Int) ^ 62 = 4611686018427387904 := by decide +kernel
@[simp] theorem v_itRd (e : Sl) (j : Int) : itRd e (.int j) = gB (decide (-4611686018427387904 ≤ j ∧ j < 4611686018427387904)) (.ok (rangeD 0 j.toNat) e) := by
  unfold itRd
  dsimp only
  rw [p62]
def itRc (r : RV) (e : Sl) : Res (List D) := oB (rdat e r) (itRd e)
@[simp] theorem v_itRc (r : RV) (e : Sl) : itRc r e = oB (rdat e r) (itRd e) := id rfl
@[simp] theorem v_itR1 (f : M RV) (e : Sl) : itR1 f e = (f e).bnd itRc := by
  unfold itR1 M.bind
  cases f e with
  | bad => rfl
  | ex x e' => rfl
  | ok r e' =>
    show _ = oB (rdat e' r) (itRd e')
    dsimp only
    cases rdat e' r with
    | none => rfl
    | some d => cases d with
      | int j => exact gB_if _ _
      | _ => rfl
def itR4 (e : Sl) (i : Int) : D → Res (List D)
  | .int j => gB (decide (-(2 ^ 62) ≤ i ∧ i < 2 ^ 62 ∧ -(2 ^ 62) ≤ j ∧ j < 2 ^ 62)) (.ok (rangeD i (j - i).toNat) e)
  | _ => .bad
@[simp] theorem v_itR4 (e : Sl) (i j : Int) : itR4 e i (.int j) = gB (decide (-4611686018427387904 ≤ i ∧ i < 4611686018427387904 ∧ -4611686018427387904 ≤ j ∧ j < 4611686018427387904)) (.ok (rangeD i (j - i).toNat) e) := by
  unfold itR4
  dsimp only
  rw [p62]
def itR5 (r' : RV) (e : Sl) : D → Res (List D)
  | .int i => oB (rdat e r') (itR4 e i)
  | _ => .bad
@[simp] theorem v_itR5 (r' : RV) (e : Sl) (i : Int) : itR5 r' e (.int i) = oB (rdat e r') (itR4 e i) := id rfl
def itR6 (r r' : RV) (e : Sl) : Res (List D) := oB (rdat e r) (itR5 r' e)
@[simp] theorem v_itR6 (r r' : RV) (e : Sl) : itR6 r r' e = oB (rdat e r) (itR5 r' e) := id rfl
def itR7 (g : M RV) (r : RV) (e : Sl) : Res (List D) := (g e).bnd (itR6 r)
@[simp] theorem v_itR7 (g : M RV) (r : RV) (e : Sl) : itR7 g r e = (g e).bnd (itR6 r) := id rfl
@[simp] theorem v_itR2 (f g : M RV) (e : Sl) : itR2 f g e = (f e).bnd (itR7 g) := by
  unfold itR2 M.bind
  cases f e with
  | bad => rfl
  | ex x e' => rfl
  | ok r e' =>
    show _ = (g e').bnd (itR6 r)
    dsimp only
    cases g e' with
    | bad => rfl
    | ex x e2 => rfl
    | ok r' e2 =>
      show _ = oB (rdat e2 r) (itR5 r' e2)
      dsimp only
      cases rdat e2 r with
      | none => cases rdat e2 r' <;> rfl
      | some d =>
        cases d with
        | int i =>
          show _ = oB (rdat e2 r') (itR4 e2 i)
          cases rdat e2 r' with
          | none => rfl
          | some d' => cases d' with
            | int j => exact gB_if _ _
            | _ => rfl
        | _ => cases rdat e2 r' <;> rfl
def enC (ds : List D) (e : Sl) : Res (List D) := .ok (enumD 0 ds) e
@[simp] theorem v_enC (ds : List D) (e : Sl) : enC ds e = .ok (enumD 0 ds) e := id rfl
@[simp] theorem v_itEnum (f : M RV) (e : Sl) : itEnum f e = (itSeq f e).bnd enC := id rfl
@[simp] theorem v_sFor (it : M (List D)) (t : D → M Unit) (b : M Flo) (e : Sl) : sFor it t b e = (it e).bnd (forRun t b) := id rfl
def for2 (t : D → M Unit) (b : M Flo) (ds : List D) : Flo → Sl → Res Flo
  | .nx, e => forRun t b ds e
  | .ct, e => forRun t b ds e
  | .bk, e => .ok .nx e
  | .rt v, e => .ok (.rt v) e
@[simp] theorem v_for2n (t : D → M Unit) (b : M Flo) (ds : List D) (e : Sl) : for2 t b ds .nx e = forRun t b ds e := id rfl
@[simp] theorem v_for2c (t : D → M Unit) (b : M Flo) (ds : List D) (e : Sl) : for2 t b ds .ct e = forRun t b ds e := id rfl
@[simp] theorem v_for2b (t : D → M Unit) (b : M Flo) (ds : List D) (e : Sl) : for2 t b ds .bk e = .ok .nx e := id rfl
@[simp] theorem v_for2r (t : D → M Unit) (b : M Flo) (ds : List D) (v : RV) (e : Sl) : for2 t b ds (.rt v) e = .ok (.rt v) e := id rfl
def for1 (t : D → M Unit) (b : M Flo) (ds : List D) (_u : Unit) (e : Sl) : Res Flo := (b e).bnd (for2 t b ds)
@[simp] theorem v_for1 (t : D → M Unit) (b : M Flo) (ds : List D) (u : Unit) (e : Sl) : for1 t b ds u e = (b e).bnd (for2 t b ds) := id rfl
theorem v_forN (t : D → M Unit) (b : M Flo) (e : Sl) : forRun t b [] e = .ok .nx e := id rfl
theorem v_forC (t : D → M Unit) (b : M Flo) (d : D) (ds : List D) (e : Sl) : forRun t b (d :: ds) e = (noEx (t d e)).bnd (for1 t b ds) := by
  show (match t d e with
    | .ok _ e1 => (match b e1 with
      | .ok .nx e2 => forRun t b ds e2
      | .ok .ct e2 => forRun t b ds e2
      | .ok .bk e2 => .ok .nx e2
      | .ok (.rt v) e2 => .ok (.rt v) e2
      | .ex x e2 => .ex x e2
      | .bad => .bad)
    | _ => .bad) = _
  cases t d e with
  | bad => rfl
  | ex x e' => rfl
  | ok u e' =>
    show _ = (b e').bnd (for2 t b ds)
    dsimp only
    cases b e' with
    | bad => rfl
    | ex x e2 => rfl
    | ok fl e2 => cases fl <;> rfl
def lcC (e0 : Sl) (vs : List Nat) (acc : List D) (e : Sl) : Res RV := .ok (.own (.lst acc)) (unw e0 e vs)
@[simp] theorem v_lcC0 (e0 : Sl) (vs : List Nat) (acc : List D) (e : Sl) : lcC e0 vs acc e = .ok (.own (.lst acc)) (unw e0 e vs) := id rfl
def lcB (t : D → M Unit) (p : M Bool) (f : M RV) (vs : List Nat) (ds : List D) (e : Sl) : Res RV := gB (noOwn e vs) ((noEx (lcRun t p f vs ds [] (wip e vs))).bnd (lcC e vs))
@[simp] theorem v_lcB (t : D → M Unit) (p : M Bool) (f : M RV) (vs : List Nat) (ds : List D) (e : Sl) : lcB t p f vs ds e = gB (noOwn e vs) ((noEx (lcRun t p f vs ds [] (wip e vs))).bnd (lcC e vs)) := id rfl
@[simp] theorem v_eLc (it : M (List D)) (t : D → M Unit) (p : M Bool) (f : M RV) (vs : List Nat) (e : Sl) : eLc it t p f vs e = (it e).bnd (lcB t p f vs) := by
  unfold eLc M.bind
  cases it e with
  | bad => rfl
  | ex x e' => rfl
  | ok ds e' =>
    show _ = gB (noOwn e' vs) ((noEx (lcRun t p f vs ds [] (wip e' vs))).bnd (lcC e' vs))
    dsimp only
    rw [← gB_iff]
    cases noOwn e' vs with
    | false => rfl
    | true =>
      cases lcRun t p f vs ds [] (wip e' vs) <;> rfl
@[simp] theorem v_wipN (e : Sl) : wip e [] = e := id rfl
@[simp] theorem v_wipC (e : Sl) (v : Nat) (vs : List Nat) : wip e (v :: vs) = (wip e vs).set v .no := id rfl
@[simp] theorem v_unwN (e0 e : Sl) : unw e0 e [] = e := id rfl
def unwS (l : Sl) (v : Nat) : Option Slot → Sl
  | some s => l.set v s
  | none => l
@[simp] theorem v_unwS (l : Sl) (v : Nat) (s : Slot) : unwS l v (some s) = l.set v s := id rfl
@[simp] theorem v_unwC (e0 e : Sl) (v : Nat) (vs : List Nat) : unw e0 e (v :: vs) = unwS (unw e0 e vs) v e0[v]? := by
  show (match e0[v]? with
    | some s => (unw e0 e vs).set v s
    | none => unw e0 e vs) = _
  cases e0[v]? <;> rfl
@[simp] theorem v_noOwnN (e : Sl) : noOwn e [] = true := id rfl
def noOS : Option Slot → Bool
  | some (.own _ _) => false
  | _ => true
@[simp] theorem v_noOSv (d : D) : noOS (some (.val d)) = true := id rfl
@[simp] theorem v_noOSn : noOS (some .no) = true := id rfl
@[simp] theorem v_noOSo (f : Bool) (c : Cont) : noOS (some (.own f c)) = false := id rfl
@[simp] theorem v_noOwnC (e : Sl) (v : Nat) (vs : List Nat) : noOwn e (v :: vs) = (noOS e[v]? && noOwn e vs) := by
  show ((match e[v]? with
    | some (.own _ _) => false
    | _ => true) && noOwn e vs) = _
  cases e[v]? with
  | none => rfl
  | some s => cases s <;> rfl
@[simp] theorem v_tYes (e : Sl) : tYesD e = .ok true e := id rfl
theorem v_lcN (t : D → M Unit) (p : M Bool) (f : M RV) (vs : List Nat) (acc : List D) (e : Sl) : lcRun t p f vs [] acc e = .ok acc e := id rfl
/-- one turn of a comprehension whose parts come out -/
theorem lc_keep {t : D → M Unit} {p : M Bool} {f : M RV} {vs : List Nat} {d y : D} {r acc : List D} {e e1 e2 e3 : Sl} {u : Unit} (h1 : t d e = .ok u e1) (h2 : p e1 = .ok true e2) (h3 : M.bind f frz e2 = .ok y e3) (h4 : acc.length < sizeLine) :
    lcRun t p f vs (d :: r) acc e = lcRun t p f vs r (acc ++ [y]) (wip e3 vs) := by
  conv => lhs; unfold lcRun
  rw [h1]
  dsimp only
  rw [h2]
  dsimp only
  rw [h3]
  dsimp only
  rw [if_pos h4]
theorem lc_skip {t : D → M Unit} {p : M Bool} {f : M RV} {vs : List Nat} {d : D} {r acc : List D} {e e1 e2 : Sl} {u : Unit} (h1 : t d e = .ok u e1) (h2 : p e1 = .ok false e2) :
    lcRun t p f vs (d :: r) acc e = lcRun t p f vs r acc (wip e2 vs) := by
  conv => lhs; unfold lcRun
  rw [h1]
  dsimp only
  rw [h2]
/-- a comprehension that leaves the slots as they are -/
theorem lc_pure {t : D → M Unit} {p : M Bool} {f : M RV} {vs : List Nat} {e : Sl} (q : D → Bool) (g : D → D) : ∀ (ds acc : List D), acc.length + ds.length ≤ sizeLine →
    (∀ d ∈ ds, ∃ u e1 e2, t d e = .ok u e1 ∧ p e1 = .ok (q d) e2 ∧ (q d = false → wip e2 vs = e) ∧ (q d = true → ∃ e3, M.bind f frz e2 = .ok (g d) e3 ∧ wip e3 vs = e)) →
    lcRun t p f vs ds acc e = .ok (acc ++ (ds.filter q).map g) e
  | [], acc, _, _ => by
    rw [v_lcN, List.filter_nil, List.map_nil, List.append_nil]
  | d :: r, acc, hl, h => by
    obtain ⟨u, e1, e2, h1, h2, h3, h4⟩ := h d List.mem_cons_self
    have ih := fun acc hl => lc_pure (t := t) (p := p) (f := f) (vs := vs) (e := e) q g r acc hl fun d hd => h d (List.mem_cons_of_mem _ hd)
    rw [List.length_cons] at hl
    cases hq : q d with
    | false =>
      rw [hq] at h2
      rw [lc_skip h1 h2, h3 hq, ih acc (by omega), List.filter_cons_of_neg (by rw [hq]; exact Bool.false_ne_true)]
    | true =>
      rw [hq] at h2
      obtain ⟨e3, h5, h6⟩ := h4 hq
      rw [lc_keep h1 h2 h5 (by omega), h6, ih _ (by rw [List.length_append]; simp only [List.length_cons, List.length_nil]; omega), List.filter_cons_of_pos hq, List.map_cons, List.append_assoc]
      rfl
/-! calls -/
def fnX (args : Sl) : Res Flo → Res RV
  | .ok (.rt (.val d)) e => .ok (.val d) (outs args e)
  | .ok (.rt (.own c)) e => .ok (.own c) (outs args e)
  | .ok .nx e => .ok (.val .non) (outs args e)
  | .ex x e => .ex x (outs args e)
  | _ => .bad
@[simp] theorem v_fnXv (args : Sl) (d : D) (e : Sl) : fnX args (.ok (.rt (.val d)) e) = .ok (.val d) (outs args e) := id rfl
@[simp] theorem v_fnXo (args : Sl) (c : Cont) (e : Sl) : fnX args (.ok (.rt (.own c)) e) = .ok (.own c) (outs args e) := id rfl
@[simp] theorem v_fnXn (args : Sl) (e : Sl) : fnX args (.ok .nx e) = .ok (.val .non) (outs args e) := id rfl
@[simp] theorem v_fnXx (args : Sl) (x : Xn) (e : Sl) : fnX args (.ex x e) = .ex x (outs args e) := id rfl
@[simp] theorem v_fnXb (args : Sl) : fnX args .bad = .bad := id rfl
@[simp] theorem v_fnD (np n : Nat) (b : M Flo) (args : Sl) : fnD np n b args = gB (decide (args.length = np)) (fnX args (b (args ++ List.replicate (n - np) .no))) := by
  unfold fnD
  rw [← gB_if]
  split
  · cases b (args ++ List.replicate (n - np) .no) with
    | bad => rfl
    | ex x e => rfl
    | ok fl e => cases fl with
      | rt r => cases r <;> rfl
      | _ => rfl
  · rfl
@[simp] theorem v_outsO (f : Bool) (c : Cont) (r : Sl) (s : Slot) (t : Sl) : outs (.own f c :: r) (s :: t) = s :: outs r t := id rfl
@[simp] theorem v_outsV (d : D) (r : Sl) (s : Slot) (t : Sl) : outs (.val d :: r) (s :: t) = .val d :: outs r t := id rfl
@[simp] theorem v_outsN (t : Sl) : outs [] t = [] := by cases t <;> rfl
def callX (e : Sl) (rs : List RV) : Res RV → Res RV
  | .ok (.val d) sl' => .ok (.val d) (back e rs sl')
  | .ok (.own c) sl' => .ok (.own c) (back e rs sl')
  | .ex x sl' => .ex x (back e rs sl')
  | _ => .bad
@[simp] theorem v_callXv (e : Sl) (rs : List RV) (d : D) (sl : Sl) : callX e rs (.ok (.val d) sl) = .ok (.val d) (back e rs sl) := id rfl
@[simp] theorem v_callXo (e : Sl) (rs : List RV) (c : Cont) (sl : Sl) : callX e rs (.ok (.own c) sl) = .ok (.own c) (back e rs sl) := id rfl
@[simp] theorem v_callXx (e : Sl) (rs : List RV) (x : Xn) (sl : Sl) : callX e rs (.ex x sl) = .ex x (back e rs sl) := id rfl
def callS (fn : Fn) (rs : List RV) (e sl : Sl) : Res RV := callX e rs (fn sl)
@[simp] theorem v_callS (fn : Fn) (rs : List RV) (e sl : Sl) : callS fn rs e sl = callX e rs (fn sl) := id rfl
@[simp] theorem v_eCall (fn : Fn) (as : M (List RV)) (e : Sl) : eCall fn as e = (as e).bnd (callK fn) := id rfl
@[simp] theorem v_callK (fn : Fn) (rs : List RV) (e : Sl) : callK fn rs e = gB (pkOk rs) (oB (argSl e rs) (callS fn rs e)) := by
  unfold callK
  rw [← gB_iff]
  split
  · cases argSl e rs with
    | none => rfl
    | some sl =>
      show _ = callX e rs (fn sl)
      dsimp only
      cases fn sl with
      | bad => rfl
      | ex x s => rfl
      | ok r s => cases r <;> rfl
  · rfl
@[simp] theorem v_pkN : pkOk [] = true := id rfl
@[simp] theorem v_pkP (i : Nat) (rs : List RV) : pkOk (.pk i :: rs) = (!(pks rs).contains i && pkOk rs) := id rfl
@[simp] theorem v_pkV (d : D) (rs : List RV) : pkOk (.val d :: rs) = pkOk rs := id rfl
@[simp] theorem v_pksN : pks [] = [] := id rfl
@[simp] theorem v_pksP (i : Nat) (rs : List RV) : pks (.pk i :: rs) = i :: pks rs := id rfl
@[simp] theorem v_pksV (d : D) (rs : List RV) : pks (.val d :: rs) = pks rs := id rfl
@[simp] theorem v_argN (e : Sl) : argSl e [] = some [] := id rfl
@[simp] theorem v_argV (e : Sl) (d : D) (rs : List RV) : argSl e (.val d :: rs) = (argSl e rs).map (.val d :: ·) := id rfl
def argS (t : Option Sl) : Option Slot → Option Sl
  | some (.own _ c) => t.map (.own true c :: ·)
  | _ => none
@[simp] theorem v_argS (t : Option Sl) (f : Bool) (c : Cont) : argS t (some (.own f c)) = t.map (.own true c :: ·) := id rfl
@[simp] theorem v_argP (e : Sl) (i : Nat) (rs : List RV) : argSl e (.pk i :: rs) = argS (argSl e rs) e[i]? := by
  show (match e[i]? with
    | some (Slot.own _ c) => (argSl e rs).map (fun l => Slot.own true c :: l)
    | _ => none) = _
  cases e[i]? with
  | none => rfl
  | some s => cases s <;> rfl
@[simp] theorem v_backN (e sl : Sl) : back e [] sl = e := by unfold back; rfl
@[simp] theorem v_backP (e : Sl) (i : Nat) (rs : List RV) (f : Bool) (c : Cont) (sl : Sl) : back e (.pk i :: rs) (.own f c :: sl) = back (chg e i c) rs sl := id rfl
@[simp] theorem v_backV (e : Sl) (d : D) (rs : List RV) (s : Slot) (sl : Sl) : back e (.val d :: rs) (s :: sl) = back e rs sl := id rfl
def chgS (e : Sl) (i : Nat) (c : Cont) : Option Slot → Sl
  | some (.own f _) => e.set i (.own f c)
  | _ => e
@[simp] theorem v_chgS (e : Sl) (i : Nat) (c : Cont) (f : Bool) (c0 : Cont) : chgS e i c (some (.own f c0)) = e.set i (.own f c) := id rfl
@[simp] theorem v_chg (e : Sl) (i : Nat) (c : Cont) : chg e i c = chgS e i c e[i]? := by
  unfold chg
  cases e[i]? with
  | none => rfl
  | some s => cases s <;> rfl
def augB (k : D → D → M RV) (d : D) (i : Nat) (e : Sl) (d' : D) : Res Flo := (k d d' e).bnd (stor i)
@[simp] theorem v_augB (k : D → D → M RV) (d : D) (i : Nat) (e : Sl) (d' : D) : augB k d i e d' = (k d d' e).bnd (stor i) := id rfl
@[simp] theorem v_augK (k : D → D → M RV) (d : D) (i : Nat) (r : RV) (e : Sl) : augK k d i r e = oB (rdat e r) (augB k d i e) := by
  unfold augK
  cases rdat e r <;> rfl
def augS (f : M RV) (k : D → D → M RV) (i : Nat) (e : Sl) : Slot → Res Flo
  | .val d => (f e).bnd (augK k d i)
  | _ => .bad
@[simp] theorem v_augS (f : M RV) (k : D → D → M RV) (i : Nat) (e : Sl) (d : D) : augS f k i e (.val d) = (f e).bnd (augK k d i) := id rfl
@[simp] theorem v_augI (i : Nat) (f : M RV) (k : D → D → M RV) (e : Sl) : sAugI i f k e = oB e[i]? (augS f k i e) := by
  unfold sAugI
  cases e[i]? with
  | none => rfl
  | some s => cases s <;> rfl
@[simp] theorem v_kI2 (g : Int → Int → Option D) (i j : Int) (e : Sl) : kI2 g (.int i) (.int j) e = oB (g i j) (okV e) := by
  unfold kI2
  dsimp only
  cases g i j <;> rfl
/-! equality -/
theorem eq_int (i j : Int) : eqD (.int i) (.int j) = some (decide (i = j)) := by
  have s : ∀ k : Int, SeqAt.shaped (.int k) = true := fun k => rfl
  show (if SeqAt.shaped (.int i) = true ∧ SeqAt.shaped (.int j) = true then some (PyData.eqv (.int i) (.int j)) else none) = _
  rw [if_pos ⟨s i, s j⟩]
  show some (i == j) = _
  by_cases h : i = j
  · subst h; simp
  · simp [h]
theorem eq_in (i : Int) : eqD (.int i) .non = some false := rfl
theorem eq_ni (i : Int) : eqD .non (.int i) = some false := rfl
theorem eq_nn : eqD .non .non = some true := rfl
theorem eq_bl (i j : Bool) : eqD (.bl i) (.bl j) = some (i == j) := by cases i <;> cases j <;> rfl
def okB (e : Sl) (c : Bool) : Res RV := .ok (.val (.bl c)) e
@[simp] theorem v_okB (e : Sl) (c : Bool) : okB e c = .ok (.val (.bl c)) e := id rfl
@[simp] theorem v_eqK (a b : D) (e : Sl) : eqK a b e = oB (eqD a b) (okB e) := by
  unfold eqK kOB
  cases eqD a b <;> rfl
@[simp] theorem v_neK (a b : D) (e : Sl) : neK a b e = oB ((eqD a b).map not) (okB e) := by
  unfold neK kOB
  dsimp only
  cases eqD a b <;> rfl
@[simp] theorem v_inK (a b : D) (e : Sl) : inK a b e = oB (inL a b) (okB e) := by
  unfold inK kOB
  cases inL a b <;> rfl
@[simp] theorem v_ninK (a b : D) (e : Sl) : ninK a b e = oB ((inL a b).map not) (okB e) := by
  unfold ninK kOB
  dsimp only
  cases inL a b <;> rfl
theorem atI_ofNat {α : Type} (xs : List α) (j : Nat) : atI xs (j : Int) = xs[j]? := by
  cases h : xs[j]? with
  | some v => exact atI_nat h
  | none =>
    have hl := List.getElem?_eq_none_iff.mp h
    unfold atI ixN
    rw [if_pos (by omega), if_neg (by omega)]
    rfl
@[simp] theorem at0 {α : Type} (x : α) (r : List α) : atI (x :: r) 0 = some x := atI_ofNat _ 0
@[simp] theorem at1 {α : Type} (x y : α) (r : List α) : atI (x :: y :: r) 1 = some y := atI_ofNat _ 1
@[simp] theorem at2 {α : Type} (x y z : α) (r : List α) : atI (x :: y :: z :: r) 2 = some z := atI_ofNat _ 2
@[simp] theorem at3 {α : Type} (x y z w : α) (r : List α) : atI (x :: y :: z :: w :: r) 3 = some w := atI_ofNat _ 3
theorem small_line {n : Nat} (h : n ≤ 10000) : n < sizeLine := Nat.lt_of_le_of_lt h (by decide)
/-! new instances -/
def mkS (e : Sl) : Sl → Res RV
  | .own _ (.ins c' fs) :: _ => .ok (.own (.ins c' fs)) e
  | _ => .bad
@[simp] theorem v_mkS (e : Sl) (f : Bool) (c : Str) (fs : List (Str × D)) (r : Sl) : mkS e (.own f (.ins c fs) :: r) = .ok (.own (.ins c fs)) e := id rfl
def mkX (e : Sl) : Res RV → Res RV
  | .ok (.val .non) sl => mkS e sl
  | .ex x _ => .ex x e
  | _ => .bad
@[simp] theorem v_mkXn (e sl : Sl) : mkX e (.ok (.val .non) sl) = mkS e sl := id rfl
@[simp] theorem v_mkXx (e sl : Sl) (x : Xn) : mkX e (.ex x sl) = .ex x e := id rfl
def mk4 (fn : Fn) (c : Str) (nn mm : Nat) (g : List D → List D → List D) (ds : List D) (e : Sl) (dk : List D) : Res RV := gB (decide (ds.length = nn ∧ dk.length = mm)) (mkX e (fn (.own true (.ins c []) :: (g ds dk).map Slot.val)))
@[simp] theorem v_mk4 (fn : Fn) (c : Str) (nn mm : Nat) (g : List D → List D → List D) (ds : List D) (e : Sl) (dk : List D) : mk4 fn c nn mm g ds e dk = gB (decide (ds.length = nn ∧ dk.length = mm)) (mkX e (fn (.own true (.ins c []) :: (g ds dk).map Slot.val))) := id rfl
def mk3 (fn : Fn) (c : Str) (nn mm : Nat) (g : List D → List D → List D) (rk : List RV) (e : Sl) (ds : List D) : Res RV := oB (valsOf rk) (mk4 fn c nn mm g ds e)
@[simp] theorem v_mk3 (fn : Fn) (c : Str) (nn mm : Nat) (g : List D → List D → List D) (rk : List RV) (e : Sl) (ds : List D) : mk3 fn c nn mm g rk e ds = oB (valsOf rk) (mk4 fn c nn mm g ds e) := id rfl
@[simp] theorem v_mkK (fn : Fn) (c : Str) (nn mm : Nat) (g : List D → List D → List D) (rs rk : List RV) (e : Sl) : mkK fn c nn mm g rs rk e = oB (valsOf rs) (mk3 fn c nn mm g rk e) := by
  unfold mkK
  cases valsOf rs with
  | none => cases valsOf rk <;> rfl
  | some ds =>
    rw [oB_some]
    unfold mk3
    cases valsOf rk with
    | none => rfl
    | some dk =>
      rw [oB_some]
      unfold mk4
      rw [← gB_if]
      dsimp only
      congr 1
      generalize fn _ = r
      cases r with
      | bad => rfl
      | ex x s => rfl
      | ok v s => cases v with
        | own _ => rfl
        | pk _ => rfl
        | val d => cases d with
          | non => cases s with
            | nil => rfl
            | cons h t => cases h with
              | no => rfl
              | val _ => rfl
              | own f c => cases c <;> rfl
          | _ => rfl
def mk1 (fn : Fn) (c : Str) (nn mm : Nat) (g : List D → List D → List D) (ks : M (List RV)) (rs : List RV) (e : Sl) : Res RV := (ks e).bnd (mkK fn c nn mm g rs)
@[simp] theorem v_mk1 (fn : Fn) (c : Str) (nn mm : Nat) (g : List D → List D → List D) (ks : M (List RV)) (rs : List RV) (e : Sl) : mk1 fn c nn mm g ks rs e = (ks e).bnd (mkK fn c nn mm g rs) := id rfl
@[simp] theorem v_eMake (fn : Fn) (c : Str) (nn mm : Nat) (g : List D → List D → List D) (as ks : M (List RV)) (e : Sl) : eMake fn c nn mm g as ks e = (as e).bnd (mk1 fn c nn mm g ks) := by kernel_rfl
def fsS (i : Nat) (c n : Str) (d : D) (e : Sl) : Slot → Res Flo
  | .own fx (.ins c' fs) => gB (decide (c' = c ∧ fs.length < 1000)) (.ok .nx (e.set i (.own fx (.ins c' (putD n d fs)))))
  | _ => .bad
@[simp] theorem v_fsS (i : Nat) (c n : Str) (d : D) (e : Sl) (fx : Bool) (c' : Str) (fs : List (Str × D)) : fsS i c n d e (.own fx (.ins c' fs)) = gB (decide (c' = c ∧ fs.length < 1000)) (.ok .nx (e.set i (.own fx (.ins c' (putD n d fs))))) := id rfl
def fs2 (i : Nat) (c n : Str) (d : D) (e : Sl) : Res Flo := oB e[i]? (fsS i c n d e)
@[simp] theorem v_fs2 (i : Nat) (c n : Str) (d : D) (e : Sl) : fs2 i c n d e = oB e[i]? (fsS i c n d e) := id rfl
def fs1 (i : Nat) (c n : Str) (r : RV) (e : Sl) : Res Flo := (frz r e).bnd (fs2 i c n)
@[simp] theorem v_fs1 (i : Nat) (c n : Str) (r : RV) (e : Sl) : fs1 i c n r e = (frz r e).bnd (fs2 i c n) := id rfl
@[simp] theorem v_sFldSet (i : Nat) (c n : Str) (f : M RV) (e : Sl) : sFldSet i c n f e = (f e).bnd (fs1 i c n) := by
  unfold sFldSet
  rw [v_bind]
  cases f e with
  | bad => rfl
  | ex x e' => rfl
  | ok r e' =>
    rw [bnd_ok, bnd_ok, v_bind, v_fs1]
    cases frz r e' with
    | bad => rfl
    | ex x e' => rfl
    | ok d e2 =>
      rw [bnd_ok, bnd_ok, v_fs2]
      cases e2[i]? with
      | none => rfl
      | some s => cases s with
        | no => rfl
        | val _ => rfl
        | own f c => cases c with
          | lst _ => rfl
          | ins c' fs => exact gB_if _ _
@[simp] theorem v_isiCi (c : Str) (fs : List (Str × D)) (e : Sl) : isiC c (.ins c fs) e = .ok (.val (.bl true)) e := by
  unfold isiC
  dsimp only
  rw [if_pos rfl]
def wh2 (p : M Bool) (b : M Flo) (n : Nat) : Flo → Sl → Res Flo
  | .nx, e => whRun p b n e
  | .ct, e => whRun p b n e
  | .bk, e => .ok .nx e
  | .rt v, e => .ok (.rt v) e
@[simp] theorem v_wh2n (p : M Bool) (b : M Flo) (n : Nat) (e : Sl) : wh2 p b n .nx e = whRun p b n e := id rfl
@[simp] theorem v_wh2c (p : M Bool) (b : M Flo) (n : Nat) (e : Sl) : wh2 p b n .ct e = whRun p b n e := id rfl
@[simp] theorem v_wh2b (p : M Bool) (b : M Flo) (n : Nat) (e : Sl) : wh2 p b n .bk e = .ok .nx e := id rfl
@[simp] theorem v_wh2r (p : M Bool) (b : M Flo) (n : Nat) (v : RV) (e : Sl) : wh2 p b n (.rt v) e = .ok (.rt v) e := id rfl
def wh1 (p : M Bool) (b : M Flo) (n : Nat) (c : Bool) (e : Sl) : Res Flo := match c with
  | true => (b e).bnd (wh2 p b n)
  | false => .ok .nx e
@[simp] theorem v_wh1t (p : M Bool) (b : M Flo) (n : Nat) (e : Sl) : wh1 p b n true e = (b e).bnd (wh2 p b n) := id rfl
@[simp] theorem v_wh1f (p : M Bool) (b : M Flo) (n : Nat) (e : Sl) : wh1 p b n false e = .ok .nx e := id rfl
theorem v_wh (p : M Bool) (b : M Flo) (n : Nat) (e : Sl) : whRun p b (n + 1) e = (p e).bnd (wh1 p b n) := by
  conv => lhs; unfold whRun
  cases p e with
  | bad => rfl
  | ex x e' => rfl
  | ok c e' => cases c with
    | false => rfl
    | true =>
      rw [bnd_ok, v_wh1t]
      dsimp only
      cases b e' with
      | bad => rfl
      | ex x e' => rfl
      | ok f e' => cases f <;> rfl
@[simp] theorem v_tTupL (n : Nat) (t : List D → M Unit) (ds : List D) (e : Sl) : tTupL n t (.lst ds) e = gB (decide (ds.length = n)) (t ds e) := gB_if _ _
@[simp] theorem v_repK (b : Bool) (e : Sl) : repK (.bl b) e = .ok (.val (.str (repS b))) e := id rfl
theorem eq_rep (a b : Bool) : eqD (.str (repS a)) (.str (repS b)) = some (a == b) := by
  cases a <;> cases b <;> decide +kernel
end Y

set_option Elab.async false
set_option linter.all false
set_option maxRecDepth 100000
set_option maxHeartbeats 4000000
namespace Y
open PySem PySem.Spec PySem.W L2
set_option autoImplicit false
/-! ### == by a class's own __eq__ -/
def ownEqK (c : Str) (fn : Fn) : D → D → M RV := fun d d' e => match d with
  | .ins c' fs => if c' = c then (match d' with
    | .non => (match fn [.val (.ins c' fs), .val d'] with
      | .ok (.val (.bl b)) _ => .ok (.val (.bl b)) e
      | _ => .bad)
    | .tup _ => (match fn [.val (.ins c' fs), .val d'] with
      | .ok (.val (.bl b)) _ => .ok (.val (.bl b)) e
      | _ => .bad)
    | .ins c2 _ => if c2 = c then (match fn [.val (.ins c' fs), .val d'] with
      | .ok (.val (.bl b)) _ => .ok (.val (.bl b)) e
      | _ => .bad) else .bad
    | _ => .bad) else .bad
  | _ => .bad
/-- what == with an own __eq__ wants, and gives -/
def rOwnEq (K : PySem.W.Frag) (mg : Mg) (C : Addr) (fn : Fn) : R2 := fun x y H Q => ∃ a dx gs d d', x = .ref a ∧ H a = some (.ins C dx gs) ∧ Rep K mg H x d ∧ Rep K mg H y d' ∧
  (d' = .non ∨ (∃ ds, d' = .tup ds) ∨ ∃ b dy hs, y = .ref b ∧ H b = some (.ins C dy hs)) ∧ ∃ b sl, fn [.val d, .val d'] = .ok (.val (.bl b)) sl ∧ ∀ H', Same H H' → Q (.bl b) H'
theorem Rel.ext {K : PySem.W.Frag} {mg : Mg} {F H H' : Hp} {e : Sl} {σ : St} (R : Rel K mg F e σ H) (s : Same H H') : Rel K mg F e σ H' where
  sub := R.sub.trans s
  len := R.len
  ok := fun i sl o h1 h2 => by
    have := R.ok i sl o h1 h2
    cases sl with
    | no => trivial
    | val d => exact this
    | own f c =>
      obtain ⟨a, h, e1, e2, e3, e4⟩ := this
      exact ⟨a, h, e1, e2, s _ _ e3, e4⟩
  inj := R.inj
theorem Stp.ext {K : PySem.W.Frag} {mg : Mg} {F H H' : Hp} {e : Sl} {σ : St} (R : Rel K mg F e σ H) (s : Same H H') : Stp F H e σ F H' e σ where
  fro := Same.refl _
  kept := fun b o h _ => s _ _ h
  dom := fun b h => by
    cases q : H b with
    | none => rfl
    | some o => rw [s _ _ q] at h; cases h
  newF := fun _ h h' => absurd h h'
  newO := fun _ h => .inr h
  fix := fun i c h => ⟨⟨c, h⟩, rfl⟩
  len := rfl
theorem k2_ownEq {K : PySem.W.Frag} {mg : Mg} {W : WX} {c : Str} {C : Addr} {fn : Fn} (hC : mg c = some (.ref C)) : K2 K mg W (rOwnEq K mg C fn) (ownEqK c fn) := by
  intro F H e σ x y d d' Q R rx ry h
  have px := rx.rep R.sub
  have py := ry.rep R.sub
  have fin : ∀ (b : Bool), post K mg W (rV K mg) F H e σ (.ok (.val (.bl b)) e) Q → ∀ H', Same H H' → Q (.bl b) H' := fun b h H' s => h _ F H' (Stp.ext R s) (R.ext s) (.bl b)
  unfold ownEqK at h
  split at h
  · rename_i c' fs
    split at h
    · rename_i hc
      subst hc
      obtain ⟨a, C', dx, gs, rfl, m, q, p⟩ := rx
      rw [hC] at m
      cases m
      split at h
      · split at h
        · rename_i b sl w
          exact ⟨a, dx, gs, _, _, rfl, q, px, py, .inl rfl, b, sl, w, fin b h⟩
        · exact h.elim
      · split at h
        · rename_i b sl w
          exact ⟨a, dx, gs, _, _, rfl, q, px, py, .inr (.inl ⟨_, rfl⟩), b, sl, w, fin b h⟩
        · exact h.elim
      · rename_i c2 fs2
        split at h
        · rename_i hc
          subst hc
          split at h
          · rename_i b sl w
            obtain ⟨a2, C2, dx2, gs2, rfl, m, q2, p2⟩ := ry
            rw [hC] at m
            cases m
            exact ⟨a, dx, gs, _, _, rfl, q, px, py, .inr (.inr ⟨a2, dx2, gs2, rfl, q2⟩), b, sl, w, fin b h⟩
          · exact h.elim
        · exact h.elim
      · exact h.elim
    · exact h.elim
  · exact h.elim
/-- a class whose own __eq__ stands at f -/
structure EqF (K : PySem.W.Frag) (C f : Addr) : Prop where
  hs : PySem.W.findIn K (.ref C) "__eq__" = some (some (.ref f))
  hf : PySem.W.isFn K (.ref f) = true
  n0 : PySem.W.subIn K (.type "NoneType") (.ref C) = some false
  n5 : PySem.W.subIn K (.type "tuple") (.ref C) = some false
section
variable {X : Cx} {W : WX} {C f : Addr} {fd : FuncData} {ps : List Str} {k : Nat} {fn : Fn}
theorem rel_two {K : PySem.W.Frag} {mg : Mg} {H : Hp} {x y : V} {d d' : D} (p : Rep K mg H x d) (q : Rep K mg H y d') : Rel K mg H [.val d, .val d'] ([x, y].map some) H where
  sub := Same.refl _
  len := rfl
  ok := fun i s o h1 h2 => by
    match i, h1, h2 with
    | 0, h1, h2 => cases h1; cases h2; exact ⟨_, rfl, p⟩
    | 1, h1, h2 => cases h1; cases h2; exact ⟨_, rfl, q⟩
    | i + 2, h1, h2 => cases h1
  inj := fun i j f g c d a h1 h2 h3 h4 => by
    match i, h1 with
    | 0, h1 => cases h1
    | 1, h1 => cases h1
    | i + 2, h1 => cases h1
theorem own_run {pins : List (Addr × Obj)} {s : Shared} {σ : St} {H : Hp} {a : Addr} {y : V} {u : Value} {d d' : D} {b : Bool} {sl : Sl} {A : Around} (tk : Takes X W) (G : FnOk X.prog X.w X.K X.mg X.base (L2.CX X.prog X.w) k f fd ps (cSp X.K X.mg fn)) (hb : BA fd ps) (hr : Room k A) (hA : A.frames = X.A.frames)
    (I : Inv X pins σ H s) (ry : RelV y u) (p : Rep X.K X.mg H (.ref a) d) (q : Rep X.K X.mg H y d') (w : fn [.val d, .val d'] = .ok (.val (.bl b)) sl) :
    wpAny (model X.prog X.w) A (call (.ref f) [.ref a, u]) (fun v s' => v = .bool b ∧ ∃ H', Inv X pins σ H' s' ∧ Same H H') X.xe s := by
  have hsp : cSp X.K X.mg fn [.ref a, y] H (fun v H' => v = .bl b ∧ Same H H') (fun _ _ _ => False) := by
    refine ⟨[.val d, .val d'], H, rel_two p q, rfl, ?_⟩
    rw [w]
    intro v F' H' st R' rv
    cases rv
    exact ⟨rfl, st.fro.trans R'.sub⟩
  have hl := G.len _ _ _ _ hsp
  have r2 : Vals [V.ref a, y] [Value.ref a, u] := .cons rfl (.cons ry .nil)
  have e0 : Env0 X.prog X.w X.K X.mg X.base A X.stack s H := by
    have e := I.env0
    exact ⟨hA.trans e.frames, e.mod, e.bs, e.bsz, e.funs, e.frf, e.hok, e.bare⟩
  refine wpAny_call (codeAny_mono (G.run A X.stack s H ⟨[.ref a, u], []⟩ [.ref a, u] [.ref a, y] _ _ hr e0 (by
    exact BindsTo.of_looks fun M => Looks.of_pure (hb [.ref a, u] (by simpa using hl))) r2 hsp) fun r s' hq => ?_)
  cases r with
  | error e => exact passes_call tk (fun _ _ _ _ z => z.elim) pins σ H s e s' I hq
  | ok fl =>
    cases fl with
    | ret w =>
      obtain ⟨z, H', I', rz, ez, ex⟩ := I.after hq
      subst ez
      cases rz
      exact ⟨rfl, H', I', ex⟩
    | next => exact False.elim hq
    | brk => exact False.elim hq
    | cont => exact False.elim hq
theorem own_ty {pins : List (Addr × Obj)} {s : Shared} {σ : St} {H : Hp} {y : V} {u : Value} {d' : D} (E : EqF X.K C f) (I : Inv X pins σ H s) (ry : RelV y u) (q : Rep X.K X.mg H y d') (hy : d' = .non ∨ (∃ ds, d' = .tup ds) ∨ ∃ b dy hs, y = .ref b ∧ H b = some (.ins C dy hs)) :
    ∃ tb, Looks (model X.prog X.w) s.heap (typeOf u) tb ∧ PySem.W.notFirst X.K C tb = true := by
  rcases hy with rfl | ⟨ds, rfl⟩ | ⟨b, dy, hs, rfl, hb⟩
  · cases q
    cases ry
    exact ⟨.type "NoneType", .of_pure rfl, by unfold PySem.W.notFirst; rw [E.n0]; simp⟩
  · cases q with
    | tup q r =>
      cases ry
      obtain ⟨its, r, e, z⟩ := I.tuple q
      obtain ⟨o, ho, hc, _⟩ := e
      refine ⟨.type "tuple", ?_, by unfold PySem.W.notFirst; rw [E.n5]; simp⟩
      rw [← hc]
      exact (Looks.ld (part := none) ho).andThen .now
  · cases ry
    obtain ⟨mB, J', _⟩ := ins_get I.hok hb
    obtain ⟨od', J', _⟩ := J'.look
    exact ⟨.ref C, J'.type, by simp [PySem.W.notFirst]⟩
theorem op_ownEq (tk : Takes X W) (G : FnOk X.prog X.w X.K X.mg X.base (L2.CX X.prog X.w) k f fd ps (cSp X.K X.mg fn)) (E : EqF X.K C f) (hb : BA fd ps) (hr : Room k X.A) : OpR X (compareOp .Eq) (rOwnEq X.K X.mg C fn) := by
  intro pins s σ H x y v u Q I rx ry h
  obtain ⟨a, dx, gs, d, d', rfl, ha, p, q, hy, b, sl, w, hQ⟩ := h
  cases rx
  obtain ⟨mA, J, _⟩ := ins_get I.hok ha
  obtain ⟨od, J, _⟩ := J.look
  obtain ⟨m, hF⟩ := I.fr
  obtain ⟨tb, ht, hn⟩ := own_ty E I ry q hy
  show wpAny (model X.prog X.w) X.A (richCompare .Eq (.ref a) u) (EP X pins σ Q) X.xe s
  refine PySem.W.cmp_K (op := .Eq) hr.units0 hF I.ok.mod.kin J ht hn E.hs E.hf (wpAny_mono (own_run tk G hb hr rfl I ry p q w) (fun v s' z => ?_) fun _ _ z => z)
  obtain ⟨rfl, H', I', sm⟩ := z
  exact ⟨.bl b, H', I', rfl, hQ H' sm⟩
end
section
variable {prog : Program} {w : World} {A : Around} {E : Value → Shared → Prop} {s : Shared} {K : PySem.W.Frag} {x C L f : Addr} {h₀ : Heap} {m : Str → Option Value} {ox : Obj} {od : Option Obj} {b tb : Value}
/-- a special that a builtin gives -/
theorem ifBound_B {M : Model} {id : String} {name : Str} {T : String} {args : List Value} {Q : Option Value → Shared → Prop} (X : K.In s.heap) (I : InstAt s.heap x ox C od) (hs : findIn K (.ref C) name = some (some (.builtin id))) (S : PySem.Slot T name id)
    (h : wpAny M A (call (.builtin id) (.ref x :: args)) (fun v => Q (some v)) E s) : wpAny M A (callSpecialIfBound? (.ref x) name args) Q E s := by
  simp only [callSpecialIfBound?, bindSpecialIfBound?]
  refine wpAny_holding (wpAny_bind (wpAny_bind (wpAny_bind (I.type.here ((looks_findIn X hs).here ?_)))))
  simp only [S.bind]
  refine wpAny_bind (wpAny_askSetting (wpAny_ite ?_))
  have last : wpAny M A (call (.builtin id) ([.ref x] ++ args) >>= fun v => pure (some v)) Q E s := wpAny_bind (wpAny_mono h (fun v s' z => wpAny_pure z) fun _ _ z => z)
  split
  · exact wpAny_bind (wpAny_pure (wpAny_pure last))
  · exact wpAny_tryCatch (wpAny_bind (wpAny_pure (wpAny_pure last)))
theorem objNe_in {Q : Fin → Shared → Prop} (X : K.In s.heap) (I : InstAt s.heap x ox C od) (hs : findIn K (.ref C) "__eq__" = some (some (.ref f))) (hf : isFn K (.ref f) = true) (hu : A.units < cLine)
    (h : wpAny (model prog w) A (call (.ref f) [.ref x, b]) (fun v s' => ∃ c, v = .bool c ∧ Q (.done (.ret (.bool (!c)))) s') E s) : wpAny (model prog w) A (Builtin.«object.__ne__» ⟨[.ref x, b], []⟩) Q E s := by
  obtain ⟨hp, g, dr, t, os⟩ := s
  unfold Builtin.«object.__ne__»
  repeat (first
    | with_reducible refine wpAny_cRoomFor hu ?_
    | (refine wpAny_bind (m := callSpecialIfBound? (.ref x) (Str.ofString "__eq__") [b]) (ifBound_K X I hs hf (wpAny_mono h (fun r s' hr => by
          obtain ⟨c, rfl, hq⟩ := hr
          repeat (first | exact hq | exact wpAny_pure hq | exact wpAny_truthy_bool hq | (refine wpAny_bind (m := truthy (.bool _)) (wpAny_truthy_bool ?_)) | wp_step)) fun _ _ z => z)))
    | wp_step)
theorem ne_own {oy : Obj} {y : Addr} {od' : Option Obj} {Q : Value → Shared → Prop} (hu : A.units + 1 < cLine) (X : K.In s.heap) (I : InstAt s.heap x ox C od) (I' : InstAt s.heap y oy C od') (hn : findIn K (.ref C) "__ne__" = some (some (.builtin "object.__ne__"))) (hm : mroIn K C (.type "object") = some true)
    (hs : findIn K (.ref C) "__eq__" = some (some (.ref f))) (hf : isFn K (.ref f) = true)
    (h : wpAny (model prog w) A.in1 (call (.ref f) [.ref x, .ref y]) (fun v s' => ∃ c, v = .bool c ∧ Q (.bool (!c)) s') E s) : wpAny (model prog w) A (richCompare .NotEq (.ref x) (.ref y)) Q E s := by
  have one : wpAny (model prog w) A (tryCompare (.ref x) (cmpInfo .NotEq).2.1 (.ref y)) (fun r s' => ∃ v, r = some v ∧ Q v s') E s := by
    unfold tryCompare
    refine wpAny_bind (ifBound_B (id := "object.__ne__") (T := "object") X I hn PySem.F.cmp_object.ne (wpAny_call (codeAny_call_builtin PySem.F.cmp_object.ne.plain PySem.F.cmpEntry_ne
      (check_slot (i := "object.__ne__") (owner := "object") (n := "__ne__") PySem.F.cmpKind_ne PySem.F.cmpSplit_ne (I.type.andThen (looks_mroIn X hm)) (PySem.F.cmpArgs_ne _ _) (objNe_in (A := A.in1) X I hs hf hu (wpAny_mono h (fun v s' z => ?_) fun _ _ z => z))))))
    obtain ⟨c, rfl, hq⟩ := z
    exact ⟨c, rfl, wpAny_pure ⟨_, rfl, hq⟩⟩
  unfold richCompare
  simp only [oneThing_ref]
  refine wpAny_holding (wpAny_bind (wpAny_cRoomFor (Nat.lt_of_succ_lt hu) ?_))
  refine wpAny_bind (I.type.here (wpAny_bind (I'.type.here ?_)))
  rw [show (Value.ref C != Value.ref C) = false by simp]
  simp only [Bool.false_eq_true, if_false]
  refine wpAny_bind (wpAny_pure ?_)
  simp only [Bool.false_eq_true, if_false]
  refine wpAny_bind (wpAny_mono one (fun r s' z => ?_) fun _ _ z => z)
  obtain ⟨v, rfl, hq⟩ := z
  exact wpAny_pure hq
end
def ownNeK (c : Str) (fn : Fn) : D → D → M RV := fun d d' e => match d, d' with
  | .ins c' fs, .ins c2 gs => if c' = c ∧ c2 = c then (match fn [.val (.ins c' fs), .val (.ins c2 gs)] with
      | .ok (.val (.bl b)) _ => .ok (.val (.bl (!b))) e
      | _ => .bad) else .bad
  | _, _ => .bad
def rOwnNe (K : PySem.W.Frag) (mg : Mg) (C : Addr) (fn : Fn) : R2 := fun x y H Q => ∃ a dx gs a2 dx2 gs2 d d', x = .ref a ∧ H a = some (.ins C dx gs) ∧ y = .ref a2 ∧ H a2 = some (.ins C dx2 gs2) ∧ Rep K mg H x d ∧ Rep K mg H y d' ∧
  ∃ b sl, fn [.val d, .val d'] = .ok (.val (.bl b)) sl ∧ ∀ H', Same H H' → Q (.bl (!b)) H'
theorem k2_ownNe {K : PySem.W.Frag} {mg : Mg} {W : WX} {c : Str} {C : Addr} {fn : Fn} (hC : mg c = some (.ref C)) : K2 K mg W (rOwnNe K mg C fn) (ownNeK c fn) := by
  intro F H e σ x y d d' Q R rx ry h
  have px := rx.rep R.sub
  have py := ry.rep R.sub
  unfold ownNeK at h
  split at h
  · rename_i c' fs c2 fs2
    split at h
    · rename_i hc
      obtain ⟨rfl, rfl⟩ := hc
      obtain ⟨a, C', dx, gs, rfl, m, q, p⟩ := rx
      rw [hC] at m
      cases m
      obtain ⟨a2, C2, dx2, gs2, rfl, m, q2, p2⟩ := ry
      rw [hC] at m
      cases m
      split at h
      · rename_i b sl w
        exact ⟨a, dx, gs, a2, dx2, gs2, _, _, rfl, q, rfl, q2, px, py, b, sl, w, fun H' s => h _ F H' (Stp.ext R s) (R.ext s) (.bl _)⟩
      · exact h.elim
    · exact h.elim
  · exact h.elim
structure NeF (K : PySem.W.Frag) (C : Addr) : Prop where
  hn : PySem.W.findIn K (.ref C) "__ne__" = some (some (.builtin "object.__ne__"))
  hm : PySem.W.mroIn K C (.type "object") = some true
section
variable {X : Cx} {W : WX} {C f : Addr} {fd : FuncData} {ps : List Str} {k : Nat} {fn : Fn}
theorem op_ownNe (tk : Takes X W) (G : FnOk X.prog X.w X.K X.mg X.base (L2.CX X.prog X.w) k f fd ps (cSp X.K X.mg fn)) (E : EqF X.K C f) (N : NeF X.K C) (hb : BA fd ps) (hr : Room (k + 1) X.A) : OpR X (compareOp .NotEq) (rOwnNe X.K X.mg C fn) := by
  intro pins s σ H x y v u Q I rx ry h
  obtain ⟨a, dx, gs, a2, dx2, gs2, d, d', rfl, ha, rfl, ha2, p, q, b, sl, w, hQ⟩ := h
  cases rx
  cases ry
  obtain ⟨mA, J, _⟩ := ins_get I.hok ha
  obtain ⟨od, J, _⟩ := J.look
  obtain ⟨mB, J', _⟩ := ins_get I.hok ha2
  obtain ⟨od', J', _⟩ := J'.look
  show wpAny (model X.prog X.w) X.A (richCompare .NotEq (.ref a) (.ref a2)) (EP X pins σ Q) X.xe s
  refine ne_own (by have := hr.un; omega) I.kIn J J' N.hn N.hm E.hs E.hf (wpAny_mono (own_run (A := X.A.in1) (y := .ref a2) tk G hb hr.in1 rfl I (show RelV (.ref a2) (.ref a2) from rfl) p q w) (fun v s' z => ?_) fun _ _ z => z)
  obtain ⟨rfl, H', I', sm⟩ := z
  exact ⟨b, rfl, .bl (!b), H', I', rfl, hQ H' sm⟩
variable {a b : Expr} {g h : M RV} {pos : Pos} {c : Str}
/-- a class's own == by name -/
def EqOk (P : Program) (w : World) (K : PySem.W.Frag) (mg : Mg) (c : Str) (k : Nat) (ps : List Str) (fn : Fn) : Prop :=
  ∃ C f fd, mg c = some (.ref C) ∧ EqF K C f ∧ NeF K C ∧ (∀ base, FnOk P w K mg base (L2.CX P w) k f fd ps (cSp K mg fn)) ∧ BA fd ps
theorem de_ownEq (O : EqOk X.prog X.w X.K X.mg c k ps fn) (hr : Room k X.A) (tk : Takes X W) (ha : DE X W a g) (hb : DE X W b h) : DE X W (.Compare a [.Eq] [b] pos) (rd2 g h (ownEqK c fn)) := by
  obtain ⟨C, f, fd, m, E, N, G, B⟩ := O
  exact de_cmp (op_ownEq tk (G X.base) E B hr) (k2_ownEq m) ha hb (nomark _)
theorem dt_ownEq (O : EqOk X.prog X.w X.K X.mg c k ps fn) (hr : Room k X.A) (tk : Takes X W) (ha : DE X W a g) (hb : DE X W b h) : DT X W (.Compare a [.Eq] [b] pos) (asB (rd2 g h (ownEqK c fn))) := by
  obtain ⟨C, f, fd, m, E, N, G, B⟩ := O
  exact dt_cmp (op_ownEq tk (G X.base) E B hr) (k2_ownEq m) ha hb (nomark _)
theorem dt_ownNe (O : EqOk X.prog X.w X.K X.mg c k ps fn) (hr : Room (k + 1) X.A) (tk : Takes X W) (ha : DE X W a g) (hb : DE X W b h) : DT X W (.Compare a [.NotEq] [b] pos) (asB (rd2 g h (ownNeK c fn))) := by
  obtain ⟨C, f, fd, m, E, N, G, B⟩ := O
  exact dt_cmp (op_ownNe tk (G X.base) E N B hr) (k2_ownNe m) ha hb (nomark _)
end
/-! ### a fresh list times an int; a tuple times an int -/
def eRepL (f g : M RV) : M RV := M.bind f fun r => M.bind g fun r' => fun e => match r, rdat e r' with
  | .own (.lst xs), some (.int k) => if -(2 ^ 63) ≤ k ∧ k < 2 ^ 63 ∧ xs.length * k.toNat ≤ sizeLine then .ok (.own (.lst (List.replicate k.toNat xs).flatten)) e else .bad
  | _, _ => .bad
def repT : D → D → M RV
  | .tup xs, .int k => fun e => if xs ≠ [] ∧ 2 ≤ k ∧ k ≤ 1000 ∧ xs.length ≤ 1000 then .ok (.val (.tup (List.replicate k.toNat xs).flatten)) e else .bad
  | _, _ => M.bad
theorem reps_app {K : PySem.W.Frag} {mg : Mg} {F : Hp} : ∀ {vs ws : List V} {ds es : List D}, Reps K mg F vs ds → Reps K mg F ws es → Reps K mg F (vs ++ ws) (ds ++ es)
  | _, _, _, _, .nil, h => h
  | _, _, _, _, .cons a b, h => .cons a (reps_app b h)
theorem reps_rep {K : PySem.W.Frag} {mg : Mg} {F : Hp} {vs : List V} {ds : List D} (r : Reps K mg F vs ds) : ∀ n, Reps K mg F (List.replicate n vs).flatten (List.replicate n ds).flatten
  | 0 => .nil
  | n + 1 => by
    rw [List.replicate_succ, List.replicate_succ, List.flatten_cons, List.flatten_cons]
    exact reps_app r (reps_rep r n)
section
variable {X : Cx} {W : WX} {a b : Expr} {f g : M RV} {pos : Pos} {K : PySem.W.Frag} {mg : Mg} {σ : St} {H : Hp} {Q : VK}
theorem eRepL_ok (h : cE K mg W (eRepL f g) σ H Q) : cE K mg W f σ H fun x H1 => cE K mg W g σ H1 fun y H2 => rRep x y H2 Q := by
  obtain ⟨e, F, R, h⟩ := h
  refine ⟨e, F, R, post_imp (post_seq up_V h) ?_⟩
  rintro x H1 ⟨r1, e1, F1, q1, R1, s1, h1⟩
  refine ⟨e1, F1, R1, post_imp (post_seq up_V h1) ?_⟩
  rintro y H2 ⟨r2, e2, F2, q2, R2, s2, h2⟩
  have q1 := q1.step s2
  cases r1 with
  | val _ => exact h2.elim
  | pk _ => exact h2.elim
  | own c => cases c with
    | ins _ _ => exact h2.elim
    | lst xs =>
      cases w : rdat e2 r2 with
      | none => rw [w] at h2; exact h2.elim
      | some d => cases d with
        | int k =>
          rw [w] at h2
          dsimp only at h2
          split at h2
          · rename_i hk
            have ry := R2.rd q2 w
            cases ry
            obtain ⟨a, o, rfl, hF, hH, hc, _⟩ := q1
            obtain ⟨vs, rfl, r⟩ := hc
            exact ⟨a, k, vs, rfl, rfl, hH, hk.1, hk.2.1, by rw [r.length]; exact hk.2.2, fun p hp => post_newL R2 h2 (reps_rep r _) hp⟩
          · exact h2.elim
        | _ => rw [w] at h2; exact h2.elim
theorem de_repL (ha : DE X W a f) (hb : DE X W b g) : DE X W (.BinOp a .Mult b pos) (eRepL f g) := peW (pe_op op_rep ha hb) fun σ H Q h => eRepL_ok h
theorem k2_repT : K2 K mg W (rRepT K) repT := by
  intro F H e σ x y d d' Q R rx ry h
  unfold repT at h
  split at h
  · split at h
    · rename_i xs k hk
      cases ry
      obtain ⟨a, vs, rfl, q, r⟩ := rx
      exact ⟨a, k, vs, rfl, rfl, sqT_mono R.sub q, fun z => hk.1 (by rw [z] at r; cases r; rfl), hk.2.1, hk.2.2.1, by rw [r.length]; exact hk.2.2.2, fun p hp => post_newT R h (reps_rep r _) hp⟩
    · exact h.elim
  · exact h.elim
theorem de_repT (ha : DE X W a f) (hb : DE X W b g) : DE X W (.BinOp a .Mult b pos) (rd2 f g repT) := de_bin op_repT k2_repT ha hb
end
/-! ### C(k = v, ..), by keywords alone -/
section
variable {X : Cx} {W : WX} {ks : M (List RV)} {fn : Fn} {pos p : Pos} {k : Nat} {ps nms : List Str} {c : Str} {kws : List Keyword} {gD : List D → List D → List D}
theorem de_makeN0 (G : MakeOk X.prog X.w X.K X.mg c k ps fn 0 nms gD) (hr : Room (k + 1) X.A) (tk : Takes X W) (hW : ∀ c d σ σ' H, W c d σ H → W c d σ' H) (hg : Gl X c) (hk : DK X W kws ks)
    (hall : (backToKw pos (keywordEach kws X.env)).all (·.1.isSome) = true := by rfl) (hks : (backToKw pos (keywordEach kws X.env)).filterMap (·.1) = nms := by rfl) (hdb : (c == ("__debug__" : Str)) = false := by decide)
    (hpl : ((backTo pos (starEach [] X.env)).any (·.1) || (backToKw pos (keywordEach kws X.env)).any (·.1.isNone)) = false := by rfl) :
    DE X W (.Call (.Name c p) [] kws pos) (eMake fn c 0 nms.length gD aNil ks) := by
  obtain ⟨C, f, fd, m, mkd, G, gu, gV, kb, hgD⟩ := G
  refine peW (pe_makeK0 (E := fun c d H => ∃ σ, W c d σ H) mkd (G X.base) hr hg m kb (passes_call tk fun c d σ H ⟨σ', z⟩ => hW c d σ' σ H z) hk hall hks hdb hpl) fun σ H Q ⟨e, F, R, h⟩ => ?_
  change post X.K X.mg W (rV X.K X.mg) F H e σ (M.bind ks (fun rk => mkK fn c 0 nms.length gD [] rk) e) Q at h
  refine ⟨e, F, R, post_imp (post_seq up_V h) ?_⟩
  rintro zs H2 ⟨rk, e2, F2, q2, R2, s2, h2⟩
  unfold mkK at h2
  cases w2 : valsOf rk with
  | none => rw [w2] at h2; exact h2.elim
  | some dk =>
    rw [w2] at h2
    dsimp only [valsOf] at h2
    split at h2
    · rename_i hl
      have r2 := q2.reps w2
      refine ⟨rfl, by rw [r2.length]; exact hl.2, fun x dx hx hdx hne => ?_⟩
      obtain ⟨ws, e1, e2⟩ := hgD F2 (.ref x) [] zs [] dk .nil r2 rfl hl.2
      rw [e1]
      obtain ⟨args, F3, R3, a3, p3⟩ := mkK_ok (W := W) R2 m e2 hx hdx hne rfl h2
      refine ⟨args, F3, R3, a3, ?_⟩
      revert p3
      cases fn args with
      | bad => exact id
      | ok r s => exact id
      | ex y s => exact fun p3 cls d F' H' s' R' z => ⟨σ, p3 cls d F' H' s' R' z⟩
    · exact h2.elim
end
/-- an own __eq__, by the fragment -/
theorem eq_mk {K : PySem.W.Frag} {h : Heap} {mg : Mg} {c qual : Str} {st : Stmt} {ps : List Str} {C f : Addr} {oc kV dc pm cd ct : Value} {od an : Option Addr} {sl : Array (Option Value)} (X : K.In h) (G : h.Ns mainGlobals mg) (a : PySem.W.nsIn K mainGlobals c = some (some (.ref C)))
    (hs : PySem.W.findIn K (.ref C) "__eq__" = some (some (.ref f))) (hf : PySem.W.isFn K (.ref f) = true) (n0 : PySem.W.subIn K (.type "NoneType") (.ref C) = some false) (n5 : PySem.W.subIn K (.type "tuple") (.ref C) = some false)
    (hn : PySem.W.findIn K (.ref C) "__ne__" = some (some (.builtin "object.__ne__"))) (hm : PySem.W.mroIn K C (.type "object") = some true)
    (l : K.lookup f = some ⟨oc, od, .func (PySem.W.fnOf "__eq__" qual (defArgs st) (defBody st) (defScope st) .none kV dc pm an cd ct), sl⟩) (ci : PySem.W.codeIn K cd qual = true) (k : PySem.W.keepIn K (.ref f) = true)
    (hb : ∀ (kV doc pm : Value) (an : Option Addr) (cdv ct : Value) (us : List Value), us.length = ps.length → bindArgs (PySem.W.fnOf "__eq__" qual (defArgs st) (defBody st) (defScope st) .none kV doc pm an cdv ct) ⟨us, []⟩ = pure (ps.zip us)) :
    ∃ C f fd, mg c = some (.ref C) ∧ EqF K C f ∧ NeF K C ∧ FunD K "__eq__" qual (defArgs st) (defBody st) (defScope st) [] [] f fd ∧ BA fd ps :=
  ⟨C, f, _, PySem.W.mg_of X G a, ⟨hs, hf, n0, n5⟩, ⟨hn, hm⟩, ⟨⟨oc, od, .none, kV, dc, pm, an, cd, ct, sl, rfl, l, ci, .inl ⟨rfl, rfl⟩, .inl rfl⟩, k⟩, fun us hl => hb kV dc pm an cd ct us hl⟩
/-- two keywords the other way round -/
def swap2 {α : Type} : List α → List α
  | [a, b] => [b, a]
  | l => l
theorem vals_swap2 {zs : List V} {ws : List Value} (r : Vals zs ws) : Vals (swap2 zs) (swap2 ws) := by
  cases r with
  | nil => exact .nil
  | cons a r => cases r with
    | nil => exact .cons a .nil
    | cons b r => cases r with
      | nil => exact .cons b (.cons a .nil)
      | cons c r => exact .cons a (.cons b (.cons c r))
end Y

set_option Elab.async false
set_option linter.all false
set_option maxRecDepth 100000
set_option maxHeartbeats 4000000
namespace Y
open PySem L2
set_option autoImplicit false
def eqB (e : Sl) : Res RV → Res RV
  | .ok (.val (.bl b)) _ => .ok (.val (.bl b)) e
  | _ => .bad
@[simp] theorem v_eqB (e sl : Sl) (b : Bool) : eqB e (.ok (.val (.bl b)) sl) = .ok (.val (.bl b)) e := id rfl
def neB (e : Sl) : Res RV → Res RV
  | .ok (.val (.bl b)) _ => .ok (.val (.bl (!b))) e
  | _ => .bad
@[simp] theorem v_neB (e sl : Sl) (b : Bool) : neB e (.ok (.val (.bl b)) sl) = .ok (.val (.bl (!b))) e := id rfl
theorem v_ownEqI (c : Str) (fn : Fn) (fs gs : List (Str × D)) (e : Sl) : ownEqK c fn (.ins c fs) (.ins c gs) e = eqB e (fn [.val (.ins c fs), .val (.ins c gs)]) := by
  unfold ownEqK
  dsimp only
  rw [if_pos rfl, if_pos rfl]
  cases fn [.val (.ins c fs), .val (.ins c gs)] with
  | ok r s => cases r with
    | val d => cases d <;> rfl
    | _ => rfl
  | _ => rfl
theorem v_ownEqT (c : Str) (fn : Fn) (fs : List (Str × D)) (ds : List D) (e : Sl) : ownEqK c fn (.ins c fs) (.tup ds) e = eqB e (fn [.val (.ins c fs), .val (.tup ds)]) := by
  unfold ownEqK
  dsimp only
  rw [if_pos rfl]
  cases fn [.val (.ins c fs), .val (.tup ds)] with
  | ok r s => cases r with
    | val d => cases d <;> rfl
    | _ => rfl
  | _ => rfl
theorem v_ownEqN (c : Str) (fn : Fn) (fs : List (Str × D)) (e : Sl) : ownEqK c fn (.ins c fs) .non e = eqB e (fn [.val (.ins c fs), .val .non]) := by
  unfold ownEqK
  dsimp only
  rw [if_pos rfl]
  cases fn [.val (.ins c fs), .val .non] with
  | ok r s => cases r with
    | val d => cases d <;> rfl
    | _ => rfl
  | _ => rfl
theorem v_ownNe (c : Str) (fn : Fn) (fs gs : List (Str × D)) (e : Sl) : ownNeK c fn (.ins c fs) (.ins c gs) e = neB e (fn [.val (.ins c fs), .val (.ins c gs)]) := by
  unfold ownNeK
  dsimp only
  rw [if_pos ⟨rfl, rfl⟩]
  cases fn [.val (.ins c fs), .val (.ins c gs)] with
  | ok r s => cases r with
    | val d => cases d <;> rfl
    | _ => rfl
  | _ => rfl
@[simp] theorem v_repT (xs : List D) (k : Int) (e : Sl) : repT (.tup xs) (.int k) e = gB (decide (xs ≠ [] ∧ 2 ≤ k ∧ k ≤ 1000 ∧ xs.length ≤ 1000)) (.ok (.val (.tup (List.replicate k.toNat xs).flatten)) e) := gB_if _ _
theorem p63 : (2 : Int) ^ 63 = 9223372036854775808 := by decide +kernel
def rep3 (xs : List D) (e : Sl) : D → Res RV
  | .int k => gB (decide (-9223372036854775808 ≤ k ∧ k < 9223372036854775808 ∧ xs.length * k.toNat ≤ sizeLine)) (.ok (.own (.lst (List.replicate k.toNat xs).flatten)) e)
  | _ => .bad
@[simp] theorem v_rep3 (xs : List D) (e : Sl) (k : Int) : rep3 xs e (.int k) = gB (decide (-9223372036854775808 ≤ k ∧ k < 9223372036854775808 ∧ xs.length * k.toNat ≤ sizeLine)) (.ok (.own (.lst (List.replicate k.toNat xs).flatten)) e) := id rfl
def rep2 (xs : List D) (r' : RV) (e : Sl) : Res RV := oB (rdat e r') (rep3 xs e)
@[simp] theorem v_rep2 (xs : List D) (r' : RV) (e : Sl) : rep2 xs r' e = oB (rdat e r') (rep3 xs e) := id rfl
def rep1 (g : M RV) : RV → Sl → Res RV
  | .own (.lst xs), e => (g e).bnd (rep2 xs)
  | _, e => (g e).bnd fun _ _ => .bad
@[simp] theorem v_rep1 (g : M RV) (xs : List D) (e : Sl) : rep1 g (.own (.lst xs)) e = (g e).bnd (rep2 xs) := id rfl
@[simp] theorem v_eRepL (f g : M RV) (e : Sl) : eRepL f g e = (f e).bnd (rep1 g) := by
  unfold eRepL
  rw [v_bind]
  cases f e with
  | bad => rfl
  | ex x e' => rfl
  | ok r e' =>
    rw [bnd_ok, bnd_ok, v_bind]
    cases r with
    | val d => rfl
    | pk i => rfl
    | own c => cases c with
      | ins _ _ => rfl
      | lst xs =>
        rw [v_rep1]
        cases g e' with
        | bad => rfl
        | ex x e' => rfl
        | ok r e2 =>
          rw [bnd_ok, bnd_ok, v_rep2]
          cases rdat e2 r with
          | none => rfl
          | some d => cases d with
            | int k =>
              rw [oB_some, v_rep3, ← gB_if]
              dsimp only
              rw [p63]
            | _ => rfl
end Y

set_option Elab.async false
set_option linter.all false
set_option maxRecDepth 100000
set_option maxHeartbeats 4000000
namespace Y
open PySem PySem.Spec L2
set_option autoImplicit false
def absK : D → M RV
  | .int i => fun e => .ok (.val (.int (if i < 0 then -i else i))) e
  | _ => M.bad
def blsOf : List D → Option (List Bool)
  | [] => some []
  | .bl b :: r => (blsOf r).map (b :: ·)
  | _ => none
theorem Reps.bls {K : PySem.W.Frag} {mg : Mg} {F : Hp} : ∀ {vs : List V} {ds : List D} {ns : List Bool}, Reps K mg F vs ds → blsOf ds = some ns → vs = ns.map V.bl
  | _, _, _, .nil, e => by cases e; rfl
  | _, _, _, .cons (.bl i) b, e => by
    unfold blsOf at e
    obtain ⟨zs, q, e⟩ := Option.map_eq_some_iff.mp e
    subst e
    rw [Reps.bls b q]
    rfl
  | _, _, _, .cons .non _, e => by cases e
  | _, _, _, .cons (.int _) _, e => by cases e
  | _, _, _, .cons (.str _) _, e => by cases e
  | _, _, _, .cons (.raw _) _, e => by cases e
  | _, _, _, .cons (.lst _ _) _, e => by cases e
  | _, _, _, .cons (.tup _ _) _, e => by cases e
  | _, _, _, .cons (.ins _ _ _) _, e => by cases e
def anyK : D → M RV
  | .lst xs => fun e => match blsOf xs with
    | some bs => .ok (.val (.bl (bs.any id))) e
    | none => .bad
  | _ => M.bad
def allK : D → M RV
  | .lst xs => fun e => match blsOf xs with
    | some bs => .ok (.val (.bl (bs.all id))) e
    | none => .bad
  | _ => M.bad
section
variable {X : Cx} {W : WX} {a : Expr} {f : M RV} {pos p : Pos}
theorem de_abs (hg : Gl X "abs") (hm : X.mg "abs" = none) (ha : DE X W a f) (he : starEach [a] X.env = (false, eval a X.env) :: starEach [] X.env := by rfl) (hpl : (backTo pos (starEach [] X.env)).any (·.1) = false := by rfl) :
    DE X W (.Call (.Name "abs" p) [a] [] pos) (rd1 f absK) := de_b1 call_abs (fun F H e σ x d Q R rx h => by
  unfold absK at h
  split at h
  · cases rx
    exact ⟨_, rfl, post_val R h (.int _)⟩
  · exact h.elim) hg hm (by decide +kernel) ha (he := he) (hpl := hpl)
theorem de_any (hc : X.calm = true) (hg : Gl X "any") (hm : X.mg "any" = none) (ha : DE X W a f) (he : starEach [a] X.env = (false, eval a X.env) :: starEach [] X.env := by rfl) (hpl : (backTo pos (starEach [] X.env)).any (·.1) = false := by rfl) :
    DE X W (.Call (.Name "any" p) [a] [] pos) (rd1 f anyK) := de_b1 (cr_any hc) (fun F H e σ x d Q R rx h => by
  unfold anyK at h
  split at h
  · obtain ⟨l, vs, rfl, q, r⟩ := rx
    split at h
    · rename_i bs w
      rw [Reps.bls r w] at q
      exact ⟨l, bs, rfl, q, post_val R h (.bl _)⟩
    · exact h.elim
  · exact h.elim) hg hm (by decide +kernel) ha (he := he) (hpl := hpl)
theorem de_all (hc : X.calm = true) (hg : Gl X "all") (hm : X.mg "all" = none) (ha : DE X W a f) (he : starEach [a] X.env = (false, eval a X.env) :: starEach [] X.env := by rfl) (hpl : (backTo pos (starEach [] X.env)).any (·.1) = false := by rfl) :
    DE X W (.Call (.Name "all" p) [a] [] pos) (rd1 f allK) := de_b1 (cr_all hc) (fun F H e σ x d Q R rx h => by
  unfold allK at h
  split at h
  · obtain ⟨l, vs, rfl, q, r⟩ := rx
    split at h
    · rename_i bs w
      rw [Reps.bls r w] at q
      exact ⟨l, bs, rfl, q, post_val R h (.bl _)⟩
    · exact h.elim
  · exact h.elim) hg hm (by decide +kernel) ha (he := he) (hpl := hpl)
/-- the greatest, the least of a list -/
def maxL : D → M RV
  | .lst xs => fun e => match intsOf xs with
    | some ns => if ns = [] then .bad else .ok (.val (.int (ns.foldl max (ns.headD 0)))) e
    | none => .bad
  | _ => M.bad
def minL : D → M RV
  | .lst xs => fun e => match intsOf xs with
    | some ns => if ns = [] then .bad else .ok (.val (.int (ns.foldl min (ns.headD 0)))) e
    | none => .bad
  | _ => M.bad
theorem fold_max : ∀ (ns : List Int) (i : Int), i ≤ ns.foldl max i ∧ (∀ x ∈ ns, x ≤ ns.foldl max i) ∧ (ns.foldl max i = i ∨ ns.foldl max i ∈ ns)
  | [], i => ⟨Int.le_refl _, fun x h => (by cases h), .inl rfl⟩
  | a :: r, i => by
    obtain ⟨h1, h2, h3⟩ := fold_max r (max i a)
    have e1 : i ≤ max i a := Int.le_max_left ..
    have e2 : a ≤ max i a := Int.le_max_right ..
    refine ⟨Int.le_trans e1 h1, fun x hx => ?_, ?_⟩
    · rcases List.mem_cons.mp hx with rfl | hx
      · exact Int.le_trans e2 h1
      · exact h2 x hx
    · show r.foldl max (max i a) = i ∨ r.foldl max (max i a) ∈ a :: r
      rcases h3 with h3 | h3
      · rcases (show max i a = i ∨ max i a = a by omega) with q | q
        · exact .inl (h3.trans q)
        · exact .inr (by rw [h3, q]; exact List.mem_cons_self)
      · exact .inr (List.mem_cons_of_mem _ h3)
theorem fold_min : ∀ (ns : List Int) (i : Int), ns.foldl min i ≤ i ∧ (∀ x ∈ ns, ns.foldl min i ≤ x) ∧ (ns.foldl min i = i ∨ ns.foldl min i ∈ ns)
  | [], i => ⟨Int.le_refl _, fun x h => (by cases h), .inl rfl⟩
  | a :: r, i => by
    obtain ⟨h1, h2, h3⟩ := fold_min r (min i a)
    have e1 : min i a ≤ i := Int.min_le_left ..
    have e2 : min i a ≤ a := Int.min_le_right ..
    refine ⟨Int.le_trans h1 e1, fun x hx => ?_, ?_⟩
    · rcases List.mem_cons.mp hx with rfl | hx
      · exact Int.le_trans h1 e2
      · exact h2 x hx
    · show r.foldl min (min i a) = i ∨ r.foldl min (min i a) ∈ a :: r
      rcases h3 with h3 | h3
      · rcases (show min i a = i ∨ min i a = a by omega) with q | q
        · exact .inl (h3.trans q)
        · exact .inr (by rw [h3, q]; exact List.mem_cons_self)
      · exact .inr (List.mem_cons_of_mem _ h3)
theorem de_maxL (hc : X.calm = true) (hg : Gl X "max") (hm : X.mg "max" = none) (ha : DE X W a f) (he : starEach [a] X.env = (false, eval a X.env) :: starEach [] X.env := by rfl) (hpl : (backTo pos (starEach [] X.env)).any (·.1) = false := by rfl) :
    DE X W (.Call (.Name "max" p) [a] [] pos) (rd1 f maxL) := de_b1 (cr_max hc) (fun F H e σ x d Q R rx h => by
  unfold maxL at h
  split at h
  · obtain ⟨l, vs, rfl, q, r⟩ := rx
    split at h
    · rename_i ns w
      rw [Reps.ints r w] at q
      split at h
      · exact h.elim
      · rename_i hne
        cases ns with
        | nil => exact absurd rfl hne
        | cons n ns =>
          obtain ⟨h1, h2, h3⟩ := fold_max (n :: ns) n
          refine ⟨l, n :: ns, rfl, q, by simp, fun m hm hy => ?_⟩
          have e1 : m = (n :: ns).foldl max n := by
            have a1 := h2 m hm
            have a2 : (n :: ns).foldl max n ≤ m := hy _ (h3.elim (fun z => by rw [z]; exact List.mem_cons_self) id)
            omega
          rw [e1]
          exact post_val R h (.int _)
    · exact h.elim
  · exact h.elim) hg hm (by decide +kernel) ha (he := he) (hpl := hpl)
theorem srt_uniq : ∀ {a b : List Int}, a.Perm b → a.Pairwise (· ≤ ·) → b.Pairwise (· ≤ ·) → a = b
  | [], b, p, _, _ => (List.Perm.nil_eq p)
  | x :: a, [], p, _, _ => absurd p.length_eq (by simp)
  | x :: a, y :: b, p, ha, hb => by
    rw [List.pairwise_cons] at ha hb
    have hx : x ∈ y :: b := p.subset List.mem_cons_self
    have hy : y ∈ x :: a := p.symm.subset List.mem_cons_self
    have e : x = y := by
      rcases List.mem_cons.mp hx with q | q
      · exact q
      · rcases List.mem_cons.mp hy with q2 | q2
        · exact q2.symm
        · have := ha.1 y q2; have := hb.1 x q; omega
    subst e
    rw [srt_uniq (List.Perm.cons_inv p) ha.2 hb.2]
def srt (ns : List Int) : List Int := ns.mergeSort fun i j => decide (i ≤ j)
theorem srt_ok (ns : List Int) : (srt ns).Perm ns ∧ (srt ns).Pairwise (· ≤ ·) := by
  refine ⟨List.mergeSort_perm _ _, ?_⟩
  have := List.pairwise_mergeSort (le := fun i j : Int => decide (i ≤ j)) (fun a b c h1 h2 => by simp at h1 h2 ⊢; omega) (fun a b => by simp; omega) ns
  exact this.imp fun h => by simpa using h
def sortedK : D → M RV
  | .lst xs => fun e => match intsOf xs with
    | some ns => .ok (.own (.lst ((srt ns).map D.int))) e
    | none => .bad
  | _ => M.bad
theorem reps_int {K : PySem.W.Frag} {mg : Mg} {F : Hp} : ∀ ns : List Int, Reps K mg F (ns.map V.int) (ns.map D.int)
  | [] => .nil
  | n :: r => .cons (.int n) (reps_int r)
theorem de_sorted (hg : Gl X "sorted") (hm : X.mg "sorted" = none) (ha : DE X W a f) (he : starEach [a] X.env = (false, eval a X.env) :: starEach [] X.env := by rfl) (hpl : (backTo pos (starEach [] X.env)).any (·.1) = false := by rfl) :
    DE X W (.Call (.Name "sorted" p) [a] [] pos) (rd1 f sortedK) := de_b1 cr_sortedI (fun F H e σ x d Q R rx h => by
  unfold sortedK at h
  split at h
  · obtain ⟨l, vs, rfl, q, r⟩ := rx
    split at h
    · rename_i ns w
      rw [Reps.ints r w] at q
      refine ⟨l, ns, rfl, q, fun ns' p pe so hp => ?_⟩
      have e1 : ns' = srt ns := srt_uniq (pe.trans (srt_ok ns).1.symm) so (srt_ok ns).2
      rw [e1]
      exact post_newL R h (reps_int _) hp
    · exact h.elim
  · exact h.elim) hg hm (by decide +kernel) ha (he := he) (hpl := hpl)
end
end Y

set_option Elab.async false
set_option linter.all false
set_option maxRecDepth 100000
set_option maxHeartbeats 4000000
namespace Y
open PySem PySem.Spec L2 PyProof.Rows
set_option autoImplicit false
/-! ### tuple * 1, products of both kinds, list(range ..), ranges of any size -/
theorem tuple_mul1 (l : Addr) (items : Array Value) (n : Nat) (sl : Array (Option Value)) (dd : Option Addr) (x : Int) (u : Tok) (c0 : (decide (x < -(2 ^ 63)) || decide (x ≥ 2 ^ 63)) = false) (c1 : (items.isEmpty || x == 1) = true) :
    Meets (Builtin.«tuple.__mul__» ⟨[.ref l, .int x u], []⟩) (fun _ R s => s.heap.get? l = some { cls := .type "tuple", dict := dd, data := .seq items n, slots := sl } ∧
      R (.ok (.ret (Value.ref l))) s) :=
  .of_wp fun prog w A R s h => by
    obtain ⟨hp, g, d, tk, os⟩ := s
    obtain ⟨hl, h⟩ := h
    have f1 := AutoSeq1.idx_int
    wp_walk using wpAny_loadPart' hl
    repeat (first
      | (refine wpAny_ite_false (decide_eq_false (by rw [c0]; exact Bool.false_ne_true)) ?_; wp_walk using wpAny_loadPart' hl)
      | (refine wpAny_ite_true (decide_eq_true c1) ?_; wp_walk using wpAny_loadPart' hl))
    exact ⟨_, rfl, h⟩
def rRepT1 (K : PySem.W.Frag) : R2 := fun x y H Q => ∃ l k xs, x = .ref l ∧ y = .int k ∧ SqT K H l xs ∧ (xs = [] ∨ k = 1) ∧ -1000 ≤ k ∧ k ≤ 1000 ∧ Q (.ref l) H
theorem op_repT1 {X : Cx} : OpR X (binaryOp .Mult) (rRepT1 X.K) := by
  intro pins s σ H x y v u Q I rx ry h
  obtain ⟨l, k, xs, rfl, rfl, hT, hne, h1, h2, q⟩ := h
  cases rx
  obtain ⟨t, rfl⟩ := ry
  obtain ⟨its, r, ⟨⟨cls, dd, data, sl⟩, ho, hc, n, hd⟩, hs⟩ := I.tuple hT
  simp only at hc hd
  subst hc hd
  have hle : its.length = xs.length := r.length.symm
  have c0 : (decide (k < -(2 ^ 63)) || decide (k ≥ 2 ^ 63)) = false := by
    rw [decide_eq_false (by omega), decide_eq_false (by omega)] <;> rfl
  have c1 : (its.toArray.isEmpty || k == 1) = true := by
    rcases hne with z | z
    · rw [z] at hle
      have : its = [] := List.eq_nil_of_length_eq_zero hle
      subst this
      rfl
    · subst z
      simp
  refine wpAny_binaryOp_repeat_ref (T := "tuple") (U := "int") (by decide) ⟨_, ho, rfl⟩ (fun s' => typeIs_int s' k t) noFill_tuple_mul F.fills_int_mul F.slot_int_rmul repeat_tuple F.slot_int_index.lookup
    (call_meets F.slot_int_rmul (typeIs_int s k t) F.entry_int_rmul (F.args_int_rmul_2 _ _) (int_rmul_tuple k t l its.toArray n dd sl)
      ⟨ho, rfl, ⟨_, ho, rfl⟩, call_meets F.slot_tuple_mul ⟨_, ho, rfl⟩ F.entry_tuple_mul (F.args_tuple_mul_2 _ _) (tuple_mul1 l its.toArray n sl dd k t c0 c1) ⟨ho, ?_⟩⟩)
  exact ⟨.ref l, H, I, rfl, q⟩
def mulK : D → D → M RV
  | .int i, .int j => mulI (.int i) (.int j)
  | .tup xs, .int k => fun e => if xs ≠ [] ∧ 2 ≤ k ∧ k ≤ 1000 ∧ xs.length ≤ 1000 then .ok (.val (.tup (List.replicate k.toNat xs).flatten)) e else if (xs = [] ∨ k = 1) ∧ -1000 ≤ k ∧ k ≤ 1000 then .ok (.val (.tup xs)) e else .bad
  | _, _ => M.bad
section
variable {X : Cx} {W : WX} {a b tg : Expr} {f g : M RV} {pos p p2 pos2 : Pos}
theorem k2_mulK {K : PySem.W.Frag} {mg : Mg} : K2 K mg W (fun x y H Q => rI (fun i j => (-(2 ^ 64) < i ∧ i < 2 ^ 64) ∨ (-(2 ^ 64) < j ∧ j < 2 ^ 64)) (fun i j => .int (i * j)) x y H Q ∨ rRepT K x y H Q ∨ rRepT1 K x y H Q) mulK := by
  intro F H e σ x y d d' Q R rx ry h
  unfold mulK at h
  split at h
  · rename_i i j
    unfold mulI kI2 at h
    dsimp only at h
    by_cases c : (-(2 ^ 64) < i ∧ i < 2 ^ 64) ∨ (-(2 ^ 64) < j ∧ j < 2 ^ 64)
    · rw [if_pos c] at h
      exact .inl ⟨i, j, rx, ry, c, post_val R h (.int _)⟩
    · rw [if_neg c] at h
      exact h.elim
  · rename_i xs k
    obtain ⟨l, vs, rfl, q, r⟩ := rx
    split at h
    · rename_i hk
      cases ry
      exact .inr (.inl ⟨l, k, vs, rfl, rfl, sqT_mono R.sub q, fun z => hk.1 (by rw [z] at r; cases r; rfl), hk.2.1, hk.2.2.1, by rw [r.length]; exact hk.2.2.2, fun p hp => post_newT R h (reps_rep r _) hp⟩)
    · split at h
      · rename_i hk
        cases ry
        refine .inr (.inr ⟨l, k, vs, rfl, rfl, sqT_mono R.sub q, hk.1.imp_left (fun z => ?_), hk.2.1, hk.2.2, post_val R h (.tup q r)⟩)
        rw [z] at r; cases r; rfl
      · exact h.elim
  · exact h.elim
theorem de_mulK (ha : DE X W a f) (hb : DE X W b g) : DE X W (.BinOp a .Mult b pos) (rd2 f g mulK) := de_bin (op_mul.or (op_repT.or op_repT1)) k2_mulK ha hb
/-! list(range(..)) -/
def lrK (i j : Int) : M RV := fun e => if (-(2 ^ 62) ≤ i ∧ i < 2 ^ 62 ∧ -(2 ^ 62) ≤ j ∧ j < 2 ^ 62) ∧ (j - i).toNat ≤ 2 ^ 24 then .ok (.own (.lst (rangeD i (j - i).toNat))) e else .bad
def eLR1 (f : M RV) : M RV := M.bind f fun r => fun e => match rdat e r with
  | some (.int n) => lrK 0 n e
  | _ => .bad
def eLR2 (f g : M RV) : M RV := rd2 f g fun d d' => match d, d' with
  | .int i, .int j => lrK i j
  | _, _ => M.bad
theorem reps_rg {K : PySem.W.Frag} {mg : Mg} {F : Hp} (i j : Int) : Reps K mg F (rgV i j) (rangeD i (j - i).toNat) := by
  unfold rgV rangeD
  generalize List.range (j - i).toNat = l
  induction l with
  | nil => exact .nil
  | cons x r ih => exact .cons (.int _) ih
theorem lrK_ok {K : PySem.W.Frag} {mg : Mg} {F H : Hp} {e : Sl} {σ : L2.St} {Q : VK} {i j : Int} (R : Rel K mg F e σ H) (h : post K mg W (rV K mg) F H e σ (lrK i j e) Q) : RgOk i j ∧ ∀ q, H q = none → Q (.ref q) (upd H q (.lst (rgV i j))) := by
  unfold lrK at h
  split at h
  · rename_i c
    exact ⟨⟨c.1.1, c.1.2.1, c.1.2.2.1, c.1.2.2.2, c.2⟩, fun q hq => post_newL R h (reps_rg i j) hq⟩
  · exact h.elim
theorem de_LR1 (hc : X.calm = true) (hg : Gl X "list") (hm : X.mg "list" = none) (hg2 : Gl X "range") (hm2 : X.mg "range" = none) (ha : DE X W a f)
    (na : starEach [a] X.env = (false, eval a X.env) :: starEach [] X.env := by rfl) (nb : starEach [.Call (.Name "range" p2) [a] [] pos2] X.env = (false, eval (.Call (.Name "range" p2) [a] [] pos2) X.env) :: starEach [] X.env := by rfl) :
    DE X W (.Call (.Name "list" p) [.Call (.Name "range" p2) [a] [] pos2] [] pos) (eLR1 f) := peW (pe_listRg hc hg hm (prg_1 hg2 hm2 ha na) nb) fun σ H Q ⟨e, F, R, h⟩ => by
  refine ⟨e, F, R, post_imp (post_seq up_V h) ?_⟩
  rintro x H1 ⟨r1, e1, F1, q1, R1, s1, h1⟩
  split at h1
  · rename_i n w
    exact ⟨n, R1.rd q1 w, lrK_ok R1 h1⟩
  · exact h1.elim
theorem de_LR2 (hc : X.calm = true) (hg : Gl X "list") (hm : X.mg "list" = none) (hg2 : Gl X "range") (hm2 : X.mg "range" = none) (ha : DE X W a f) (hb : DE X W b g)
    (na : starEach [a, b] X.env = (false, eval a X.env) :: starEach [b] X.env := by rfl) (nb0 : starEach [b] X.env = (false, eval b X.env) :: starEach [] X.env := by rfl) (hp2 : (backTo pos2 (starEach [b] X.env)).any (·.1) = false := by rfl) (nb : starEach [.Call (.Name "range" p2) [a, b] [] pos2] X.env = (false, eval (.Call (.Name "range" p2) [a, b] [] pos2) X.env) :: starEach [] X.env := by rfl) :
    DE X W (.Call (.Name "list" p) [.Call (.Name "range" p2) [a, b] [] pos2] [] pos) (eLR2 f g) := peW (pe_listRg hc hg hm (prg_2 hg2 hm2 ha hb na nb0 hp2) nb) fun σ H Q h =>
  rd2_ok (r := fun x y H Q => ∃ i j, x = .int i ∧ y = .int j ∧ RgOk i j ∧ ∀ q, H q = none → Q (.ref q) (upd H q (.lst (rgV i j)))) (fun F H e σ x y d d' Q R rx ry h => by
    split at h
    · rename_i i j
      exact ⟨i, j, rx, ry, lrK_ok R h⟩
    · exact h.elim) h
end
end Y

set_option Elab.async false
set_option linter.all false
set_option maxRecDepth 100000
set_option maxHeartbeats 4000000
namespace Y
open PySem PySem.Spec L2 PyProof.Rows
set_option autoImplicit false
/-! ### ranges of any size, walked -/
theorem turn_longrange {P : Program} {w : World} {K : PySem.W.Frag} {tg : Expr} (it : Addr) (lo : Int) (n : Nat) : Turn P w K tg (Itr lo n) [it] it (fun i h => IsLongIter h it (lo + (i : Nat) * 1) ((n : Int) - (i : Nat)) 1) where
  mem := by simp
  obj := fun i h st b hb => by
    have e : b = it := by simpa using hb
    subst e
    exact ⟨_, st, fun v z => by
      have z' : Data.fields _ = Data.cell v := z
      cases z'⟩
  keep := fun i h h' st k => k it (by simp) _ st
  item := by
    intro X hP hw hK hc i pins s σ H E I hf st hg
    subst hP hw hK
    obtain ⟨f0, f1, f2, f3, f4, f5⟩ := hf it (by simp)
    have W := Walks.longrange (prog := X.prog) (w := X.w) (I.ok.hd hc) it lo 1 n
    refine W.item i s _ _ hg st fun v h' tk hv st' kk => ?_
    obtain ⟨t, rfl⟩ := hv
    have I1 : Inv X pins σ H { s with heap := h', toks := tk } := I.turned (fun b o hb e => kk b o (by simpa using hb) e) f0 f1 f3 f4 f5
    refine ⟨_, rfl, go_of (s := { s with heap := h', toks := tk }) (n := "longrange_iterator") st' rfl rfl (by decide) ⟨.int (lo + i), H, I1, ⟨t, ?_⟩, ⟨rfl, rfl⟩, st', fun b hb => (hf b hb).1⟩⟩
    rw [Int.mul_one]
  done := by
    intro X hP hw hK hc i pins s σ H E I hf st hg
    subst hP hw hK
    obtain ⟨f0, f1, f2, f3, f4, f5⟩ := hf it (by simp)
    exact wpAny_pyNext_long_end (I.ok.hd hc) st (by have : n ≤ i := hg; omega) fun h' eb => ⟨rfl, I.turned (t' := s.toks) (fun b o hb e => eb b o hb e) f0 f1 f3 f4 f5⟩
  self := fun _ _ _ _ _ st h => wpAny_pyIter_longiter st h
section
variable {X : Cx} {tg : Expr}
theorem range_itW {pins : List (Addr × Obj)} {σ : L2.St} {H : Hp} {s : Shared} {R : It → Hp → Prop} {E : Value → Shared → Prop} {lo hi : Int} {t u v : Tok} {tk : Nat} (I : Inv X pins σ H s)
    (q : R (Itr lo (hi - lo).toNat) H) : wpAny (model X.prog X.w) X.A (pyIter (.ref s.heap.objs.size)) (PIE X pins σ tg R) E { s with heap := s.heap.push { cls := .type "range", data := .fields #[.int lo t, .int hi u, .int 1 v] }, toks := tk } := by
  have I1 : Inv X pins σ H { s with heap := s.heap.push { cls := .type "range", data := .fields #[.int lo t, .int hi u, .int 1 v] }, toks := tk } := I.kept fun b o e => Heap.get?_push_of_some _ e
  have e1 : lo + ((0 : Nat) : Int) * 1 = lo := by simp
  have e2 : (((hi - lo).toNat : Nat) : Int) - ((0 : Nat) : Int) = Builtin.Range.rangeSize lo hi 1 := by rw [rangeSize_one]; split <;> omega
  have e3 : ∀ b, b ∈ [(s.heap.push { cls := .type "range", data := .fields #[.int lo t, .int hi u, .int 1 v] }).objs.size] → b = (s.heap.push { cls := .type "range", data := .fields #[.int lo t, .int hi u, .int 1 v] }).objs.size := fun b hb => by simpa using hb
  cases sm : Builtin.Range.small lo hi 1 with
  | true =>
    refine wpAny_pyIter_range (IsRange.new ..) sm ?_
    refine ⟨(s.heap.push { cls := .type "range", data := .fields #[.int lo t, .int hi u, .int 1 v] }).objs.size, [(s.heap.push { cls := .type "range", data := .fields #[.int lo t, .int hi u, .int 1 v] }).objs.size], _, _, H, rfl,
      I1.kept (t' := tk) fun b o e => Heap.get?_push_of_some _ e, turn_range _ lo (hi - lo).toNat, ?_, fun b hb => ?_, q⟩
    · show IsRangeIter _ _ (lo + ((0 : Nat) : Int) * 1) ((((hi - lo).toNat : Nat) : Int) - ((0 : Nat) : Int)) 1
      rw [e1, e2]
      exact Heap.get?_push_size _ rfl
    · have e := e3 b hb
      subst e
      exact I1.fpOk (Nat.le_refl _) (I1.hok.fresh (Nat.le_refl _))
  | false =>
    refine wpAny_pyIter_longrange (IsRange.new ..) sm ?_
    refine ⟨(s.heap.push { cls := .type "range", data := .fields #[.int lo t, .int hi u, .int 1 v] }).objs.size, [(s.heap.push { cls := .type "range", data := .fields #[.int lo t, .int hi u, .int 1 v] }).objs.size], _, _, H, rfl,
      I1.kept (t' := tk) fun b o e => Heap.get?_push_of_some _ e, turn_longrange _ lo (hi - lo).toNat, ?_, fun b hb => ?_, q⟩
    · show IsLongIter _ _ (lo + ((0 : Nat) : Int) * 1) ((((hi - lo).toNat : Nat) : Int) - ((0 : Nat) : Int)) 1
      rw [e1, e2]
      exact Heap.get?_push_size _ rfl
    · have e := e3 b hb
      subst e
      exact I1.fpOk (Nat.le_refl _) (I1.hok.fresh (Nat.le_refl _))
def iRngW1 (ta : TA) : TI := fun σ H R => ta σ H fun vs H1 => ∃ j : Int, vs = [.int j] ∧ R (Itr 0 j.toNat) H1
def iRngW2 (ta : TA) : TI := fun σ H R => ta σ H fun vs H1 => ∃ i j : Int, vs = [.int i, .int j] ∧ R (Itr i (j - i).toNat) H1
theorem pi_rangeW1 {a : Expr} {ta : TA} {p pos : Pos} (hg : Gl X "range") (hm : X.mg "range" = none) (ha : PA X [a] ta) (hs : starEach [a] X.env = [(false, eval a X.env)] := by rfl) : PI X tg (.Call (.Name "range" p) [a] [] pos) (iRngW1 ta) := by
  refine ⟨fun pins s σ H R I h => ?_⟩
  refine Call_ (ld_blt I hg hm boot_range (PyProof.Rows.callWith_type1 (thn (ha.run pos pins s σ H _ I h) fun us s1 ⟨vs, H1, I1, r1, q1⟩ => ?_) hs rfl))
  obtain ⟨j, e, q⟩ := q1
  subst e
  cases r1 with
  | cons r rr =>
    cases rr
    obtain ⟨t, rfl⟩ := r
    exact call_range_1 (range_itW I1 (by simpa using q))
theorem pi_rangeW2 {a b : Expr} {ta : TA} {p pos : Pos} (hg : Gl X "range") (hm : X.mg "range" = none) (ha : PA X [a, b] ta) (hs : starEach [a, b] X.env = [(false, eval a X.env), (false, eval b X.env)] := by rfl) (hs2 : starEach [b] X.env = [(false, eval b X.env)] := by rfl) :
    PI X tg (.Call (.Name "range" p) [a, b] [] pos) (iRngW2 ta) := by
  refine ⟨fun pins s σ H R I h => ?_⟩
  refine Call_ (ld_blt I hg hm boot_range (PyProof.Rows.callWith_type1 (thn (ha.run pos pins s σ H _ I h) fun us s1 ⟨vs, H1, I1, r1, q1⟩ => ?_) (by rw [hs, hs2]) (by rw [hs2]; rfl)))
  obtain ⟨i, j, e, q⟩ := q1
  subst e
  cases r1 with
  | cons r rr =>
    cases rr with
    | cons r' rr =>
      cases rr
      obtain ⟨t, rfl⟩ := r
      obtain ⟨t', rfl⟩ := r'
      exact call_range_2 (range_itW I1 q)
end
def itW1 (f : M RV) : M (List D) := M.bind f fun r => fun e => match rdat e r with
  | some (.int j) => .ok (rangeD 0 j.toNat) e
  | _ => .bad
def itW2 (f g : M RV) : M (List D) := M.bind f fun r => M.bind g fun r' => fun e => match rdat e r, rdat e r' with
  | some (.int i), some (.int j) => .ok (rangeD i (j - i).toNat) e
  | _, _ => .bad
section
variable {X : Cx} {W : WX} {a b tg : Expr} {f g : M RV} {pos p : Pos}
theorem di_rangeW1 (hg : Gl X "range") (hm : X.mg "range" = none) (ha : DE X W a f) (hs : starEach [a] X.env = [(false, eval a X.env)] := by rfl) (hs' : starEach [a] X.env = (false, eval a X.env) :: starEach [] X.env := by rfl) :
    DI X W tg (.Call (.Name "range" p) [a] [] pos) (itW1 f) := piW (pi_rangeW1 hg hm (pa_cons ha pa_nil hs') hs) fun σ H Q ⟨e, F, R, h⟩ => by
  refine ⟨e, F, R, ?_⟩
  unfold itW1 M.bind at h
  cases w : f e with
  | bad => rw [w] at h; exact h.elim
  | ex x e' => rw [w] at h; exact h
  | ok r e1 =>
    rw [w] at h
    dsimp only at h
    intro x F1 H1 s1 R1 q1
    split at h
    · rename_i ds e2 w2
      split at w2
      · rename_i j wj
        cases w2
        exact ⟨j, congrArg (· :: []) (R1.rd q1 wj), h _ F1 H1 s1 R1 (walkD_range 0 j.toNat)⟩
      · cases w2
    · rename_i x e2 w2
      split at w2 <;> cases w2
    · exact h.elim
theorem di_rangeW2 (hg : Gl X "range") (hm : X.mg "range" = none) (ha : DE X W a f) (hb : DE X W b g) (hs : starEach [a, b] X.env = [(false, eval a X.env), (false, eval b X.env)] := by rfl) (hs2 : starEach [b] X.env = [(false, eval b X.env)] := by rfl)
    (he : starEach [a, b] X.env = (false, eval a X.env) :: starEach [b] X.env := by rfl) (he2 : starEach [b] X.env = (false, eval b X.env) :: starEach [] X.env := by rfl) :
    DI X W tg (.Call (.Name "range" p) [a, b] [] pos) (itW2 f g) := piW (pi_rangeW2 hg hm (pa_cons ha (pa_cons hb pa_nil he2) he) hs hs2) fun σ H Q ⟨e, F, R, h⟩ => by
  refine ⟨e, F, R, ?_⟩
  unfold itW2 M.bind at h
  cases w : f e with
  | bad => rw [w] at h; exact h.elim
  | ex x e' => rw [w] at h; exact h
  | ok r e1 =>
    rw [w] at h
    dsimp only at h
    intro x F1 H1 s1 R1 q1
    refine ⟨e1, F1, R1, ?_⟩
    cases w' : g e1 with
    | bad => rw [w'] at h; exact h.elim
    | ex x e' => rw [w'] at h; exact fun cls d F' H' s q z => h cls d F' H' (s1.trans s) q z
    | ok r' e2 =>
      rw [w'] at h
      dsimp only at h
      intro y F2 H2 s2 R2 q2
      have q1 := q1.step s2
      split at h
      · rename_i ds e3 w2
        split at w2
        · rename_i i j wi wj
          cases w2
          have e1 := R2.rd q1 wi
          have e2 := R2.rd q2 wj
          exact ⟨i, j, by rw [e1, e2], h _ F2 H2 (s1.trans s2) R2 (walkD_range i (j - i).toNat)⟩
        · cases w2
      · rename_i x e3 w2
        split at w2 <;> cases w2
      · exact h.elim
end
end Y

set_option Elab.async false
set_option linter.all false
set_option maxRecDepth 100000
set_option maxHeartbeats 1000000
namespace Y
open PySem L2
set_option autoImplicit false
/-! ### equality of plain data, told over D -/
mutual
def okD : D → Bool
  | .non => true
  | .bl _ => true
  | .int _ => true
  | .str x => PyData.strOk x
  | .lst xs => okDs xs
  | .tup xs => okDs xs
  | .ins _ _ => false
  | .raw _ => false
def okDs : List D → Bool
  | [] => true
  | x :: xs => okD x && okDs xs
end
mutual
def dpD : D → Nat
  | .lst xs => dpDs xs + 1
  | .tup xs => dpDs xs + 1
  | .non => 0
  | .bl _ => 0
  | .int _ => 0
  | .str _ => 0
  | .ins _ _ => 0
  | .raw _ => 0
def dpDs : List D → Nat
  | [] => 0
  | x :: xs => max (dpD x) (dpDs xs)
end
mutual
def eqd : D → D → Bool
  | .non, .non => true
  | .bl a, .bl b => a == b
  | .bl a, .int j => (if a then 1 else 0) == j
  | .int i, .bl b => i == (if b then 1 else 0)
  | .int i, .int j => decide (i = j)
  | .str x, .str y => x == y
  | .lst xs, .lst ys => eqds xs ys
  | .tup xs, .tup ys => eqds xs ys
  | _, _ => false
def eqds : List D → List D → Bool
  | [], [] => true
  | x :: xs, y :: ys => eqd x y && eqds xs ys
  | [], _ :: _ => false
  | _ :: _, [] => false
end
mutual
theorem okD_py : ∀ (d : D), okD d = true → ∃ p, toPy d = some p ∧ PyData.canLay0 p = true ∧ PyData.depth p = dpD d
  | .non, _ => ⟨_, rfl, by simp [PyData.canLay0], by simp [PyData.depth, dpD]⟩
  | .bl _, _ => ⟨_, rfl, by simp [PyData.canLay0], by simp [PyData.depth, dpD]⟩
  | .int _, _ => ⟨_, rfl, by simp [PyData.canLay0], by simp [PyData.depth, dpD]⟩
  | .str x, h => ⟨_, rfl, by simp only [PyData.canLay0]; simpa [okD] using h, by simp [PyData.depth, dpD]⟩
  | .lst xs, h => by
    obtain ⟨ps, h1, h2, h3⟩ := okDs_py xs (by simpa [okD] using h)
    exact ⟨.list ps, by unfold toPy; rw [h1]; rfl, by simpa [PyData.canLay0] using h2, by simp [PyData.depth, dpD, h3]⟩
  | .tup xs, h => by
    obtain ⟨ps, h1, h2, h3⟩ := okDs_py xs (by simpa [okD] using h)
    exact ⟨.tuple ps, by unfold toPy; rw [h1]; rfl, by simpa [PyData.canLay0] using h2, by simp [PyData.depth, dpD, h3]⟩
  | .ins _ _, h => by simp [okD] at h
  | .raw _, h => by simp [okD] at h
theorem okDs_py : ∀ (ds : List D), okDs ds = true → ∃ ps, toPys ds = some ps ∧ PyData.canLayAll0 ps = true ∧ PyData.depthAll ps = dpDs ds
  | [], _ => ⟨[], rfl, by simp [PyData.canLayAll0], by simp [PyData.depthAll, dpDs]⟩
  | d :: ds, h => by
    simp only [okDs, Bool.and_eq_true] at h
    obtain ⟨p, h1, h2, h3⟩ := okD_py d h.1
    obtain ⟨ps, g1, g2, g3⟩ := okDs_py ds h.2
    exact ⟨p :: ps, by unfold toPys; rw [h1, g1], by simp [PyData.canLayAll0, h2, g2], by simp [PyData.depthAll, dpDs, h3, g3]⟩
end
mutual
theorem eqd_py : ∀ (a b : D) (p q : PyData), toPy a = some p → toPy b = some q → PyData.eqv p q = eqd a b
  | a, b, p, q, ha, hb => by
    cases a <;> cases b <;> simp only [toPy, Option.map_eq_some_iff, Option.some.injEq, reduceCtorEq] at ha hb
    all_goals (try obtain ⟨ps, e1, rfl⟩ := ha)
    all_goals (try obtain ⟨qs, e2, rfl⟩ := hb)
    all_goals (try subst ha)
    all_goals (try subst hb)
    all_goals (try simp only [PyData.eqv, eqd])
    all_goals (try rfl)
    · exact eqds_py _ _ _ _ e1 e2
    · exact eqds_py _ _ _ _ e1 e2
theorem eqds_py : ∀ (a b : List D) (p q : List PyData), toPys a = some p → toPys b = some q → PyData.eqvAll p q = eqds a b
  | [], [], p, q, ha, hb => by cases ha; cases hb; simp [PyData.eqvAll, eqds]
  | x :: xs, [], p, q, ha, hb => by
    cases hb
    unfold toPys at ha
    split at ha
    · cases ha; simp [PyData.eqvAll, eqds]
    · cases ha
  | [], y :: ys, p, q, ha, hb => by
    cases ha
    unfold toPys at hb
    split at hb
    · cases hb; simp [PyData.eqvAll, eqds]
    · cases hb
  | x :: xs, y :: ys, p, q, ha, hb => by
    unfold toPys at ha hb
    split at ha
    · rename_i a1 a2 w1 w2
      cases ha
      split at hb
      · rename_i b1 b2 z1 z2
        cases hb
        simp only [PyData.eqvAll, eqds]
        rw [eqd_py x y _ _ w1 z1, eqds_py xs ys _ _ w2 z2]
      · cases hb
    · cases ha
end
theorem eqD_of {a b : D} (ha : okD a = true) (hb : okD b = true) (da : dpD a ≤ 64) (db : dpD b ≤ 64) : eqD a b = some (eqd a b) := by
  obtain ⟨p, a1, a2, a3⟩ := okD_py a ha
  obtain ⟨q, b1, b2, b3⟩ := okD_py b hb
  unfold eqD
  rw [a1, b1]
  dsimp only
  rw [if_pos ⟨by simp [SeqAt.shaped, a2, a3, da], by simp [SeqAt.shaped, b2, b3, db]⟩, eqd_py a b p q a1 b1]
theorem any_py (a : D) (p : PyData) (hp : toPy a = some p) : ∀ (xs : List D) (qs : List PyData), toPys xs = some qs → (qs.any fun z => PyData.eqv z p) = xs.any fun z => eqd z a
  | [], qs, h => by cases h; rfl
  | x :: xs, qs, h => by
    unfold toPys at h
    split at h
    · rename_i q qs' w1 w2
      cases h
      rw [List.any_cons, List.any_cons, eqd_py x a q p w1 hp, any_py a p hp xs qs' w2]
    · cases h
theorem inL_lst {a : D} {xs : List D} (ha : okD a = true) (hb : okDs xs = true) (da : dpD a ≤ 64) (db : dpDs xs ≤ 63) : inL a (.lst xs) = some (xs.any fun z => eqd z a) := by
  obtain ⟨p, a1, a2, a3⟩ := okD_py a ha
  obtain ⟨qs, b1, b2, b3⟩ := okDs_py xs hb
  unfold inL
  have b4 : toPy (.lst xs) = some (.list qs) := by unfold toPy; rw [b1]; rfl
  rw [a1, b4]
  dsimp only
  rw [if_pos ⟨by simp [SeqAt.shaped, a2, a3, da], by simp [SeqAt.shaped, PyData.canLay0, PyData.depth, b2, b3]; omega⟩, any_py a p a1 xs qs b1]
theorem inL_tup {a : D} {xs : List D} (ha : okD a = true) (hb : okDs xs = true) (da : dpD a ≤ 64) (db : dpDs xs ≤ 63) : inL a (.tup xs) = some (xs.any fun z => eqd z a) := by
  obtain ⟨p, a1, a2, a3⟩ := okD_py a ha
  obtain ⟨qs, b1, b2, b3⟩ := okDs_py xs hb
  unfold inL
  have b4 : toPy (.tup xs) = some (.tuple qs) := by unfold toPy; rw [b1]; rfl
  rw [a1, b4]
  dsimp only
  rw [if_pos ⟨by simp [SeqAt.shaped, a2, a3, da], by simp [SeqAt.shaped, PyData.canLay0, PyData.depth, b2, b3]; omega⟩, any_py a p a1 xs qs b1]
/-! typed lists -/
section
variable {α : Type} {f : α → D}
theorem okDs_map (h : ∀ a, okD (f a) = true) : ∀ xs : List α, okDs (xs.map f) = true
  | [] => by simp [okDs]
  | x :: xs => by simp [okDs, h x, okDs_map h xs]
theorem dpDs_map {n : Nat} (h : ∀ a, dpD (f a) ≤ n) : ∀ xs : List α, dpDs (xs.map f) ≤ n
  | [] => by simp [dpDs]
  | x :: xs => by
    have h1 := h x
    have h2 := dpDs_map h xs
    simp only [List.map_cons, dpDs]
    omega
theorem eqds_map [DecidableEq α] (h : ∀ a b, eqd (f a) (f b) = decide (a = b)) : ∀ xs ys : List α, eqds (xs.map f) (ys.map f) = decide (xs = ys)
  | [], [] => by simp [eqds]
  | x :: xs, [] => by simp [eqds]
  | [], y :: ys => by simp [eqds]
  | x :: xs, y :: ys => by
    simp only [List.map_cons, eqds, h x y, eqds_map h xs ys]
    by_cases h1 : x = y <;> by_cases h2 : xs = ys <;> simp [h1, h2]
theorem any_map [DecidableEq α] (h : ∀ a b, eqd (f a) (f b) = decide (a = b)) (x : α) : ∀ ys : List α, ((ys.map f).any fun z => eqd z (f x)) = decide (x ∈ ys)
  | [] => by simp
  | y :: ys => by
    rw [List.map_cons, List.any_cons, h y x, any_map h x ys]
    by_cases h1 : y = x
    · subst h1; simp
    · have h2 : ¬ x = y := fun z => h1 z.symm
      simp [h1, h2]
end
end Y

set_option Elab.async false
set_option linter.all false
set_option maxRecDepth 100000
set_option maxHeartbeats 4000000
namespace Y
open PySem L2
set_option autoImplicit false
/-! ### reckoning with the later words -/
@[simp] theorem v_abs (i : Int) (e : Sl) : absK (.int i) e = .ok (.val (.int (if i < 0 then -i else i))) e := id rfl
def anyC (e : Sl) (bs : List Bool) : Res RV := .ok (.val (.bl (bs.any id))) e
@[simp] theorem v_anyC (e : Sl) (bs : List Bool) : anyC e bs = .ok (.val (.bl (bs.any id))) e := id rfl
@[simp] theorem v_any (xs : List D) (e : Sl) : anyK (.lst xs) e = oB (blsOf xs) (anyC e) := by
  unfold anyK
  dsimp only
  cases blsOf xs <;> rfl
def allC (e : Sl) (bs : List Bool) : Res RV := .ok (.val (.bl (bs.all id))) e
@[simp] theorem v_allC (e : Sl) (bs : List Bool) : allC e bs = .ok (.val (.bl (bs.all id))) e := id rfl
@[simp] theorem v_all (xs : List D) (e : Sl) : allK (.lst xs) e = oB (blsOf xs) (allC e) := by
  unfold allK
  dsimp only
  cases blsOf xs <;> rfl
def maxC (e : Sl) (ns : List Int) : Res RV := gB (decide (ns ≠ [])) (.ok (.val (.int (ns.foldl max (ns.headD 0)))) e)
@[simp] theorem v_maxC (e : Sl) (ns : List Int) : maxC e ns = gB (decide (ns ≠ [])) (.ok (.val (.int (ns.foldl max (ns.headD 0)))) e) := id rfl
@[simp] theorem v_maxL (xs : List D) (e : Sl) : maxL (.lst xs) e = oB (intsOf xs) (maxC e) := by
  unfold maxL
  dsimp only
  cases intsOf xs with
  | none => rfl
  | some ns =>
    show _ = gB (decide (ns ≠ [])) _
    cases ns with
    | nil => rfl
    | cons a b => rfl
def srtC (e : Sl) (ns : List Int) : Res RV := .ok (.own (.lst ((srt ns).map D.int))) e
@[simp] theorem v_srtC (e : Sl) (ns : List Int) : srtC e ns = .ok (.own (.lst ((srt ns).map D.int))) e := id rfl
@[simp] theorem v_sorted (xs : List D) (e : Sl) : sortedK (.lst xs) e = oB (intsOf xs) (srtC e) := by
  unfold sortedK
  dsimp only
  cases intsOf xs <;> rfl
@[simp] theorem v_mulKI (i j : Int) (e : Sl) : mulK (.int i) (.int j) e = gB (decide ((-(2 ^ 64) < i ∧ i < 2 ^ 64) ∨ (-(2 ^ 64) < j ∧ j < 2 ^ 64))) (.ok (.val (.int (i * j))) e) := v_mul i j e
theorem v_mulKT (xs : List D) (k : Nat) (e : Sl) (hk : k ≤ 1000) (hx : xs.length ≤ 1000) (h1 : 1 ≤ k) : mulK (.tup xs) (.int k) e = .ok (.val (.tup (List.replicate k xs).flatten)) e := by
  unfold mulK
  dsimp only
  by_cases c : xs ≠ [] ∧ (2 : Int) ≤ k ∧ (k : Int) ≤ 1000 ∧ xs.length ≤ 1000
  · rw [if_pos c]
    rfl
  · rw [if_neg c, if_pos]
    · by_cases z : xs = []
      · subst z; simp
      · have : k = 1 := by
          have : ¬ (2 : Int) ≤ k := fun w => c ⟨z, w, by omega, hx⟩
          omega
        subst this
        simp
    · refine ⟨?_, by omega, by omega⟩
      by_cases z : xs = []
      · exact .inl z
      · refine .inr ?_
        have : ¬ (2 : Int) ≤ k := fun w => c ⟨z, w, by omega, hx⟩
        omega
@[simp] theorem v_lrK (i j : Int) (e : Sl) : lrK i j e = gB (decide ((-4611686018427387904 ≤ i ∧ i < 4611686018427387904 ∧ -4611686018427387904 ≤ j ∧ j < 4611686018427387904) ∧ (j - i).toNat ≤ 16777216)) (.ok (.own (.lst (rangeD i (j - i).toNat))) e) := gB_if _ _
def lr1d (e : Sl) : D → Res RV
  | .int n => lrK 0 n e
  | _ => .bad
@[simp] theorem v_lr1d (e : Sl) (n : Int) : lr1d e (.int n) = lrK 0 n e := id rfl
def lr1c (r : RV) (e : Sl) : Res RV := oB (rdat e r) (lr1d e)
@[simp] theorem v_lr1c (r : RV) (e : Sl) : lr1c r e = oB (rdat e r) (lr1d e) := id rfl
@[simp] theorem v_eLR1 (f : M RV) (e : Sl) : eLR1 f e = (f e).bnd lr1c := by
  unfold eLR1
  rw [v_bind]
  cases f e with
  | bad => rfl
  | ex x e' => rfl
  | ok r e' =>
    rw [bnd_ok, bnd_ok, v_lr1c]
    cases rdat e' r with
    | none => rfl
    | some d => cases d <;> rfl
def lr2k : D → D → M RV
  | .int i, .int j => lrK i j
  | _, _ => M.bad
@[simp] theorem v_lr2k (i j : Int) (e : Sl) : lr2k (.int i) (.int j) e = lrK i j e := id rfl
@[simp] theorem v_eLR2 (f g : M RV) (e : Sl) : eLR2 f g e = rd2 f g lr2k e := by
  unfold eLR2
  congr 1
def itWd (e : Sl) : D → Res (List D)
  | .int j => .ok (rangeD 0 j.toNat) e
  | _ => .bad
@[simp] theorem v_itWd (e : Sl) (j : Int) : itWd e (.int j) = .ok (rangeD 0 j.toNat) e := id rfl
def itWc (r : RV) (e : Sl) : Res (List D) := oB (rdat e r) (itWd e)
@[simp] theorem v_itWc (r : RV) (e : Sl) : itWc r e = oB (rdat e r) (itWd e) := id rfl
@[simp] theorem v_itW1 (f : M RV) (e : Sl) : itW1 f e = (f e).bnd itWc := by
  unfold itW1
  rw [v_bind]
  cases f e with
  | bad => rfl
  | ex x e' => rfl
  | ok r e' =>
    rw [bnd_ok, bnd_ok, v_itWc]
    cases rdat e' r with
    | none => rfl
    | some d => cases d <;> rfl
def itW4 (e : Sl) (i : Int) : D → Res (List D)
  | .int j => .ok (rangeD i (j - i).toNat) e
  | _ => .bad
@[simp] theorem v_itW4 (e : Sl) (i j : Int) : itW4 e i (.int j) = .ok (rangeD i (j - i).toNat) e := id rfl
def itW5 (r' : RV) (e : Sl) : D → Res (List D)
  | .int i => oB (rdat e r') (itW4 e i)
  | _ => .bad
@[simp] theorem v_itW5 (r' : RV) (e : Sl) (i : Int) : itW5 r' e (.int i) = oB (rdat e r') (itW4 e i) := id rfl
def itW6 (r r' : RV) (e : Sl) : Res (List D) := oB (rdat e r) (itW5 r' e)
@[simp] theorem v_itW6 (r r' : RV) (e : Sl) : itW6 r r' e = oB (rdat e r) (itW5 r' e) := id rfl
def itW7 (g : M RV) (r : RV) (e : Sl) : Res (List D) := (g e).bnd (itW6 r)
@[simp] theorem v_itW7 (g : M RV) (r : RV) (e : Sl) : itW7 g r e = (g e).bnd (itW6 r) := id rfl
@[simp] theorem v_itW2 (f g : M RV) (e : Sl) : itW2 f g e = (f e).bnd (itW7 g) := by
  unfold itW2
  rw [v_bind]
  cases f e with
  | bad => rfl
  | ex x e' => rfl
  | ok r e' =>
    rw [bnd_ok, bnd_ok, v_itW7, v_bind]
    cases g e' with
    | bad => rfl
    | ex x e2 => rfl
    | ok r' e2 =>
      rw [bnd_ok, bnd_ok, v_itW6]
      cases rdat e2 r with
      | none => rfl
      | some d =>
        rw [oB_some]
        cases d with
        | int i =>
          rw [v_itW5]
          cases rdat e2 r' with
          | none => rfl
          | some d' => cases d' <;> rfl
        | _ => cases rdat e2 r' <;> rfl
/-! ### what holds behind a run -/
def wp {α : Type} (r : Res α) (Q : α → Sl → Prop) : Prop := match r with
  | .ok a e => Q a e
  | _ => False
section
variable {α β : Type} {r : Res α} {k : α → Sl → Res β} {Q Q' : α → Sl → Prop} {Z : β → Sl → Prop}
@[simp] theorem wp_ok (a : α) (e : Sl) : wp (.ok a e) Q = Q a e := rfl
@[simp] theorem wp_bad : wp (.bad : Res α) Q = False := rfl
@[simp] theorem wp_ex (x : Xn) (e : Sl) : wp (.ex x e : Res α) Q = False := rfl
theorem wp_bnd : wp (r.bnd k) Z = wp r (fun a e => wp (k a e) Z) := by cases r <;> rfl
theorem wp_imp (h : wp r Q) (i : ∀ a e, Q a e → Q' a e) : wp r Q' := by
  cases r with
  | ok a e => exact i a e h
  | _ => exact h
theorem wp_get (h : wp r Q) : ∃ a e, r = .ok a e ∧ Q a e := by
  cases r with
  | ok a e => exact ⟨a, e, rfl, h⟩
  | _ => exact h.elim
theorem wp_of {a : α} {e : Sl} (h : r = .ok a e) (q : Q a e) : wp r Q := by rw [h]; exact q
theorem wp_noEx : wp (noEx r) Q = wp r Q := by cases r <;> rfl
end
def floQ (I : Sl → Prop) (Q : Flo → Sl → Prop) : Flo → Sl → Prop
  | .nx, e => I e
  | .ct, e => I e
  | .bk, e => Q .nx e
  | .rt r, e => Q (.rt r) e
@[simp] theorem floQ_nx (I : Sl → Prop) (Q : Flo → Sl → Prop) (e : Sl) : floQ I Q .nx e = I e := rfl
@[simp] theorem floQ_ct (I : Sl → Prop) (Q : Flo → Sl → Prop) (e : Sl) : floQ I Q .ct e = I e := rfl
@[simp] theorem floQ_bk (I : Sl → Prop) (Q : Flo → Sl → Prop) (e : Sl) : floQ I Q .bk e = Q .nx e := rfl
@[simp] theorem floQ_rt (I : Sl → Prop) (Q : Flo → Sl → Prop) (r : RV) (e : Sl) : floQ I Q (.rt r) e = Q (.rt r) e := rfl
def runB (b : M Flo) (_u : Unit) (e : Sl) : Res Flo := b e
@[simp] theorem v_runB (b : M Flo) (u : Unit) (e : Sl) : runB b u e = b e := id rfl
/-- a loop by its invariant: what is left to walk, and the slots -/
theorem wp_for {t : D → M Unit} {b : M Flo} {Q : Flo → Sl → Prop} (I : List D → Sl → Prop) (step : ∀ d ds e, I (d :: ds) e → wp ((noEx (t d e)).bnd (runB b)) (floQ (I ds) Q)) (fin : ∀ e, I [] e → Q .nx e) : ∀ ds e, I ds e → wp (forRun t b ds e) Q
  | [], e, h => by rw [v_forN]; exact fin e h
  | d :: ds, e, h => by
    rw [v_forC]
    have s := step d ds e h
    cases q : noEx (t d e) with
    | bad => rw [q] at s; exact s
    | ex x e' => rw [q] at s; exact s
    | ok u e' =>
      rw [q, bnd_ok, v_runB] at s
      rw [bnd_ok, v_for1, wp_bnd]
      refine wp_imp s fun fl e2 h2 => ?_
      cases fl with
      | nx => rw [v_for2n]; exact wp_for I step fin ds e2 h2
      | ct => rw [v_for2c]; exact wp_for I step fin ds e2 h2
      | bk => rw [v_for2b]; exact h2
      | rt r => rw [v_for2r]; exact h2
end Y

set_option Elab.async false
set_option linter.all false
set_option maxRecDepth 100000
set_option maxHeartbeats 4000000
namespace Y
open PySem L2
set_option autoImplicit false
/-! ### comprehensions and loops over typed lists -/
def lcS3 (vs : List Nat) (y : D) (e : Sl) : Res (Option D) := .ok (some y) (wip e vs)
@[simp] theorem v_lcS3 (vs : List Nat) (y : D) (e : Sl) : lcS3 vs y e = .ok (some y) (wip e vs) := id rfl
def lcF (r : RV) (e : Sl) : Res D := frz r e
@[simp] theorem v_lcF (r : RV) (e : Sl) : lcF r e = frz r e := id rfl
def lcS2 (f : M RV) (vs : List Nat) (c : Bool) (e : Sl) : Res (Option D) := match c with
  | true => ((f e).bnd lcF).bnd (lcS3 vs)
  | false => .ok none (wip e vs)
@[simp] theorem v_lcS2t (f : M RV) (vs : List Nat) (e : Sl) : lcS2 f vs true e = ((f e).bnd lcF).bnd (lcS3 vs) := id rfl
@[simp] theorem v_lcS2f (f : M RV) (vs : List Nat) (e : Sl) : lcS2 f vs false e = .ok none (wip e vs) := id rfl
def lcS1 (p : M Bool) (f : M RV) (vs : List Nat) (_u : Unit) (e : Sl) : Res (Option D) := (p e).bnd (lcS2 f vs)
@[simp] theorem v_lcS1 (p : M Bool) (f : M RV) (vs : List Nat) (u : Unit) (e : Sl) : lcS1 p f vs u e = (p e).bnd (lcS2 f vs) := id rfl
def lcStep (t : D → M Unit) (p : M Bool) (f : M RV) (vs : List Nat) (d : D) (e : Sl) : Res (Option D) := (t d e).bnd (lcS1 p f vs)
@[simp] theorem v_lcStep (t : D → M Unit) (p : M Bool) (f : M RV) (vs : List Nat) (d : D) (e : Sl) : lcStep t p f vs d e = (t d e).bnd (lcS1 p f vs) := id rfl
section
variable {α : Type} {enc : α → D} {t : D → M Unit} {p : M Bool} {f : M RV} {vs : List Nat} {e : Sl}
theorem lc_step {d : D} {e' : Sl} {o : Option D} {r acc : List D} (hl : acc.length < sizeLine) (h : lcStep t p f vs d e = .ok o e') : lcRun t p f vs (d :: r) acc e = lcRun t p f vs r (acc ++ o.toList) e' := by
  rw [v_lcStep] at h
  cases h1 : t d e with
  | bad => rw [h1] at h; cases h
  | ex x e1 => rw [h1] at h; cases h
  | ok u e1 =>
    rw [h1, bnd_ok, v_lcS1] at h
    cases h2 : p e1 with
    | bad => rw [h2] at h; cases h
    | ex x e2 => rw [h2] at h; cases h
    | ok c e2 =>
      rw [h2, bnd_ok] at h
      cases c with
      | false =>
        rw [v_lcS2f] at h
        cases h
        rw [lc_skip h1 h2, Option.toList_none, List.append_nil]
      | true =>
        rw [v_lcS2t] at h
        cases h3 : (f e2).bnd lcF with
        | bad => rw [h3] at h; cases h
        | ex x e3 => rw [h3] at h; cases h
        | ok y e3 =>
          rw [h3, bnd_ok, v_lcS3] at h
          cases h
          rw [lc_keep h1 h2 h3 hl]
          rfl
theorem lc_opt (r : α → Option D) : ∀ (xs : List α) (acc : List D), acc.length + xs.length ≤ 10000 → (∀ a ∈ xs, lcStep t p f vs (enc a) e = .ok (r a) e) → lcRun t p f vs (xs.map enc) acc e = .ok (acc ++ xs.filterMap r) e
  | [], acc, _, _ => by rw [List.map_nil, v_lcN, List.filterMap_nil, List.append_nil]
  | a :: xs, acc, hl, h => by
    rw [List.length_cons] at hl
    rw [List.map_cons, lc_step (small_line (by omega)) (h a List.mem_cons_self), lc_opt r xs _ (by
      rw [List.length_append]
      have : (r a).toList.length ≤ 1 := by cases r a <;> simp
      omega) fun b hb => h b (List.mem_cons_of_mem _ hb), List.append_assoc]
    congr 2
    cases q : r a with
    | none => rw [List.filterMap_cons_none q]; rfl
    | some y => rw [List.filterMap_cons_some q]; rfl
/-- [g a for a in xs] -/
theorem lc_map (g : α → D) (xs : List α) (hl : xs.length ≤ 10000) (h : ∀ a ∈ xs, lcStep t p f vs (enc a) e = .ok (some (g a)) e) : lcRun t p f vs (xs.map enc) [] e = .ok (xs.map g) e := by
  rw [lc_opt (fun a => some (g a)) xs [] (by simpa using hl) h, List.nil_append]
  congr 1
  clear hl h
  induction xs with
  | nil => rfl
  | cons a r ih => rw [List.filterMap_cons, ih]; rfl
/-- [g a for a in xs if q a] -/
theorem lc_filter (q : α → Bool) (g : α → D) (xs : List α) (hl : xs.length ≤ 10000) (h : ∀ a ∈ xs, lcStep t p f vs (enc a) e = .ok (if q a then some (g a) else none) e) : lcRun t p f vs (xs.map enc) [] e = .ok ((xs.filter q).map g) e := by
  rw [lc_opt (fun a => if q a then some (g a) else none) xs [] (by simpa using hl) h, List.nil_append]
  congr 1
  clear hl h
  induction xs with
  | nil => rfl
  | cons a r ih =>
    cases w : q a with
    | true => rw [List.filterMap_cons_some (by rw [w]; rfl), List.filter_cons_of_pos w, ih]; rfl
    | false => rw [List.filterMap_cons_none (by rw [w]; rfl), List.filter_cons_of_neg (by simp [w]), ih]
end
section
variable {α σ : Type} {ea : α → D} {t : D → M Unit} {b : M Flo}
theorem for_step {d : D} {ds : List D} {e e' : Sl} (h : (noEx (t d e)).bnd (runB b) = .ok .nx e') : forRun t b (d :: ds) e = forRun t b ds e' := by
  rw [v_forC]
  cases q : noEx (t d e) with
  | bad => rw [q] at h; cases h
  | ex x e1 => rw [q] at h; cases h
  | ok u e1 =>
    rw [q, bnd_ok, v_runB] at h
    rw [bnd_ok, v_for1, h, bnd_ok, v_for2n]
theorem for_stepC {d : D} {ds : List D} {e e' : Sl} (h : (noEx (t d e)).bnd (runB b) = .ok .ct e') : forRun t b (d :: ds) e = forRun t b ds e' := by
  rw [v_forC]
  cases q : noEx (t d e) with
  | bad => rw [q] at h; cases h
  | ex x e1 => rw [q] at h; cases h
  | ok u e1 =>
    rw [q, bnd_ok, v_runB] at h
    rw [bnd_ok, v_for1, h, bnd_ok, v_for2c]
theorem for_ret {d : D} {ds : List D} {e e' : Sl} {r : RV} (h : (noEx (t d e)).bnd (runB b) = .ok (.rt r) e') : forRun t b (d :: ds) e = .ok (.rt r) e' := by
  rw [v_forC]
  cases q : noEx (t d e) with
  | bad => rw [q] at h; cases h
  | ex x e1 => rw [q] at h; cases h
  | ok u e1 =>
    rw [q, bnd_ok, v_runB] at h
    rw [bnd_ok, v_for1, h, bnd_ok, v_for2r]
/-- a loop that changes a state -/
theorem for_fold (E : σ → Sl) (f : σ → α → σ) : ∀ (xs : List α) (s : σ), (∀ s a, a ∈ xs → (noEx (t (ea a) (E s))).bnd (runB b) = .ok .nx (E (f s a))) → forRun t b (xs.map ea) (E s) = .ok .nx (E (xs.foldl f s))
  | [], s, _ => by rw [List.map_nil, v_forN]; rfl
  | a :: xs, s, h => by
    rw [List.map_cons, for_step (h s a List.mem_cons_self), for_fold E f xs _ fun s b hb => h s b (List.mem_cons_of_mem _ hb)]
    rfl
def fndF {α : Type} (R : α → RV) : Option α → Flo
  | some a => .rt (R a)
  | none => .nx
@[simp] theorem fndF_s {α : Type} (R : α → RV) (a : α) : fndF R (some a) = .rt (R a) := id rfl
@[simp] theorem fndF_n {α : Type} (R : α → RV) : fndF R none = .nx := id rfl
/-- a loop that looks for something -/
theorem for_find (E : Slot → Sl) (P : α → Bool) (R : α → RV) : ∀ (xs : List α) (s : Slot), stoS (some s) = true → (∀ s a, a ∈ xs → stoS (some s) = true → (noEx (t (ea a) (E s))).bnd (runB b) = .ok (if P a then .rt (R a) else .nx) (E (.val (ea a)))) →
    ∃ s', stoS (some s') = true ∧ forRun t b (xs.map ea) (E s) = .ok (fndF R (xs.find? P)) (E s')
  | [], s, hs, _ => ⟨s, hs, by rw [List.map_nil, v_forN]; rfl⟩
  | a :: xs, s, hs, h => by
    have h1 := h s a List.mem_cons_self hs
    cases q : P a with
    | true =>
      rw [q] at h1
      refine ⟨.val (ea a), rfl, ?_⟩
      rw [List.map_cons, for_ret h1, List.find?_cons_of_pos q, fndF_s]
    | false =>
      rw [q] at h1
      obtain ⟨s', hs', e⟩ := for_find E P R xs (.val (ea a)) rfl fun s b hb => h s b (List.mem_cons_of_mem _ hb)
      refine ⟨s', hs', ?_⟩
      rw [List.map_cons, for_step h1, List.find?_cons_of_neg (by simp [q]), e]
end
end Y

set_option Elab.async false
set_option linter.all false
namespace Lw
/-- a slot's plan -/
def pl (cyc : List Bool) (s : Nat) : Bool := cyc.getD (s % cyc.length) false
def wk (cyc : List Bool) (chg : List (Nat × Bool)) (s : Nat) : Bool := match chg.find? (fun p => p.1 == s) with
  | some p => p.2
  | none => pl cyc s
def cnt (f : Nat → Bool) : Nat → Nat
  | 0 => 0
  | n + 1 => cnt f n + (f n).toNat
def sumB (bs : List Bool) : Nat := (bs.map Bool.toNat).sum
theorem cnt_le (f : Nat → Bool) : ∀ n, cnt f n ≤ n
  | 0 => Nat.le_refl _
  | n + 1 => by
    have := cnt_le f n
    have : (f n).toNat ≤ 1 := Bool.toNat_le _
    show cnt f n + (f n).toNat ≤ _
    omega
theorem cnt_mono (f : Nat → Bool) {m n : Nat} (h : m ≤ n) : cnt f m ≤ cnt f n := by
  induction n with
  | zero => rw [Nat.le_zero.mp h]; exact Nat.le_refl _
  | succ n ih =>
    rcases Nat.lt_or_ge m (n + 1) with z | z
    · have := ih (by omega)
      show _ ≤ cnt f n + (f n).toNat
      omega
    · rw [show m = n + 1 by omega]; exact Nat.le_refl _
theorem sumB_take (bs : List Bool) (r : Nat) (h : r < bs.length) : sumB (bs.take (r + 1)) = sumB (bs.take r) + (bs.getD r false).toNat := by
  unfold sumB
  rw [List.take_add_one, List.map_append, List.sum_append, List.getElem?_eq_getElem h, List.getD_eq_getElem?_getD, List.getElem?_eq_getElem h]
  simp
theorem cnt_pl (cyc : List Bool) (h : 0 < cyc.length) : ∀ n, cnt (pl cyc) n = (n / cyc.length) * sumB cyc + sumB (cyc.take (n % cyc.length))
  | 0 => by simp [cnt, sumB]
  | n + 1 => by
    have ih := cnt_pl cyc h n
    show cnt (pl cyc) n + (pl cyc n).toNat = _
    rw [ih]
    have hr := Nat.mod_lt n h
    have hd := Nat.div_add_mod n cyc.length
    unfold pl
    rcases Nat.lt_or_ge (n % cyc.length + 1) cyc.length with z | z
    · have e1 : (n + 1) % cyc.length = n % cyc.length + 1 := by
        rw [← Nat.mod_add_mod]; exact Nat.mod_eq_of_lt z
      have e2 : (n + 1) / cyc.length = n / cyc.length := by
        have hd' := Nat.div_add_mod (n + 1) cyc.length
        rw [e1] at hd'
        have : cyc.length * ((n + 1) / cyc.length) = cyc.length * (n / cyc.length) := by omega
        exact Nat.eq_of_mul_eq_mul_left h this
      rw [e1, e2, sumB_take _ _ hr]
      omega
    · have e0 : n % cyc.length + 1 = cyc.length := by omega
      have e1 : (n + 1) % cyc.length = 0 := by
        rw [← Nat.mod_add_mod, e0, Nat.mod_self]
      have e2 : (n + 1) / cyc.length = n / cyc.length + 1 := by
        have hd' := Nat.div_add_mod (n + 1) cyc.length
        rw [e1] at hd'
        have : cyc.length * ((n + 1) / cyc.length) = cyc.length * (n / cyc.length + 1) := by rw [Nat.mul_add]; omega
        exact Nat.eq_of_mul_eq_mul_left h this
      have e3 := sumB_take cyc (n % cyc.length) hr
      rw [e0, List.take_length] at e3
      rw [e1, e2, Nat.add_mul, e3]
      simp [sumB]
      omega
theorem cnt_upd (f : Nat → Bool) (x : Nat) (b : Bool) : ∀ n, cnt (fun s => if s = x then b else f s) n + (if x < n then (f x).toNat else 0) = cnt f n + (if x < n then b.toNat else 0)
  | 0 => rfl
  | n + 1 => by
    have ih := cnt_upd f x b n
    show cnt _ n + (if n = x then b else f n).toNat + _ = cnt f n + (f n).toNat + _
    by_cases z : n = x
    · subst z
      rw [if_neg (Nat.lt_irrefl _), if_neg (Nat.lt_irrefl _)] at ih
      rw [if_pos rfl, if_pos (by omega), if_pos (by omega)]
      omega
    · rw [if_neg z]
      by_cases w : x < n
      · rw [if_pos w, if_pos w] at ih
        rw [if_pos (by omega), if_pos (by omega)]
        omega
      · rw [if_neg w, if_neg w] at ih
        rw [if_neg (by omega), if_neg (by omega)]
        omega
theorem wk_nil (cyc : List Bool) : wk cyc [] = pl cyc := rfl
theorem wk_old (cyc : List Bool) (pre : List (Nat × Bool)) (x : Nat) (h : ∀ y ∈ pre.map Prod.fst, y < x) : wk cyc pre x = pl cyc x := by
  unfold wk
  rw [List.find?_eq_none.mpr fun p hp => by
    have := h p.1 (List.mem_map.mpr ⟨p, hp, rfl⟩)
    simp
    omega]
theorem wk_snoc (cyc : List Bool) (pre : List (Nat × Bool)) (x : Nat) (b : Bool) (h : ∀ y ∈ pre.map Prod.fst, y < x) : wk cyc (pre ++ [(x, b)]) = fun s => if s = x then b else wk cyc pre s := by
  funext s
  by_cases z : s = x
  · subst z
    rw [if_pos rfl]
    unfold wk
    rw [List.find?_append, List.find?_eq_none.mpr fun p hp => by
      have := h p.1 (List.mem_map.mpr ⟨p, hp, rfl⟩)
      simp
      omega]
    simp
  · rw [if_neg z]
    unfold wk
    rw [List.find?_append]
    have : List.find? (fun p : Nat × Bool => p.1 == s) [(x, b)] = none := by simp; omega
    rw [this, Option.or_none]
theorem cnt_snoc (cyc : List Bool) (pre : List (Nat × Bool)) (x : Nat) (b : Bool) (h : ∀ y ∈ pre.map Prod.fst, y < x) (n : Nat) :
    cnt (wk cyc (pre ++ [(x, b)])) n + (if x < n then (pl cyc x).toNat else 0) = cnt (wk cyc pre) n + (if x < n then b.toNat else 0) := by
  rw [wk_snoc cyc pre x b h, ← wk_old cyc pre x h]
  exact cnt_upd _ _ _ _
/-- changes shift a count by no more than their number -/
theorem cnt_near (cyc : List Bool) (n : Nat) : ∀ (rest pre : List (Nat × Bool)), ((pre ++ rest).map Prod.fst).Pairwise (· < ·) →
    cnt (wk cyc (pre ++ rest)) n ≤ cnt (wk cyc pre) n + rest.length ∧ cnt (wk cyc pre) n ≤ cnt (wk cyc (pre ++ rest)) n + rest.length
  | [], pre, _ => by simp
  | (x, b) :: r, pre, h => by
    have e : pre ++ (x, b) :: r = (pre ++ [(x, b)]) ++ r := by simp
    rw [e] at h ⊢
    have ih := cnt_near cyc n r (pre ++ [(x, b)]) h
    have hx : ∀ y ∈ pre.map Prod.fst, y < x := fun y hy => by
      rw [List.map_append, List.map_append, List.pairwise_append, List.pairwise_append] at h
      exact h.1.2.2 y hy x (by simp)
    have c := cnt_snoc cyc pre x b hx n
    have b1 : b.toNat ≤ 1 := Bool.toNat_le _
    have b2 : (pl cyc x).toNat ≤ 1 := Bool.toNat_le _
    rw [List.length_cons]
    split at c <;> omega
theorem sumB_pos (bs : List Bool) (h : true ∈ bs) : 0 < sumB bs := by
  unfold sumB
  induction bs with
  | nil => cases h
  | cons b r ih =>
    rw [List.map_cons, List.sum_cons]
    rcases List.mem_cons.mp h with z | z
    · subst z; simp; omega
    · have := ih z; omega
theorem sumB_le (bs : List Bool) : sumB bs ≤ bs.length := by
  unfold sumB
  induction bs with
  | nil => exact Nat.le_refl _
  | cons b r ih =>
    have : b.toNat ≤ 1 := Bool.toNat_le _
    rw [List.map_cons, List.sum_cons, List.length_cons]
    omega
/-- the first end at which so many slots have worked -/
def Least (f : Nat → Bool) (many h : Nat) : Prop := many ≤ cnt f h ∧ ∀ t, t < h → cnt f t < many
theorem Least.uniq {f : Nat → Bool} {m h k : Nat} (a : Least f m h) (b : Least f m k) : h = k := by
  rcases Nat.lt_trichotomy h k with z | z | z
  · have := b.2 h z; have := a.1; omega
  · exact z
  · have := a.2 k z; have := b.1; omega
end Lw

set_option Elab.async false
set_option linter.all false
namespace Lw
def W (f : Nat → Bool) (n : Nat) : List Nat := (List.range n).filter f
theorem W_succ (f : Nat → Bool) (n : Nat) : W f (n + 1) = W f n ++ (if f n then [n] else []) := by
  unfold W
  rw [List.range_succ, List.filter_append]
  congr 1
  cases h : f n <;> simp [h]
theorem W_len (f : Nat → Bool) : ∀ n, (W f n).length = cnt f n
  | 0 => rfl
  | n + 1 => by
    rw [W_succ, List.length_append, W_len f n]
    show _ = cnt f n + (f n).toNat
    cases f n <;> rfl
theorem W_mem {f : Nat → Bool} {n s : Nat} (h : s ∈ W f n) : s < n ∧ f s = true := by
  unfold W at h
  rw [List.mem_filter, List.mem_range] at h
  exact h
theorem W_at (f : Nat → Bool) (s : Nat) (hs : f s = true) : ∀ n, s < n → (W f n)[cnt f s]? = some s
  | 0, h => by omega
  | n + 1, h => by
    rw [W_succ]
    rcases Nat.lt_or_ge s n with z | z
    · have := W_at f s hs n z
      have hl : cnt f s < (W f n).length := by
        rcases Nat.lt_or_ge (cnt f s) (W f n).length with w | w
        · exact w
        · rw [List.getElem?_eq_none w] at this; cases this
      rw [List.getElem?_append_left hl, this]
    · have e : s = n := by omega
      subst e
      rw [List.getElem?_append_right (by rw [W_len]; exact Nat.le_refl _), W_len, Nat.sub_self, hs]
      rfl
theorem W_lt (f : Nat → Bool) (a : Nat) : ∀ n, a ≤ n → (W f n).filter (fun s => decide (s < a)) = W f a
  | 0, h => by rw [show a = 0 by omega]; rfl
  | n + 1, h => by
    rcases Nat.lt_or_ge a (n + 1) with z | z
    · rw [W_succ, List.filter_append, W_lt f a n (by omega)]
      have : List.filter (fun s => decide (s < a)) (if f n then [n] else []) = [] := by
        cases f n
        · rfl
        · simp; omega
      rw [this, List.append_nil]
    · rw [show a = n + 1 by omega]
      refine List.filter_eq_self.mpr fun s hs => ?_
      have := (W_mem hs).1
      simp
      omega
theorem W_ge (f : Nat → Bool) (a : Nat) : ∀ n, a ≤ n → (W f n).filter (fun s => decide (a ≤ s)) = (W f n).drop (cnt f a)
  | 0, h => by rw [show a = 0 by omega]; rfl
  | n + 1, h => by
    rcases Nat.lt_or_ge a (n + 1) with z | z
    · rw [W_succ, List.filter_append, W_ge f a n (by omega), List.drop_append_of_le_length (by rw [W_len]; exact cnt_mono f (by omega))]
      congr 1
      cases f n
      · rfl
      · simp; omega
    · rw [show a = n + 1 by omega, List.drop_eq_nil_of_le (by rw [W_len]; exact Nat.le_refl _)]
      refine List.filter_eq_nil_iff.mpr fun s hs => ?_
      have := (W_mem hs).1
      simp
      omega
/-- what the first such end says of the slot ahead of it -/
theorem Least.step {f : Nat → Bool} {m h : Nat} (a : Least f m h) (hm : 0 < m) : ∃ s, h = s + 1 ∧ f s = true ∧ cnt f s = m - 1 := by
  cases h with
  | zero => have := a.1; simp [cnt] at this; omega
  | succ s =>
    refine ⟨s, rfl, ?_⟩
    have h1 : m ≤ cnt f s + (f s).toNat := a.1
    have h2 := a.2 s (by omega)
    cases hf : f s with
    | false => rw [hf] at h1; simp at h1; omega
    | true => rw [hf] at h1; simp at h1; exact ⟨rfl, by omega⟩
theorem Least.le {f : Nat → Bool} {m h n : Nat} (a : Least f m h) (hn : m ≤ cnt f n) : h ≤ n := by
  rcases Nat.lt_or_ge n h with z | z
  · have := a.2 n z; omega
  · exact z
theorem pl_add (cyc : List Bool) (h : 0 < cyc.length) (n : Nat) : ∀ k, cnt (pl cyc) (n + cyc.length * k) = cnt (pl cyc) n + k * sumB cyc
  | 0 => by simp
  | k + 1 => by
    have ih := pl_add cyc h n k
    rw [cnt_pl cyc h] at ih ⊢
    rw [Nat.mul_add, Nat.mul_one, ← Nat.add_assoc, Nat.add_mod_right, Nat.add_div_right _ h]
    rw [Nat.succ_mul]
    rw [Nat.succ_mul]
    omega
theorem far_pl (cyc : List Bool) (chg : List (Nat × Bool)) (t : Nat) (h : ∀ y ∈ chg.map Prod.fst, y < t) : ∀ k, cnt (wk cyc chg) (t + k) + cnt (pl cyc) t = cnt (pl cyc) (t + k) + cnt (wk cyc chg) t
  | 0 => by simp only [Nat.add_zero]; omega
  | k + 1 => by
    have ih := far_pl cyc chg t h k
    show cnt _ (t + k) + (wk cyc chg (t + k)).toNat + _ = cnt _ (t + k) + (pl cyc (t + k)).toNat + _
    rw [wk_old cyc chg (t + k) fun y hy => by have := h y hy; omega]
    omega
/-- after the changes' end each cycle has a working slot -/
theorem cnt_far (cyc : List Bool) (chg : List (Nat × Bool)) (t k : Nat) (h1 : 1 ≤ cyc.length) (h2 : cyc.length ≤ 14) (h3 : true ∈ cyc) (h : ∀ y ∈ chg.map Prod.fst, y < t) : cnt (wk cyc chg) t + k ≤ cnt (wk cyc chg) (t + 14 * k) := by
  have a := far_pl cyc chg t h (14 * k)
  have b := pl_add cyc h1 t k
  have c : cnt (pl cyc) (t + cyc.length * k) ≤ cnt (pl cyc) (t + 14 * k) := cnt_mono _ (Nat.add_le_add_left (Nat.mul_le_mul_right k h2) t)
  have d : k * 1 ≤ k * sumB cyc := Nat.mul_le_mul_left k (sumB_pos cyc h3)
  omega
end Lw

set_option Elab.async false
set_option linter.all false
namespace Lw
theorem Least.cnt_eq {f : Nat → Bool} {m h : Nat} (a : Least f m h) (hm : 0 < m) : cnt f h = m := by
  obtain ⟨s, rfl, h1, h2⟩ := a.step hm
  show cnt f s + (f s).toNat = m
  rw [h1, h2]
  simp
  omega
theorem cnt_lt {f : Nat → Bool} {s t : Nat} (hs : f s = true) (h : s < t) : cnt f s < cnt f t := by
  have a := cnt_mono f (show s + 1 ≤ t from h)
  have b : cnt f (s + 1) = cnt f s + (f s).toNat := rfl
  rw [hs] at b
  simp at b
  omega
theorem cnt_inj {f : Nat → Bool} {s t : Nat} (hs : f s = true) (ht : f t = true) (h : cnt f s = cnt f t) : s = t := by
  rcases Nat.lt_trichotomy s t with z | z | z
  · have := cnt_lt hs z; omega
  · exact z
  · have := cnt_lt ht z; omega
theorem lt_of_cnt {f : Nat → Bool} {s t : Nat} (h : cnt f s < cnt f t) : s < t := by
  rcases Nat.lt_or_ge s t with z | z
  · exact z
  · have := cnt_mono f z; omega
theorem cnt_succ {f : Nat → Bool} {s : Nat} (hs : f s = true) : cnt f (s + 1) = cnt f s + 1 := by
  show cnt f s + (f s).toNat = _
  rw [hs]
  rfl
/-- the first working slot from here on -/
def NextIs (f : Nat → Bool) (slot s : Nat) : Prop := f s = true ∧ cnt f s = cnt f slot ∧ slot ≤ s
theorem Least.next {f : Nat → Bool} {slot h : Nat} (a : Least f (cnt f slot + 1) h) : ∃ s, h = s + 1 ∧ NextIs f slot s := by
  obtain ⟨s, rfl, h1, h2⟩ := a.step (by omega)
  refine ⟨s, rfl, h1, by omega, ?_⟩
  have := cnt_succ h1
  have : slot < s + 1 := lt_of_cnt (f := f) (by omega)
  omega
/-- behind the changes a calendar comes back -/
theorem wk_shift (cyc : List Bool) (chg : List (Nat × Bool)) (t k : Nat) (h : ∀ y ∈ chg.map Prod.fst, y < t) : wk cyc chg (t + k * cyc.length) = wk cyc chg t := by
  rw [wk_old cyc chg t h, wk_old cyc chg (t + k * cyc.length) fun y hy => by have := h y hy; omega]
  unfold pl
  rw [Nat.add_mul_mod_self_right]
theorem cnt_shift (cyc : List Bool) (chg : List (Nat × Bool)) (t0 : Nat) (h1 : 0 < cyc.length) (h : ∀ y ∈ chg.map Prod.fst, y < t0) (t k : Nat) (ht : t0 ≤ t) : cnt (wk cyc chg) (t + k * cyc.length) = cnt (wk cyc chg) t + k * sumB cyc := by
  obtain ⟨j, rfl⟩ : ∃ j, t = t0 + j := ⟨t - t0, by omega⟩
  have a := far_pl cyc chg t0 h j
  have b := far_pl cyc chg t0 h (j + k * cyc.length)
  have c := pl_add cyc h1 (t0 + j) k
  rw [Nat.mul_comm] at c
  rw [← Nat.add_assoc] at b
  omega
theorem Least.shift {cyc : List Bool} {chg : List (Nat × Bool)} {t0 s m h : Nat} (h1 : 0 < cyc.length) (hx : ∀ y ∈ chg.map Prod.fst, y < t0) (hs : t0 ≤ s) (hm : cnt (wk cyc chg) s < m) (a : Least (wk cyc chg) m h) (k : Nat) : Least (wk cyc chg) (m + k * sumB cyc) (h + k * cyc.length) := by
  have hh : s < h := lt_of_cnt (f := wk cyc chg) (by have := a.1; omega)
  have e := cnt_shift cyc chg t0 h1 hx h k (by omega)
  have e2 := cnt_shift cyc chg t0 h1 hx (h - 1) k (by omega)
  refine ⟨by have := a.1; omega, fun t ht => ?_⟩
  have b := a.2 (h - 1) (by omega)
  have c := cnt_mono (wk cyc chg) (show t ≤ h - 1 + k * cyc.length by omega)
  omega
end Lw

set_option Elab.async false
set_option linter.all false
namespace Lw
/-! plain: first differences, periods, calendars moved -/
theorem pl_per (cyc : List Bool) (s k : Nat) : pl cyc (s + k * cyc.length) = pl cyc s := by
  unfold pl
  rw [Nat.add_mul_mod_self_right]
theorem pl_dvd (cyc : List Bool) (s L : Nat) (h : cyc.length ∣ L) (j : Nat) : pl cyc (s + j * L) = pl cyc s := by
  obtain ⟨q, rfl⟩ := h
  rw [show s + j * (cyc.length * q) = s + (j * q) * cyc.length by rw [Nat.mul_comm cyc.length q, ← Nat.mul_assoc]]
  exact pl_per cyc s _
theorem wk_free (cyc : List Bool) (chg : List (Nat × Bool)) (s : Nat) (h : s ∉ chg.map Prod.fst) : wk cyc chg s = pl cyc s := by
  unfold wk
  rw [List.find?_eq_none.mpr fun p hp => by
    simp
    rintro rfl
    exact h (List.mem_map.mpr ⟨p, hp, rfl⟩)]
/-- what is the least of all -/
def FirstOf (P : Nat → Bool) : Option Nat → Prop
  | some d => P d = true ∧ ∀ t, t < d → P t = false
  | none => ∀ t, P t = false
theorem FirstOf.uniq {P : Nat → Bool} : ∀ {a b : Option Nat}, FirstOf P a → FirstOf P b → a = b
  | none, none, _, _ => rfl
  | none, some d, ha, hb => by have := ha d; rw [hb.1] at this; cases this
  | some d, none, ha, hb => by have := hb d; rw [ha.1] at this; cases this
  | some d, some d', ha, hb => by
    rcases Nat.lt_trichotomy d d' with z | z | z
    · have := hb.2 d z; rw [ha.1] at this; cases this
    · rw [z]
    · have := ha.2 d' z; rw [hb.1] at this; cases this
theorem find_range (P : Nat → Bool) : ∀ n, (∃ d, (List.range n).find? P = some d ∧ d < n ∧ FirstOf P (some d)) ∨ ((List.range n).find? P = none ∧ ∀ t, t < n → P t = false)
  | 0 => .inr ⟨rfl, fun t h => by omega⟩
  | n + 1 => by
    rw [List.range_succ, List.find?_append]
    rcases find_range P n with ⟨d, h1, h2, h3⟩ | ⟨h1, h2⟩
    · exact .inl ⟨d, by rw [h1]; rfl, by omega, h3⟩
    · rw [h1]
      cases q : P n with
      | true => exact .inl ⟨n, by simp [q], by omega, q, h2⟩
      | false =>
        refine .inr ⟨by simp [q], fun t ht => ?_⟩
        by_cases z : t = n
        · rw [z]; exact q
        · exact h2 t (by omega)
/-- an ascending list in which all stand that matter -/
theorem find_sorted (P : Nat → Bool) : ∀ xs : List Nat, xs.Pairwise (· ≤ ·) → (∀ t, P t = true → t ∈ xs) → FirstOf P (xs.find? P)
  | [], _, h => fun t => by
    cases q : P t with
    | false => rfl
    | true => exact absurd (h t q) (by simp)
  | x :: r, hp, h => by
    rw [List.pairwise_cons] at hp
    cases q : P x with
    | true =>
      rw [List.find?_cons_of_pos q]
      refine ⟨q, fun t ht => ?_⟩
      cases w : P t with
      | false => rfl
      | true =>
        rcases List.mem_cons.mp (h t w) with z | z
        · omega
        · have := hp.1 t z; omega
    | false =>
      rw [List.find?_cons_of_neg (by simp [q])]
      exact find_sorted P r hp.2 fun t ht => by
        rcases List.mem_cons.mp (h t ht) with z | z
        · rw [z, q] at ht; cases ht
        · exact z
/-- more slots than changes -/
theorem pigeon (L s : Nat) (hL : 0 < L) : ∀ (xs : List Nat), ∃ j, j ≤ xs.length ∧ s + j * L ∉ xs := by
  -- by counting: the slots of the class that stand in xs
  have key : ∀ (n : Nat) (xs : List Nat), (∀ j, j < n → s + j * L ∈ xs) → n ≤ xs.length := by
    intro n
    induction n with
    | zero => intro xs _; omega
    | succ n ih =>
      intro xs h
      have hn := h n (by omega)
      have hl : (xs.erase (s + n * L)).length = xs.length - 1 := List.length_erase_of_mem hn
      have h0 : 0 < xs.length := List.length_pos_of_mem hn
      have := ih (xs.erase (s + n * L)) fun j hj => by
        refine (List.mem_erase_of_ne ?_).mpr (h j (by omega))
        have : j * L < n * L := Nat.mul_lt_mul_of_pos_right hj hL
        omega
      omega
  intro xs
  rcases Classical.em (∃ j, j ≤ xs.length ∧ s + j * L ∉ xs) with z | z
  · exact z
  · have := key (xs.length + 1) xs fun j hj => by
      rcases Classical.em (s + j * L ∈ xs) with w | w
      · exact w
      · exact absurd ⟨j, by omega, w⟩ z
    omega
/-- what differs -/
def dif (c1 : List Bool) (h1 : List (Nat × Bool)) (c2 : List Bool) (h2 : List (Nat × Bool)) (s : Nat) : Bool := wk c1 h1 s != wk c2 h2 s
theorem dif_comm (c1 h1 c2 h2) (s : Nat) : dif c2 h2 c1 h1 s = dif c1 h1 c2 h2 s := by
  unfold dif
  cases wk c1 h1 s <;> cases wk c2 h2 s <;> rfl
def chs (h1 h2 : List (Nat × Bool)) : List Nat := h1.map Prod.fst ++ h2.map Prod.fst
theorem dif_free {c1 h1 c2 h2} {s : Nat} (h : s ∉ chs h1 h2) : dif c1 h1 c2 h2 s = (pl c1 s != pl c2 s) := by
  unfold chs at h
  unfold dif
  rw [List.mem_append, not_or] at h
  rw [wk_free c1 h1 s h.1, wk_free c2 h2 s h.2]
/-- the program's search: where the cycles differ -/
theorem first_one {c1 h1 c2 h2} (L : Nat) (hL : 0 < L) (d1 : c1.length ∣ L) (d2 : c2.length ∣ L) (s0 : Nat) (hs : s0 < L) (hd : pl c1 s0 ≠ pl c2 s0) :
    FirstOf (dif c1 h1 c2 h2) ((List.range (L * ((chs h1 h2).length + 1))).find? (dif c1 h1 c2 h2)) := by
  obtain ⟨j, hj, hn⟩ := pigeon L s0 hL (chs h1 h2)
  have hlt : s0 + j * L < L * ((chs h1 h2).length + 1) := by
    have : j * L ≤ (chs h1 h2).length * L := Nat.mul_le_mul_right L hj
    rw [Nat.mul_add, Nat.mul_comm L]
    omega
  have ht : dif c1 h1 c2 h2 (s0 + j * L) = true := by
    rw [dif_free hn, pl_dvd c1 s0 L d1, pl_dvd c2 s0 L d2]
    simpa using hd
  rcases find_range (dif c1 h1 c2 h2) (L * ((chs h1 h2).length + 1)) with ⟨d, e1, e2, e3⟩ | ⟨e1, e2⟩
  · rw [e1]; exact e3
  · rw [e2 _ hlt] at ht; cases ht
/-- .. and where they do not -/
theorem first_two {c1 h1 c2 h2} (hq : ∀ s, pl c1 s = pl c2 s) (xs : List Nat) (hp : xs.Pairwise (· ≤ ·)) (hm : ∀ t, t ∈ chs h1 h2 → t ∈ xs) : FirstOf (dif c1 h1 c2 h2) (xs.find? (dif c1 h1 c2 h2)) := by
  refine find_sorted _ xs hp fun t ht => hm t ?_
  rcases Classical.em (t ∈ chs h1 h2) with z | z
  · exact z
  · rw [dif_free z, hq t] at ht; simp at ht
/-- the law's search -/
theorem first_law {c1 h1 c2 h2} (xs : List Nat) (hp : xs.Pairwise (· ≤ ·)) (hm : ∀ t, t ∈ chs h1 h2 → t ∈ xs) (h : (∀ s, pl c1 s = pl c2 s) ∨ ∃ t, t < 420 ∧ dif c1 h1 c2 h2 t = true) :
    FirstOf (dif c1 h1 c2 h2) ((List.range 420 ++ xs).find? (dif c1 h1 c2 h2)) := by
  rw [List.find?_append]
  rcases find_range (dif c1 h1 c2 h2) 420 with ⟨d, e1, e2, e3⟩ | ⟨e1, e2⟩
  · rw [e1]; exact e3
  · rw [e1]
    rcases h with h | ⟨t, h1, h2⟩
    · exact first_two h xs hp hm
    · rw [e2 t h1] at h2; cases h2
/-- changes near to small or great slots leave room in between -/
theorem room_between {c1 h1 c2 h2} (L : Nat) (h0 : 0 < L) (hL : L ≤ 182) (d1 : c1.length ∣ L) (d2 : c2.length ∣ L) (s0 : Nat) (hs : s0 < L) (hd : pl c1 s0 ≠ pl c2 s0) (hg : ∀ t ∈ chs h1 h2, t < 63 ∨ 1000000 ≤ t) : ∃ t, t < 420 ∧ dif c1 h1 c2 h2 t = true := by
  by_cases z : 63 ≤ s0
  · refine ⟨s0, by omega, ?_⟩
    rw [dif_free fun z => by have := hg _ z; omega]
    simpa using hd
  · refine ⟨s0 + ((63 - s0) / L + 1) * L, ?_, ?_⟩
    · have := Nat.div_mul_le_self (63 - s0) L
      rw [Nat.add_mul]
      omega
    · have h63 : 63 - s0 < ((63 - s0) / L + 1) * L := by
        rw [Nat.mul_comm]
        exact Nat.lt_mul_div_succ (63 - s0) h0
      have h2 : ((63 - s0) / L + 1) * L ≤ 63 - s0 + L := by
        have := Nat.div_mul_le_self (63 - s0) L
        rw [Nat.add_mul]; omega
      rw [dif_free fun z => by have := hg _ z; omega, pl_dvd c1 s0 L d1, pl_dvd c2 s0 L d2]
      simpa using hd
theorem pl_all {c1 c2 : List Bool} (L : Nat) (hL : 0 < L) (d1 : c1.length ∣ L) (d2 : c2.length ∣ L) (h : ∀ s, s < L → pl c1 s = pl c2 s) (s : Nat) : pl c1 s = pl c2 s := by
  have e := Nat.mod_add_div s L
  rw [Nat.mul_comm] at e
  rw [← e, pl_dvd c1 _ L d1, pl_dvd c2 _ L d2]
  exact h _ (Nat.mod_lt s hL)
theorem lcm_le {a b : Nat} (ha : a ≤ 14) (hb : b ≤ 14) (a0 : 0 < a) (b0 : 0 < b) : Nat.lcm a b ≤ 182 := by
  have : ∀ x : Fin 15, ∀ y : Fin 15, Nat.lcm x.1 y.1 ≤ 182 := by decide +kernel
  exact this ⟨a, by omega⟩ ⟨b, by omega⟩
end Lw

set_option Elab.async false
set_option linter.all false
namespace Lw
/-! plain: periods of a cycle -/
def rot (c : List Bool) (m : Nat) : List Bool := c.drop m ++ c.take m
def blk (c : List Bool) (m : Nat) : List Bool := (List.replicate (c.length / m) (c.take m)).flatten
/-- m is a period of the plan -/
def Per (c : List Bool) (m : Nat) : Prop := ∀ i, pl c (i + m) = pl c i
theorem pl_lt (c : List Bool) (i : Nat) (h : i < c.length) : pl c i = c.getD i false := by
  unfold pl
  rw [Nat.mod_eq_of_lt h]
theorem rot_len (c : List Bool) (m : Nat) (h : m ≤ c.length) : (rot c m).length = c.length := by
  unfold rot
  rw [List.length_append, List.length_drop, List.length_take]
  omega
theorem rot_get (c : List Bool) (m i : Nat) (h : m ≤ c.length) (hi : i < c.length) : (rot c m).getD i false = pl c (i + m) := by
  unfold rot pl
  rw [List.getD_eq_getElem?_getD, List.getElem?_append, List.length_drop]
  by_cases z : i < c.length - m
  · rw [if_pos z, List.getElem?_drop, Nat.mod_eq_of_lt (by omega), List.getD_eq_getElem?_getD, Nat.add_comm]
  · rw [if_neg z, List.getElem?_take, if_pos (by omega), List.getD_eq_getElem?_getD]
    have : (i + m) % c.length = i - (c.length - m) := by
      rw [show i + m = (i - (c.length - m)) + c.length by omega, Nat.add_mod_right, Nat.mod_eq_of_lt (by omega)]
    rw [this]
theorem getD_ext {a b : List Bool} (hl : a.length = b.length) (h : ∀ i, i < a.length → a.getD i false = b.getD i false) : a = b := by
  apply List.ext_getElem hl
  intro i h1 h2
  have := h i h1
  rw [List.getD_eq_getElem?_getD, List.getD_eq_getElem?_getD, List.getElem?_eq_getElem h1, List.getElem?_eq_getElem h2] at this
  exact this
theorem rot_per (c : List Bool) (m : Nat) (h : m ≤ c.length) (hc : 0 < c.length) : rot c m = c ↔ Per c m := by
  constructor
  · intro e i
    have hi := Nat.mod_lt i hc
    have := rot_get c m (i % c.length) h hi
    rw [e] at this
    rw [← pl_lt c _ hi] at this
    have e1 : pl c (i % c.length) = pl c i := by unfold pl; rw [Nat.mod_mod]
    have e2 : pl c (i % c.length + m) = pl c (i + m) := by unfold pl; rw [Nat.mod_add_mod]
    rw [← e2, ← this, e1]
  · intro p
    refine getD_ext (rot_len c m h) fun i hi => ?_
    rw [rot_len c m h] at hi
    rw [rot_get c m i h hi, p i, pl_lt c i hi]
theorem rep_len (x : List Bool) : ∀ k, (List.replicate k x).flatten.length = k * x.length
  | 0 => by simp
  | k + 1 => by
    rw [List.replicate_succ, List.flatten_cons, List.length_append, rep_len x k, Nat.add_mul]
    omega
theorem rep_get (x : List Bool) (hx : 0 < x.length) : ∀ k i, i < k * x.length → (List.replicate k x).flatten.getD i false = x.getD (i % x.length) false
  | 0, i, h => by omega
  | k + 1, i, h => by
    rw [List.replicate_succ, List.flatten_cons, List.getD_eq_getElem?_getD, List.getElem?_append]
    by_cases z : i < x.length
    · rw [if_pos z, Nat.mod_eq_of_lt z, List.getD_eq_getElem?_getD]
    · rw [if_neg z, ← List.getD_eq_getElem?_getD, rep_get x hx k (i - x.length) (by rw [Nat.add_mul] at h; omega)]
      rw [Nat.mod_eq_sub_mod (show i ≥ x.length by omega)]
theorem Per.mul {c : List Bool} {m : Nat} (p : Per c m) (i : Nat) : ∀ k, pl c (i + k * m) = pl c i
  | 0 => by simp
  | k + 1 => by rw [Nat.add_mul, Nat.one_mul, ← Nat.add_assoc, p, Per.mul p i k]
theorem blk_per (c : List Bool) (m : Nat) (h0 : 0 < m) (h : m ∣ c.length) (hc : 0 < c.length) : c = blk c m ↔ Per c m := by
  have hm : m ≤ c.length := Nat.le_of_dvd hc h
  have tl : (c.take m).length = m := by rw [List.length_take]; omega
  have bl : (blk c m).length = c.length := by
    unfold blk
    rw [rep_len, tl, Nat.div_mul_cancel h]
  have bg : ∀ i, i < c.length → (blk c m).getD i false = pl c (i % m) := fun i hi => by
    unfold blk
    have := Nat.mod_lt i h0
    rw [rep_get _ (by omega) _ _ (by rw [tl, Nat.div_mul_cancel h]; exact hi), tl, pl_lt c _ (by omega), List.getD_eq_getElem?_getD, List.getD_eq_getElem?_getD, List.getElem?_take, if_pos this]
  constructor
  · intro e
    -- the plan at i is that at i % m
    have key : ∀ i, pl c i = pl c (i % m) := fun i => by
      have hi := Nat.mod_lt i hc
      have := bg _ hi
      rw [← e] at this
      have e1 : pl c i = pl c (i % c.length) := by unfold pl; rw [Nat.mod_mod]
      rw [e1, pl_lt c _ hi, this, Nat.mod_mod_of_dvd i h]
    intro i
    rw [key (i + m), Nat.add_mod_right, ← key i]
  · intro p
    refine getD_ext bl.symm fun i hi => ?_
    rw [bg i hi, ← pl_lt c i hi]
    have := p.mul (i % m) (i / m)
    rw [Nat.mul_comm, Nat.mod_add_div] at this
    exact this
theorem per_len (c : List Bool) : Per c c.length := fun i => by unfold pl; rw [Nat.add_mod_right]
/-- the least period divides the length -/
theorem per_dvd {c : List Bool} {m : Nat} (h0 : 0 < m) (p : Per c m) (least : ∀ k, 0 < k → k < m → ¬ Per c k) : m ∣ c.length := by
  apply Nat.dvd_of_mod_eq_zero
  rcases Nat.eq_zero_or_pos (c.length % m) with z | z
  · exact z
  · refine absurd ?_ (least _ z (Nat.mod_lt _ h0))
    intro i
    have := p.mul (i + c.length % m) (c.length / m)
    rw [← this, Nat.add_assoc, Nat.mul_comm (c.length / m), Nat.mod_add_div, per_len c i]
/-- both ways find the same -/
theorem first_per (c : List Bool) (hc : 0 < c.length) : ∃ m, 0 < m ∧ m ≤ c.length ∧ Per c m ∧ ((List.range c.length).map (· + 1)).find? (fun m => decide (rot c m = c)) = some m ∧
    ((List.range c.length).map (· + 1)).find? (fun m => decide (c.length % m = 0) && decide (c = blk c m)) = some m := by
  have ex : ∃ m, 0 < m ∧ m ≤ c.length ∧ Per c m ∧ ∀ k, 0 < k → k < m → ¬ Per c k := by
    have : ∀ n, ∀ m, m ≤ n → 0 < m → m ≤ c.length → Per c m → ∃ m, 0 < m ∧ m ≤ c.length ∧ Per c m ∧ ∀ k, 0 < k → k < m → ¬ Per c k := by
      intro n
      induction n with
      | zero => intro m h1 h2; omega
      | succ n ih =>
        intro m h1 h2 h3 h4
        rcases Classical.em (∃ k, 0 < k ∧ k < m ∧ Per c k) with ⟨k, k1, k2, k3⟩ | z
        · exact ih k (by omega) k1 (by omega) k3
        · exact ⟨m, h2, h3, h4, fun k k1 k2 k3 => z ⟨k, k1, k2, k3⟩⟩
    exact this c.length c.length (Nat.le_refl _) hc (Nat.le_refl _) (per_len c)
  obtain ⟨m, h0, hl, p, least⟩ := ex
  have hd := per_dvd h0 p least
  have find : ∀ Q : Nat → Bool, Q m = true → (∀ k, 0 < k → k < m → Q k = false) → ((List.range c.length).map (· + 1)).find? Q = some m := by
    intro Q q1 q2
    have e : c.length = (m - 1) + 1 + (c.length - m) := by omega
    rw [e, List.range_add, List.range_succ, List.map_append, List.map_append, List.append_assoc, List.find?_append, List.find?_eq_none.mpr]
    · have : (m - 1) + 1 = m := by omega
      simp only [List.map_cons, List.map_nil, this, Option.none_or]
      rw [List.singleton_append, List.find?_cons_of_pos q1]
    · intro x hx
      obtain ⟨y, hy, rfl⟩ := List.mem_map.mp hx
      rw [List.mem_range] at hy
      rw [q2 (y + 1) (by omega) (by omega)]
      simp
  refine ⟨m, h0, hl, p, find _ (by rw [decide_eq_true_eq]; exact (rot_per c m hl hc).mpr p) (fun k k1 k2 => ?_), find _ ?_ (fun k k1 k2 => ?_)⟩
  · rw [decide_eq_false_iff_not, rot_per c k (by omega) hc]
    exact least k k1 k2
  · rw [Bool.and_eq_true, decide_eq_true_eq, decide_eq_true_eq]
    exact ⟨Nat.mod_eq_zero_of_dvd hd, (blk_per c m h0 hd hc).mpr p⟩
  · rw [Bool.and_eq_false_iff, decide_eq_false_iff_not, decide_eq_false_iff_not]
    by_cases z : c.length % k = 0
    · right
      rw [blk_per c k k1 (Nat.dvd_of_mod_eq_zero z) hc]
      exact least k k1 k2
    · exact .inl z
/-! what is otherwise than planned -/
def odd (c : List Bool) (h : List (Nat × Bool)) : List (Nat × Bool) := h.filter fun p => p.2 != pl c p.1
def fst1 (c : List Bool) (h : List (Nat × Bool)) : Nat := ((odd c h).getLast?.map fun p => p.1 + 1).getD 0
theorem wk_mem {c : List Bool} {h : List (Nat × Bool)} (inc : (h.map Prod.fst).Pairwise (· < ·)) {p : Nat × Bool} (hp : p ∈ h) : wk c h p.1 = p.2 := by
  unfold wk
  have : h.find? (fun q => q.1 == p.1) = some p := by
    clear c
    induction h with
    | nil => cases hp
    | cons q r ih =>
      rw [List.map_cons, List.pairwise_cons] at inc
      rcases List.mem_cons.mp hp with z | z
      · subst z; rw [List.find?_cons_of_pos (by simp)]
      · have : q.1 < p.1 := inc.1 p.1 (List.mem_map.mpr ⟨p, z, rfl⟩)
        rw [List.find?_cons_of_neg (by simp; omega)]
        exact ih inc.2 z
  rw [this]
theorem odd_inc {c : List Bool} {h : List (Nat × Bool)} (inc : (h.map Prod.fst).Pairwise (· < ·)) : ((odd c h).map Prod.fst).Pairwise (· < ·) :=
  inc.sublist (List.filter_sublist.map Prod.fst)
theorem odd_last {c : List Bool} {h : List (Nat × Bool)} (inc : (h.map Prod.fst).Pairwise (· < ·)) (s : Nat) (hs : fst1 c h ≤ s) : wk c h s = pl c s := by
  rcases Classical.em (s ∈ h.map Prod.fst) with z | z
  · obtain ⟨p, hp, rfl⟩ := List.mem_map.mp z
    rw [wk_mem inc hp]
    rcases Classical.em (p.2 = pl c p.1) with w | w
    · exact w
    · have hm : p ∈ odd c h := List.mem_filter.mpr ⟨hp, by simpa using w⟩
      exfalso
      have i2 := odd_inc (c := c) inc
      unfold fst1 at hs
      rcases List.eq_nil_or_concat (odd c h) with q | ⟨pre, l, q⟩
      · rw [q] at hm; cases hm
      · rw [List.concat_eq_append] at q
        rw [q, List.getLast?_append, List.getLast?_singleton] at hs
        rw [q, List.map_append, List.pairwise_append] at i2
        simp at hs
        rw [q] at hm
        rcases List.mem_append.mp hm with w | w
        · have := i2.2.2 p.1 (List.mem_map.mpr ⟨p, w, rfl⟩) l.1 (by simp)
          omega
        · simp at w
          rw [w] at hs
          omega
  · exact wk_free c h s z
theorem odd_at {c : List Bool} {h : List (Nat × Bool)} (inc : (h.map Prod.fst).Pairwise (· < ·)) (h0 : fst1 c h ≠ 0) : wk c h (fst1 c h - 1) ≠ pl c (fst1 c h - 1) := by
  unfold fst1 at h0 ⊢
  rcases List.eq_nil_or_concat (odd c h) with q | ⟨pre, l, q⟩
  · rw [q] at h0; exact absurd rfl h0
  · rw [List.concat_eq_append] at q
    have hl : l ∈ odd c h := by rw [q]; simp
    rw [q, List.getLast?_append, List.getLast?_singleton]
    simp only [Option.some_or, Option.map_some, Option.getD_some, Nat.add_sub_cancel]
    rw [wk_mem inc (List.mem_filter.mp hl).1]
    simpa using (List.mem_filter.mp hl).2
/-! moved -/
def mvd (h : List (Nat × Bool)) (many : Nat) : List (Nat × Bool) := (h.filter fun p => decide (many ≤ p.1)).map fun p => (p.1 - many, p.2)
theorem mvd_find (many s : Nat) : ∀ h : List (Nat × Bool), ((mvd h many).find? fun p => p.1 == s).map Prod.snd = (h.find? fun p => p.1 == s + many).map Prod.snd
  | [] => rfl
  | p :: r => by
    have ih := mvd_find many s r
    unfold mvd at ih ⊢
    by_cases z : many ≤ p.1
    · rw [List.filter_cons_of_pos (by simpa using z), List.map_cons]
      by_cases w : p.1 = s + many
      · rw [List.find?_cons_of_pos (by simp; omega), List.find?_cons_of_pos (by simp; omega)]
        rfl
      · rw [List.find?_cons_of_neg (by simp; omega), List.find?_cons_of_neg (by simp; omega)]
        exact ih
    · rw [List.filter_cons_of_neg (by simpa using z), List.find?_cons_of_neg (by simp; omega)]
      exact ih
theorem wk_eq (c h) (s : Nat) : wk c h s = ((h.find? fun p => p.1 == s).map Prod.snd).getD (pl c s) := by
  unfold wk
  cases h.find? fun p => p.1 == s <;> rfl
theorem mvd_wk (c h) (many s : Nat) (hc : 0 < c.length) : wk (rot c (many % c.length)) (mvd h many) s = wk c h (s + many) := by
  have hm := Nat.mod_lt many hc
  rw [wk_eq, wk_eq, mvd_find]
  congr 1
  have e : pl (rot c (many % c.length)) s = (rot c (many % c.length)).getD (s % c.length) false := by
    unfold pl; rw [rot_len c _ (by omega)]
  rw [e, rot_get c _ _ (by omega) (Nat.mod_lt s hc)]
  unfold pl
  rw [← Nat.add_mod]
theorem mvd_inc {h : List (Nat × Bool)} (many : Nat) (inc : (h.map Prod.fst).Pairwise (· < ·)) : ((mvd h many).map Prod.fst).Pairwise (· < ·) := by
  unfold mvd
  rw [List.map_map, List.pairwise_map]
  have i2 : ((h.filter fun p => decide (many ≤ p.1)).map Prod.fst).Pairwise (· < ·) := inc.sublist (List.filter_sublist.map Prod.fst)
  rw [List.pairwise_map] at i2
  refine List.Pairwise.imp_of_mem ?_ i2
  intro a b ha hb hab
  have h1 := (List.mem_filter.mp ha).2
  have h2 := (List.mem_filter.mp hb).2
  simp at h1 h2
  simp
  omega
theorem mvd_zero (h : List (Nat × Bool)) : mvd h 0 = h := by
  unfold mvd
  rw [List.filter_eq_self.mpr (by simp)]
  simp
theorem rot_zero (c : List Bool) : rot c 0 = c := by unfold rot; simp
theorem rot_true {c : List Bool} {m : Nat} (h : true ∈ c) : true ∈ rot c m := by
  unfold rot
  rw [List.mem_append]
  rw [← List.take_append_drop m c, List.mem_append] at h
  exact h.symm
end Lw

set_option Elab.async false
set_option linter.all false
set_option maxRecDepth 100000
set_option maxHeartbeats 4000000
namespace Lw
open PySem PySem.Spec L2 Y
set_option autoImplicit false
def topS (i : Nat) : Stmt := PySem.Challenge.pw_crewlags_k60_whole_calendars_that_never.main.body.getD i (.Pass ⟨0, 0, 0, 0⟩)
abbrev s_is_int : Stmt := topS 5
abbrev s_divisor_of : Stmt := topS 6
abbrev s_is_slot : Stmt := topS 10
abbrev s_check_cycle : Stmt := topS 11
abbrev s_is_change : Stmt := topS 12
abbrev s_check_changes : Stmt := topS 13
abbrev s_Calendar : Stmt := inClass (topS 14) 0
abbrev s_Calendar_eq : Stmt := inClass (topS 14) 1
abbrev s_check_calendar : Stmt := topS 15
abbrev s_check_slot : Stmt := topS 16
abbrev s_planned : Stmt := topS 17
abbrev s_works : Stmt := topS 18
abbrev s_is_work : Stmt := topS 19
abbrev s_first_difference : Stmt := topS 20
abbrev s_turn_of : Stmt := topS 21
abbrev s_moved : Stmt := topS 22
abbrev s__law_well : Stmt := topS 24
abbrev s__law_draw : Stmt := topS 25
abbrev s__law_one : Stmt := topS 26
abbrev s__law_parts : Stmt := topS 27
abbrev s__law_works : Stmt := topS 28
abbrev s__law_calendar : Stmt := topS 29
abbrev s__law_far : Stmt := topS 30
abbrev s__law_others : Stmt := topS 31
abbrev s__law_difference : Stmt := topS 32
abbrev s__law_turn : Stmt := topS 33
abbrev s__law_turn_right : Stmt := topS 34
abbrev s__law_right : Stmt := topS 35
abbrev s_law : Stmt := topS 36
structure Fld_Calendar (K : PySem.W.Frag) (C : Addr) : Prop where
  n_cycle : NoAttr K C "cycle"
  n_changes : NoAttr K C "changes"
structure Txt (K : PySem.W.Frag) (mg : Mg) : Prop where
  d_is_int : DefAt K mg "is_int" s_is_int ["value"]
  d_divisor_of : DefAt K mg "divisor_of" s_divisor_of ["one", "other"]
  d_is_slot : DefAt K mg "is_slot" s_is_slot ["value"]
  d_check_cycle : DefAt K mg "check_cycle" s_check_cycle ["cycle"]
  d_is_change : DefAt K mg "is_change" s_is_change ["value"]
  d_check_changes : DefAt K mg "check_changes" s_check_changes ["changes"]
  d_check_calendar : DefAt K mg "check_calendar" s_check_calendar ["value", "part"]
  d_check_slot : DefAt K mg "check_slot" s_check_slot ["value", "part"]
  d_planned : DefAt K mg "planned" s_planned ["calendar", "slot"]
  d_works : DefAt K mg "works" s_works ["calendar", "slot"]
  d_is_work : DefAt K mg "is_work" s_is_work ["calendar", "slot"]
  d_first_difference : DefAt K mg "first_difference" s_first_difference ["calendar", "other"]
  d_turn_of : DefAt K mg "turn_of" s_turn_of ["calendar"]
  d_moved : DefAt K mg "moved" s_moved ["calendar", "many"]
  d__law_well : DefAt K mg "_law_well" s__law_well ["_law_cell"]
  d__law_draw : DefAt K mg "_law_draw" s__law_draw ["_law_well_here", "_law_many"]
  d__law_one : DefAt K mg "_law_one" s__law_one ["_law_well_here", "_law_some"]
  d__law_parts : DefAt K mg "_law_parts" s__law_parts ["_law_well_here", "_law_far_here"]
  d__law_works : DefAt K mg "_law_works" s__law_works ["_law_parts_here", "_law_slot"]
  d__law_calendar : DefAt K mg "_law_calendar" s__law_calendar ["_law_well_here", "_law_parts_here"]
  d__law_far : DefAt K mg "_law_far" s__law_far ["_law_well_here"]
  d__law_others : DefAt K mg "_law_others" s__law_others ["_law_well_here", "_law_parts_here", "_law_far_here"]
  d__law_difference : DefAt K mg "_law_difference" s__law_difference ["_law_one_here", "_law_other"]
  d__law_turn : DefAt K mg "_law_turn" s__law_turn ["_law_parts_here"]
  d__law_turn_right : DefAt K mg "_law_turn_right" s__law_turn_right ["_law_parts_here", "_law_told"]
  d__law_right : DefAt K mg "_law_right" s__law_right ["_law_well_here"]
  d_law : DefAt K mg "law" s_law ["_law_script"]
  b_abs : mg "abs" = none
  b_any : mg "any" = none
  b_bool : mg "bool" = none
  b_enumerate : mg "enumerate" = none
  b_int : mg "int" = none
  b_isinstance : mg "isinstance" = none
  b_len : mg "len" = none
  b_list : mg "list" = none
  b_max : mg "max" = none
  b_range : mg "range" = none
  b_sorted : mg "sorted" = none
  b_tuple : mg "tuple" = none
  g_MAX_CHANGES : ∃ t, mg "MAX_CHANGES" = some (.int 10 t)
  g_MAX_CYCLE : ∃ t, mg "MAX_CYCLE" = some (.int 14 t)
  c_Calendar : ∃ C, ClsF K mg "Calendar" C ∧ Fld_Calendar K C
  i_Calendar : ∃ C f fd, mg "Calendar" = some (.ref C) ∧ Mk K C f ∧ (∃ kws, FunD K "__init__" "Calendar.__init__" (defArgs s_Calendar) (defBody s_Calendar) (defScope s_Calendar) [] kws f fd) ∧ FormOk K mg fd ["self", "cycle", "changes"] 1 ["changes"] (fun a b => a ++ b) ∧ FormOk K mg fd ["self", "cycle", "changes"] 0 ["changes", "cycle"] (fun _ b => swap2 b) ∧ FormOk K mg fd ["self", "cycle", "changes"] 1 [] (fun a _ => a ++ [.tup []])
  e_Calendar : ∃ C f fd, mg "Calendar" = some (.ref C) ∧ EqF K C f ∧ NeF K C ∧ FunD K "__eq__" "Calendar.__eq__" (defArgs s_Calendar_eq) (defBody s_Calendar_eq) (defScope s_Calendar_eq) [] [] f fd ∧ BA fd ["self", "other"]
theorem sc_is_int : FnScope ["value"] ["value"] (defScope s_is_int) := ⟨rfl, rfl, rfl, by decide +kernel, rfl, by decide +kernel, by decide +kernel⟩
def dn_is_int : M Flo :=
  sRet (eAnd (rd1 (eVar 0) (isiK ["int"])) (eNot (rd1 (eVar 0) (isiK ["bool"]))))
def fn_is_int : Fn := fnD 1 1 dn_is_int
theorem sc_divisor_of : FnScope ["one", "other"] ["one", "other"] (defScope s_divisor_of) := ⟨rfl, rfl, rfl, by decide +kernel, rfl, by decide +kernel, by decide +kernel⟩
noncomputable def wc_divisor_of_1 (e : Sl) : Res Bool :=
  (asB (rd2 (eVar 1) (eC (.int 0)) neK)) e
noncomputable def wb_divisor_of_1 (e : Sl) : Res Flo :=
  (sPar [0, 1] (aCons (aO (eVar 1)) (aCons (aO (rd2 (eVar 0) (eVar 1) modI)) (aNil)))) e
noncomputable def dn_divisor_of : M Flo :=
  sSeq (sWhile (wc_divisor_of_1)
  (wb_divisor_of_1))
  (sRet (rd1 (eVar 0) absK))
noncomputable def fn_divisor_of : Fn := fnD 2 2 dn_divisor_of
theorem sc_is_slot : FnScope ["value"] ["value"] (defScope s_is_slot) := ⟨rfl, rfl, rfl, by decide +kernel, rfl, by decide +kernel, by decide +kernel⟩
def dn_is_slot : M Flo :=
  sRet (eAnd (eCall fn_is_int (aCons (aV (eVar 0)) (aNil))) (rd2 (eVar 0) (eC (.int 0)) geI))
def fn_is_slot : Fn := fnD 1 1 dn_is_slot
theorem sc_check_cycle : FnScope ["cycle", "index", "one"] ["cycle"] (defScope s_check_cycle) := ⟨rfl, rfl, rfl, by decide +kernel, rfl, by decide +kernel, by decide +kernel⟩
def lb_check_cycle_1 (e : Sl) : Res Flo :=
  (sIf (mNot (asB (rd1 (eVar 2) (isiK ["bool"]))))
  (sBad)
  (sNil)) e
def dn_check_cycle : M Flo :=
  sSeq (sIf (mOr (mNot (asB (rd1 (eVar 0) (isiK ["list", "tuple"])))) (mNot (asB (chI (fun i j => decide (i ≤ j)) (fun i j => decide (i ≤ j)) (eC (.int 1)) (rd1 (eVar 0) lenK) (eC (.int 14))))))
  (sBad)
  (sNil))
  (sSeq (sFor (itEnum (eVar 0)) (tTupD 2 (tsCons (tName 1) (tsCons (tName 2) (tsNil))))
  (lb_check_cycle_1))
  (sIf (asB (rd2 (eC (.bl true)) (eVar 0) ninK))
  (sBad)
  (sNil)))
def fn_check_cycle : Fn := fnD 1 3 dn_check_cycle
theorem sc_is_change : FnScope ["value"] ["value"] (defScope s_is_change) := ⟨rfl, rfl, rfl, by decide +kernel, rfl, by decide +kernel, by decide +kernel⟩
def dn_is_change : M Flo :=
  sRet (eAnd (rd1 (eVar 0) (isiK ["tuple"])) (eAnd (rd2 (rd1 (eVar 0) lenK) (eC (.int 2)) eqK) (eAnd (eCall fn_is_slot (aCons (aV (rd2 (eVar 0) (eC (.int 0)) ixK)) (aNil))) (rd1 (rd2 (eVar 0) (eC (.int 1)) ixK) (isiK ["bool"])))))
def fn_is_change : Fn := fnD 1 1 dn_is_change
theorem sc_check_changes : FnScope ["changes", "last", "index", "one"] ["changes"] (defScope s_check_changes) := ⟨rfl, rfl, rfl, by decide +kernel, rfl, by decide +kernel, by decide +kernel⟩
def lb_check_changes_1 (e : Sl) : Res Flo :=
  (sSeq (sIf (mOr (mNot (asB (eCall fn_is_change (aCons (aV (eVar 3)) (aNil))))) (asB (rd2 (rd2 (eVar 3) (eC (.int 0)) ixK) (eVar 1) leI)))
  (sBad)
  (sNil))
  (sSet 1 (rd2 (eVar 3) (eC (.int 0)) ixK))) e
def dn_check_changes : M Flo :=
  sSeq (sIf (mOr (mNot (asB (rd1 (eVar 0) (isiK ["list", "tuple"])))) (asB (rd2 (rd1 (eVar 0) lenK) (eC (.int 10)) gtI)))
  (sBad)
  (sNil))
  (sSeq (sSet 1 (rd1 (eC (.int 1)) negI))
  (sFor (itEnum (eVar 0)) (tTupD 2 (tsCons (tName 2) (tsCons (tName 3) (tsNil))))
  (lb_check_changes_1)))
def fn_check_changes : Fn := fnD 1 4 dn_check_changes
theorem sc_Calendar : FnScope ["self", "cycle", "changes"] ["self", "cycle", "changes"] (defScope s_Calendar) := ⟨rfl, rfl, rfl, by decide +kernel, rfl, by decide +kernel, by decide +kernel⟩
def dn_Calendar : M Flo :=
  sSeq (sExpr (eCall fn_check_cycle (aCons (aV (eVar 1)) (aNil))))
  (sSeq (sExpr (eCall fn_check_changes (aCons (aV (eVar 2)) (aNil))))
  (sSeq (sFldSet 0 "Calendar" "cycle" (rd1 (eVar 1) tupK))
  (sFldSet 0 "Calendar" "changes" (rd1 (eVar 2) tupK))))
def fn_Calendar : Fn := fnD 3 3 dn_Calendar
theorem sc_Calendar_eq : FnScope ["self", "other"] ["self", "other"] (defScope s_Calendar_eq) := ⟨rfl, rfl, rfl, by decide +kernel, rfl, by decide +kernel, by decide +kernel⟩
def dn_Calendar_eq : M Flo :=
  sRet (eAnd (rd1 (eVar 1) (isiC "Calendar")) (rd2 (eTup (aCons (aV (rd1 (eVar 0) (fldK "Calendar" "cycle"))) (aCons (aV (rd1 (eVar 0) (fldK "Calendar" "changes"))) (aNil)))) (eTup (aCons (aV (rd1 (eVar 1) (fldK "Calendar" "cycle"))) (aCons (aV (rd1 (eVar 1) (fldK "Calendar" "changes"))) (aNil)))) eqK))
def fn_Calendar_eq : Fn := fnD 2 2 dn_Calendar_eq
theorem sc_check_calendar : FnScope ["value", "part"] ["value", "part"] (defScope s_check_calendar) := ⟨rfl, rfl, rfl, by decide +kernel, rfl, by decide +kernel, by decide +kernel⟩
def dn_check_calendar : M Flo :=
  sIf (mNot (asB (rd1 (eVar 0) (isiC "Calendar"))))
  (sBad)
  (sNil)
def fn_check_calendar : Fn := fnD 2 2 dn_check_calendar
theorem sc_check_slot : FnScope ["value", "part"] ["value", "part"] (defScope s_check_slot) := ⟨rfl, rfl, rfl, by decide +kernel, rfl, by decide +kernel, by decide +kernel⟩
def dn_check_slot : M Flo :=
  sIf (mNot (asB (eCall fn_is_slot (aCons (aV (eVar 0)) (aNil)))))
  (sBad)
  (sNil)
def fn_check_slot : Fn := fnD 2 2 dn_check_slot
theorem sc_planned : FnScope ["calendar", "slot"] ["calendar", "slot"] (defScope s_planned) := ⟨rfl, rfl, rfl, by decide +kernel, rfl, by decide +kernel, by decide +kernel⟩
def dn_planned : M Flo :=
  sRet (rd2 (rd1 (eVar 0) (fldK "Calendar" "cycle")) (rd2 (eVar 1) (rd1 (rd1 (eVar 0) (fldK "Calendar" "cycle")) lenK) modI) ixK)
def fn_planned : Fn := fnD 2 2 dn_planned
theorem sc_works : FnScope ["calendar", "slot", "one", "is_on"] ["calendar", "slot"] (defScope s_works) := ⟨rfl, rfl, rfl, by decide +kernel, rfl, by decide +kernel, by decide +kernel⟩
def lb_works_1 (e : Sl) : Res Flo :=
  (sIf (asB (rd2 (eVar 2) (eVar 1) eqK))
  (sRet (eVar 3))
  (sNil)) e
def dn_works : M Flo :=
  sSeq (sFor (itSeq (rd1 (eVar 0) (fldK "Calendar" "changes"))) (tTupD 2 (tsCons (tName 2) (tsCons (tName 3) (tsNil))))
  (lb_works_1))
  (sRet (eCall fn_planned (aCons (aV (eVar 0)) (aCons (aV (eVar 1)) (aNil)))))
def fn_works : Fn := fnD 2 4 dn_works
theorem sc_is_work : FnScope ["calendar", "slot"] ["calendar", "slot"] (defScope s_is_work) := ⟨rfl, rfl, rfl, by decide +kernel, rfl, by decide +kernel, by decide +kernel⟩
def dn_is_work : M Flo :=
  sSeq (sExpr (eCall fn_check_calendar (aCons (aV (eVar 0)) (aCons (aV (eC (.str "calendar"))) (aNil)))))
  (sSeq (sExpr (eCall fn_check_slot (aCons (aV (eVar 1)) (aCons (aV (eC (.str "slot"))) (aNil)))))
  (sRet (eCall fn_works (aCons (aV (eVar 0)) (aCons (aV (eVar 1)) (aNil))))))
def fn_is_work : Fn := fnD 2 2 dn_is_work
theorem sc_first_difference : FnScope ["calendar", "other", "one", "more", "both", "slots", "change", "slot"] ["calendar", "other"] (defScope s_first_difference) := ⟨rfl, rfl, rfl, by decide +kernel, rfl, by decide +kernel, by decide +kernel⟩
noncomputable def le_first_difference_1 (e : Sl) : Res RV :=
  (rd2 (eVar 6) (eC (.int 0)) ixK) e
noncomputable def le_first_difference_2 (e : Sl) : Res RV :=
  (rd2 (eCall fn_planned (aCons (aV (eVar 0)) (aCons (aV (eVar 7)) (aNil)))) (eCall fn_planned (aCons (aV (eVar 1)) (aCons (aV (eVar 7)) (aNil)))) neK) e
noncomputable def lb_first_difference_1 (e : Sl) : Res Flo :=
  (sIf (asB (rd2 (eCall fn_works (aCons (aV (eVar 0)) (aCons (aV (eVar 7)) (aNil)))) (eCall fn_works (aCons (aV (eVar 1)) (aCons (aV (eVar 7)) (aNil)))) neK))
  (sRet (eVar 7))
  (sNil)) e
noncomputable def dn_first_difference : M Flo :=
  sSeq (sExpr (eCall fn_check_calendar (aCons (aV (eVar 0)) (aCons (aV (eC (.str "calendar"))) (aNil)))))
  (sSeq (sExpr (eCall fn_check_calendar (aCons (aV (eVar 1)) (aCons (aV (eC (.str "other"))) (aNil)))))
  (sSeq (sPar [2, 3] (aCons (aO (rd1 (rd1 (eVar 0) (fldK "Calendar" "cycle")) lenK)) (aCons (aO (rd1 (rd1 (eVar 1) (fldK "Calendar" "cycle")) lenK)) (aNil))))
  (sSeq (sSet 4 (rd2 (rd2 (eVar 2) (eVar 3) mulK) (eCall fn_divisor_of (aCons (aV (eVar 2)) (aCons (aV (eVar 3)) (aNil)))) fdivI))
  (sSeq (sSet 5 (rd1 (eLc (itSeq (rd2 (rd1 (eVar 0) (fldK "Calendar" "changes")) (rd1 (eVar 1) (fldK "Calendar" "changes")) addK)) (tName 6) (tYesD) (le_first_difference_1) [6]) sortedK))
  (sSeq (sIf (asB (rd1 (eLc (itW1 (eVar 4)) (tName 7) (tYesD) (le_first_difference_2) [7]) anyK))
  (sSet 5 (eLR1 (rd2 (eVar 4) (rd2 (rd1 (eVar 5) lenK) (eC (.int 1)) addK) mulK)))
  (sNil))
  (sSeq (sFor (itSeq (eVar 5)) (tName 7)
  (lb_first_difference_1))
  (sRet (eC .non))))))))
noncomputable def fn_first_difference : Fn := fnD 2 8 dn_first_difference
theorem sc_turn_of : FnScope ["calendar", "cycle", "changes", "periods", "many", "period", "slots", "slot", "is_on"] ["calendar"] (defScope s_turn_of) := ⟨rfl, rfl, rfl, by decide +kernel, rfl, by decide +kernel, by decide +kernel⟩
def lp_turn_of_1 (e : Sl) : Res Bool :=
  (asB (rd2 (rd2 (rd1 (eVar 1) lenK) (eVar 4) modI) (eC (.int 0)) eqK)) e
def le_turn_of_1 (e : Sl) : Res RV :=
  (eVar 4) e
def lp_turn_of_2 (e : Sl) : Res Bool :=
  (asB (rd2 (eVar 1) (rd2 (eSl (eVar 1) (oNo) (oSome (eVar 4))) (rd2 (rd1 (eVar 1) lenK) (eVar 4) fdivI) mulK) eqK)) e
def le_turn_of_2 (e : Sl) : Res RV :=
  (eVar 4) e
def lp_turn_of_3 (e : Sl) : Res Bool :=
  (asB (rd2 (eVar 8) (eCall fn_planned (aCons (aV (eVar 0)) (aCons (aV (eVar 7)) (aNil)))) neK)) e
def le_turn_of_3 (e : Sl) : Res RV :=
  (eVar 7) e
def le_turn_of_4 (e : Sl) : Res RV :=
  (rd2 (eVar 7) (eC (.int 1)) addK) e
def dn_turn_of : M Flo :=
  sSeq (sExpr (eCall fn_check_calendar (aCons (aV (eVar 0)) (aCons (aV (eC (.str "calendar"))) (aNil)))))
  (sSeq (sAsg (eTup (aCons (aV (rd1 (eVar 0) (fldK "Calendar" "cycle"))) (aCons (aV (rd1 (eVar 0) (fldK "Calendar" "changes"))) (aNil)))) (tTupD 2 (tsCons (tName 1) (tsCons (tName 2) (tsNil)))))
  (sSeq (sSet 3 (eLc (itW2 (eC (.int 1)) (rd2 (rd1 (eVar 1) lenK) (eC (.int 1)) addK)) (tName 4) (lp_turn_of_1) (le_turn_of_1) [4]))
  (sSeq (sSet 5 (rd2 (eLc (itSeq (eVar 3)) (tName 4) (lp_turn_of_2) (le_turn_of_2) [4]) (eC (.int 0)) ixK))
  (sSeq (sSet 6 (eLc (itSeq (eVar 2)) (tTupD 2 (tsCons (tName 7) (tsCons (tName 8) (tsNil)))) (lp_turn_of_3) (le_turn_of_3) [7, 8]))
  (sRet (eTup (aCons (aV (rd1 (rd2 (eLc (itSeq (eVar 6)) (tName 7) (tYesD) (le_turn_of_4) [7]) (eLst (aCons (aV (eC (.int 0))) (aNil))) addK) maxL)) (aCons (aV (eVar 5)) (aNil)))))))))
def fn_turn_of : Fn := fnD 1 9 dn_turn_of
theorem sc_moved : FnScope ["calendar", "many", "rest", "changes", "slot", "is_on"] ["calendar", "many"] (defScope s_moved) := ⟨rfl, rfl, rfl, by decide +kernel, rfl, by decide +kernel, by decide +kernel⟩
def lp_moved_1 (e : Sl) : Res Bool :=
  (asB (rd2 (eVar 4) (eVar 1) geI)) e
def le_moved_1 (e : Sl) : Res RV :=
  (eTup (aCons (aV (rd2 (eVar 4) (eVar 1) subI)) (aCons (aV (eVar 5)) (aNil)))) e
def dn_moved : M Flo :=
  sSeq (sExpr (eCall fn_check_calendar (aCons (aV (eVar 0)) (aCons (aV (eC (.str "calendar"))) (aNil)))))
  (sSeq (sExpr (eCall fn_check_slot (aCons (aV (eVar 1)) (aCons (aV (eC (.str "many"))) (aNil)))))
  (sSeq (sSet 2 (rd2 (eVar 1) (rd1 (rd1 (eVar 0) (fldK "Calendar" "cycle")) lenK) modI))
  (sSeq (sSet 3 (eLc (itSeq (rd1 (eVar 0) (fldK "Calendar" "changes"))) (tTupD 2 (tsCons (tName 4) (tsCons (tName 5) (tsNil)))) (lp_moved_1) (le_moved_1) [4, 5]))
  (sRet (eMake fn_Calendar "Calendar" 1 1 (fun a b => a ++ b) (aCons (aV (rd2 (eSl (rd1 (eVar 0) (fldK "Calendar" "cycle")) (oSome (eVar 2)) (oNo)) (eSl (rd1 (eVar 0) (fldK "Calendar" "cycle")) (oNo) (oSome (eVar 2))) addK)) (aNil)) (aCons (aV (eVar 3)) (aNil)))))))
def fn_moved : Fn := fnD 2 6 dn_moved
theorem sc__law_well : FnScope ["_law_cell"] ["_law_cell"] (defScope s__law_well) := ⟨rfl, rfl, rfl, by decide +kernel, rfl, by decide +kernel, by decide +kernel⟩
def dn__law_well : M Flo :=
  sRet (eLst (aCons (aV (rd2 (eVar 0) (rd1 (rd2 (eVar 0) (rd2 (eC (.int 10)) (eC (.int 18)) powI) geI) intK) mulK)) (aCons (aV (rd2 (rd1 (eVar 0) intK) (eC (.int 2147483647)) modI)) (aCons (aV (eC (.int 0))) (aNil)))))
def fn__law_well : Fn := fnD 1 1 dn__law_well
theorem sc__law_draw : FnScope ["_law_well_here", "_law_many", "_law_found", "_law_number"] ["_law_well_here", "_law_many"] (defScope s__law_draw) := ⟨rfl, rfl, rfl, by decide +kernel, rfl, by decide +kernel, by decide +kernel⟩
def dn__law_draw : M Flo :=
  sSeq (sIf (asB (rd2 (rd2 (eVar 0) (eC (.int 0)) ixK) (eC (.int 0)) gtI))
  (sSeq (sSet 2 (rd2 (rd1 (rd2 (eVar 0) (eC (.int 0)) ixK) intK) (eVar 1) modI))
  (sSeq (sSetIx 0 (rd2 (rd2 (eVar 0) (eC (.int 0)) ixK) (eVar 1) fdivI) (eC (.int 0)))
  (sRet (eVar 2))))
  (sNil))
  (sSeq (sSetIx 0 (rd2 (rd2 (eVar 0) (eC (.int 2)) ixK) (eC (.int 1)) addK) (eC (.int 2)))
  (sSeq (sSet 3 (rd2 (rd1 (rd2 (rd2 (rd2 (rd2 (eVar 0) (eC (.int 1)) ixK) (rd2 (eC (.int 90001)) (rd2 (eVar 0) (eC (.int 2)) ixK) mulK) addK) (eC (.int 7)) addK) (eC (.int 48271)) mulK) intK) (eC (.int 2147483647)) modI))
  (sSeq (sSet 3 (rd2 (rd1 (rd2 (eVar 3) (rd2 (rd2 (eVar 3) (eC (.int 1013)) fdivI) (eC (.int 69621)) addK) mulK) intK) (eC (.int 2147483629)) modI))
  (sRet (rd2 (rd1 (rd2 (rd2 (rd1 (rd2 (eVar 3) (rd2 (rd2 (eVar 3) (eC (.int 2011)) fdivI) (eC (.int 40692)) addK) mulK) intK) (eC (.int 2147483399)) modI) (eC (.int 3)) fdivI) intK) (eVar 1) modI)))))
def fn__law_draw : Fn := fnD 2 4 dn__law_draw
theorem sc__law_one : FnScope ["_law_well_here", "_law_some"] ["_law_well_here", "_law_some"] (defScope s__law_one) := ⟨rfl, rfl, rfl, by decide +kernel, rfl, by decide +kernel, by decide +kernel⟩
def dn__law_one : M Flo :=
  sRet (rd2 (eVar 1) (eCall fn__law_draw (aCons (aIO 0) (aCons (aV (rd1 (eVar 1) lenK)) (aNil)))) ixK)
def fn__law_one : Fn := fnD 2 2 dn__law_one
theorem sc__law_parts : FnScope ["_law_well_here", "_law_far_here", "_law_whole_so", "_law_turn_here", "_law_found", "_law_slot"] ["_law_well_here", "_law_far_here"] (defScope s__law_parts) := ⟨rfl, rfl, rfl, by decide +kernel, rfl, by decide +kernel, by decide +kernel⟩
def le__law_parts_1 (e : Sl) : Res RV :=
  (rd2 (eCall fn__law_draw (aCons (aIO 0) (aCons (aV (eC (.int 3))) (aNil)))) (eC (.int 0)) gtI) e
def lb__law_parts_1 (e : Sl) : Res Flo :=
  (sSeq (sApp 4 (eTup (aCons (aV (eVar 5)) (aCons (aV (rd2 (eCall fn__law_draw (aCons (aIO 0) (aCons (aV (eC (.int 2))) (aNil)))) (eC (.int 0)) eqK)) (aNil)))))
  (sSet 5 (rd2 (rd2 (eVar 5) (eC (.int 1)) addK) (eCall fn__law_draw (aCons (aIO 0) (aCons (aV (eC (.int 5))) (aNil)))) addK))) e
def dn__law_parts : M Flo :=
  sSeq (sSet 2 (eLc (itW1 (rd2 (eC (.int 1)) (eCall fn__law_draw (aCons (aIO 0) (aCons (aV (eC (.int 14))) (aNil)))) addK)) (tName 3) (tYesD) (le__law_parts_1) [3]))
  (sSeq (sSetIx 2 (eC (.bl true)) (eCall fn__law_draw (aCons (aIO 0) (aCons (aV (rd1 (eVar 2) lenK)) (aNil)))))
  (sSeq (sPar [4, 5] (aCons (aO (eLst (aNil))) (aCons (aO (rd2 (eVar 1) (eCall fn__law_draw (aCons (aIO 0) (aCons (aV (eC (.int 4))) (aNil)))) addK)) (aNil))))
  (sSeq (sFor (itW1 (eCall fn__law_draw (aCons (aIO 0) (aCons (aV (eC (.int 11))) (aNil))))) (tName 3)
  (lb__law_parts_1))
  (sRet (eTup (aCons (aV (rd1 (eVar 2) tupK)) (aCons (aV (rd1 (eVar 4) tupK)) (aNil))))))))
def fn__law_parts : Fn := fnD 2 6 dn__law_parts
theorem sc__law_works : FnScope ["_law_parts_here", "_law_slot", "_law_one_here", "_law_is_on"] ["_law_parts_here", "_law_slot"] (defScope s__law_works) := ⟨rfl, rfl, rfl, by decide +kernel, rfl, by decide +kernel, by decide +kernel⟩
def lb__law_works_1 (e : Sl) : Res Flo :=
  (sIf (asB (rd2 (eVar 2) (eVar 1) eqK))
  (sRet (eVar 3))
  (sNil)) e
def dn__law_works : M Flo :=
  sSeq (sFor (itSeq (rd2 (eVar 0) (eC (.int 1)) ixK)) (tTupD 2 (tsCons (tName 2) (tsCons (tName 3) (tsNil))))
  (lb__law_works_1))
  (sRet (rd2 (rd2 (eVar 0) (eC (.int 0)) ixK) (rd2 (rd1 (eVar 1) intK) (rd1 (rd2 (eVar 0) (eC (.int 0)) ixK) lenK) modI) ixK))
def fn__law_works : Fn := fnD 2 4 dn__law_works
theorem sc__law_calendar : FnScope ["_law_well_here", "_law_parts_here", "_law_whole_so", "_law_more"] ["_law_well_here", "_law_parts_here"] (defScope s__law_calendar) := ⟨rfl, rfl, rfl, by decide +kernel, rfl, by decide +kernel, by decide +kernel⟩
def dn__law_calendar : M Flo :=
  sSeq (sPar [2, 3] (aCons (aO (eCall fn__law_one (aCons (aIO 0) (aCons (aV (eLst (aCons (aV (rd2 (eVar 1) (eC (.int 0)) ixK)) (aCons (aV (rd1 (rd2 (eVar 1) (eC (.int 0)) ixK) lstK)) (aNil))))) (aNil))))) (aCons (aO (eCall fn__law_one (aCons (aIO 0) (aCons (aV (eLst (aCons (aV (rd2 (eVar 1) (eC (.int 1)) ixK)) (aCons (aV (rd1 (rd2 (eVar 1) (eC (.int 1)) ixK) lstK)) (aNil))))) (aNil))))) (aNil))))
  (sRet (eMake fn_Calendar "Calendar" 1 1 (fun a b => a ++ b) (aCons (aV (eVar 2)) (aNil)) (aCons (aV (eVar 3)) (aNil))))
def fn__law_calendar : Fn := fnD 2 4 dn__law_calendar
theorem sc__law_far : FnScope ["_law_well_here"] ["_law_well_here"] (defScope s__law_far) := ⟨rfl, rfl, rfl, by decide +kernel, rfl, by decide +kernel, by decide +kernel⟩
def dn__law_far : M Flo :=
  sRet (eCall fn__law_one (aCons (aIO 0) (aCons (aV (eLst (aCons (aV (eC (.int 0))) (aCons (aV (eC (.int 0))) (aCons (aV (eC (.int 9))) (aCons (aV (rd2 (eC (.int 10)) (eC (.int 6)) powI)) (aCons (aV (rd2 (rd2 (eC (.int 10)) (eC (.int 18)) powI) (eC (.int 5)) addK)) (aCons (aV (rd2 (eC (.int 10)) (eC (.int 30)) powI)) (aCons (aV (rd2 (rd2 (eC (.int 2)) (eC (.int 64)) powI) (eC (.int 3)) subI)) (aNil)))))))))) (aNil))))
def fn__law_far : Fn := fnD 1 1 dn__law_far
theorem sc__law_others : FnScope ["_law_well_here", "_law_parts_here", "_law_far_here", "_law_whole_so", "_law_more", "_law_last", "_law_found", "_law_plain", "_law_one_here", "_law_slot", "_law_at"] ["_law_well_here", "_law_parts_here", "_law_far_here"] (defScope s__law_others) := ⟨rfl, rfl, rfl, by decide +kernel, rfl, by decide +kernel, by decide +kernel⟩
def lp__law_others_1 (e : Sl) : Res Bool :=
  (asB (rd2 (rd2 (eVar 8) (eC (.int 1)) ixK) (rd2 (eVar 3) (rd2 (rd1 (rd2 (eVar 8) (eC (.int 0)) ixK) intK) (rd1 (eVar 3) lenK) modI) ixK) neK)) e
def le__law_others_1 (e : Sl) : Res RV :=
  (eVar 8) e
def lp__law_others_2 (e : Sl) : Res Bool :=
  (mAnd (asB (rd2 (rd1 (rd2 (eVar 8) (eC (.int 0)) ixK) lenK) (eC (.int 15)) ltI)) (mAnd (asB (rd2 (rd1 (rd2 (eVar 8) (eC (.int 1)) ixK) lenK) (eC (.int 11)) ltI)) (asB (rd2 (eC (.bl true)) (rd2 (eVar 8) (eC (.int 0)) ixK) inK)))) e
def le__law_others_2 (e : Sl) : Res RV :=
  (eVar 8) e
def dn__law_others : M Flo :=
  sSeq (sAsg (eVar 1) (tTupD 2 (tsCons (tName 3) (tsCons (tName 4) (tsNil)))))
  (sSeq (sSet 5 (eIf (asB (rd2 (eVar 4) (eTup (aNil)) neK)) (rd2 (rd2 (eVar 4) (rd1 (eC (.int 1)) negI) ixK) (eC (.int 0)) ixK) (eVar 2)))
  (sSeq (sSet 6 (eLst (aCons (aV (eTup (aCons (aV (eVar 3)) (aCons (aV (eVar 4)) (aNil))))) (aCons (aV (eCall fn__law_parts (aCons (aIO 0) (aCons (aV (eCall fn__law_one (aCons (aIO 0) (aCons (aV (eLst (aCons (aV (eC (.int 0))) (aCons (aV (eVar 2)) (aNil))))) (aNil))))) (aNil))))) (aCons (aV (eTup (aCons (aV (rd2 (eVar 3) (eC (.int 2)) mulK)) (aCons (aV (eVar 4)) (aNil))))) (aNil))))))
  (sSeq (sSet 7 (rd1 (eLc (itSeq (eVar 4)) (tName 8) (lp__law_others_1) (le__law_others_1) [8]) tupK))
  (sSeq (sApp 6 (eTup (aCons (aV (eVar 3)) (aCons (aV (eVar 7)) (aNil)))))
  (sSeq (sSet 9 (rd2 (rd2 (eVar 5) (eC (.int 1)) addK) (eCall fn__law_draw (aCons (aIO 0) (aCons (aV (eC (.int 300))) (aNil)))) addK))
  (sSeq (sApp 6 (eTup (aCons (aV (eVar 3)) (aCons (aV (rd2 (eVar 4) (eTup (aCons (aV (eTup (aCons (aV (eVar 9)) (aCons (aV (rd2 (eVar 3) (rd2 (rd1 (eVar 9) intK) (rd1 (eVar 3) lenK) modI) ixK)) (aNil))))) (aNil))) addK)) (aNil)))))
  (sSeq (sApp 6 (eTup (aCons (aV (eVar 3)) (aCons (aV (rd2 (eVar 4) (eTup (aCons (aV (eTup (aCons (aV (eVar 9)) (aCons (aV (eNot (rd2 (eVar 3) (rd2 (rd1 (eVar 9) intK) (rd1 (eVar 3) lenK) modI) ixK))) (aNil))))) (aNil))) addK)) (aNil)))))
  (sSeq (sSet 10 (eCall fn__law_draw (aCons (aIO 0) (aCons (aV (rd1 (eVar 3) lenK)) (aNil)))))
  (sSeq (sApp 6 (eTup (aCons (aV (rd2 (rd2 (eSl (eVar 3) (oNo) (oSome (eVar 10))) (eTup (aCons (aV (eNot (rd2 (eVar 3) (eVar 10) ixK))) (aNil))) addK) (eSl (eVar 3) (oSome (rd2 (eVar 10) (eC (.int 1)) addK)) (oNo)) addK)) (aCons (aV (eVar 4)) (aNil)))))
  (sRet (eLc (itSeq (eVar 6)) (tName 8) (lp__law_others_2) (le__law_others_2) [8])))))))))))
def fn__law_others : Fn := fnD 3 11 dn__law_others
theorem sc__law_difference : FnScope ["_law_one_here", "_law_other", "_law_some", "_law_row", "_law_slot"] ["_law_one_here", "_law_other"] (defScope s__law_difference) := ⟨rfl, rfl, rfl, by decide +kernel, rfl, by decide +kernel, by decide +kernel⟩
def le__law_difference_1 (e : Sl) : Res RV :=
  (rd2 (eVar 3) (eC (.int 0)) ixK) e
def lb__law_difference_1 (e : Sl) : Res Flo :=
  (sIf (asB (rd2 (eCall fn__law_works (aCons (aV (eVar 0)) (aCons (aV (eVar 4)) (aNil)))) (eCall fn__law_works (aCons (aV (eVar 1)) (aCons (aV (eVar 4)) (aNil)))) neK))
  (sRet (eVar 4))
  (sNil)) e
def dn__law_difference : M Flo :=
  sSeq (sSet 2 (rd2 (eLR1 (eC (.int 420))) (rd1 (eLc (itSeq (rd2 (rd2 (eVar 0) (eC (.int 1)) ixK) (rd2 (eVar 1) (eC (.int 1)) ixK) addK)) (tName 3) (tYesD) (le__law_difference_1) [3]) sortedK) addK))
  (sSeq (sFor (itSeq (eVar 2)) (tName 4)
  (lb__law_difference_1))
  (sRet (eC .non)))
def fn__law_difference : Fn := fnD 2 5 dn__law_difference
theorem sc__law_turn : FnScope ["_law_parts_here", "_law_whole_so", "_law_size", "_law_first", "_law_some", "_law_many", "_law_slot", "_law_is_on"] ["_law_parts_here"] (defScope s__law_turn) := ⟨rfl, rfl, rfl, by decide +kernel, rfl, by decide +kernel, by decide +kernel⟩
def lp__law_turn_1 (e : Sl) : Res Bool :=
  (asB (rd2 (rd2 (eSl (eVar 1) (oSome (eVar 5)) (oNo)) (eSl (eVar 1) (oNo) (oSome (eVar 5))) addK) (eVar 1) eqK)) e
def le__law_turn_1 (e : Sl) : Res RV :=
  (eVar 5) e
def lb__law_turn_1 (e : Sl) : Res Flo :=
  (sIf (asB (rd2 (eVar 7) (rd2 (eVar 1) (rd2 (rd1 (eVar 6) intK) (eVar 2) modI) ixK) neK))
  (sSet 3 (rd2 (eVar 6) (eC (.int 1)) addK))
  (sNil)) e
def dn__law_turn : M Flo :=
  sSeq (sAsg (eTup (aCons (aV (rd2 (eVar 0) (eC (.int 0)) ixK)) (aCons (aV (rd1 (rd2 (eVar 0) (eC (.int 0)) ixK) lenK)) (aCons (aV (eC (.int 0))) (aNil))))) (tTupD 3 (tsCons (tName 1) (tsCons (tName 2) (tsCons (tName 3) (tsNil))))))
  (sSeq (sSet 4 (eLc (itW2 (eC (.int 1)) (rd2 (eVar 2) (eC (.int 1)) addK)) (tName 5) (lp__law_turn_1) (le__law_turn_1) [5]))
  (sSeq (sFor (itSeq (rd2 (eVar 0) (eC (.int 1)) ixK)) (tTupD 2 (tsCons (tName 6) (tsCons (tName 7) (tsNil))))
  (lb__law_turn_1))
  (sRet (eTup (aCons (aV (eVar 3)) (aCons (aV (rd2 (eVar 4) (eC (.int 0)) ixK)) (aNil)))))))
def fn__law_turn : Fn := fnD 1 8 dn__law_turn
theorem sc__law_turn_right : FnScope ["_law_parts_here", "_law_told", "_law_first", "_law_period", "_law_slot"] ["_law_parts_here", "_law_told"] (defScope s__law_turn_right) := ⟨rfl, rfl, rfl, by decide +kernel, rfl, by decide +kernel, by decide +kernel⟩
def lb__law_turn_right_1 (e : Sl) : Res Flo :=
  (sIf (asB (rd2 (eCall fn__law_works (aCons (aV (eVar 0)) (aCons (aV (eVar 4)) (aNil)))) (eCall fn__law_works (aCons (aV (eVar 0)) (aCons (aV (rd2 (eVar 4) (eVar 3) addK)) (aNil)))) neK))
  (sRet (eC (.bl false)))
  (sNil)) e
def dn__law_turn_right : M Flo :=
  sSeq (sAsg (eVar 1) (tTupD 2 (tsCons (tName 2) (tsCons (tName 3) (tsNil)))))
  (sSeq (sFor (itW2 (eVar 2) (rd2 (eVar 2) (eC (.int 40)) addK)) (tName 4)
  (lb__law_turn_right_1))
  (sRet (eOr (rd2 (eVar 2) (eC (.int 0)) eqK) (rd2 (eCall fn__law_works (aCons (aV (eVar 0)) (aCons (aV (rd2 (eVar 2) (eC (.int 1)) subI)) (aNil)))) (eCall fn__law_works (aCons (aV (eVar 0)) (aCons (aV (rd2 (rd2 (eVar 2) (eC (.int 1)) subI) (eVar 3) addK)) (aNil)))) neK))))
def fn__law_turn_right : Fn := fnD 2 5 dn__law_turn_right
theorem sc__law_right : FnScope ["_law_well_here", "_law_far_here", "_law_parts_here", "_law_made", "_law_one_here", "_law_other", "_law_due", "_law_many", "_law_told", "_law_slot"] ["_law_well_here"] (defScope s__law_right) := ⟨rfl, rfl, rfl, by decide +kernel, rfl, by decide +kernel, by decide +kernel⟩
noncomputable def lb__law_right_1 (e : Sl) : Res Flo :=
  (sSeq (sPar [5, 6] (aCons (aO (eMake fn_Calendar "Calendar" 1 1 (fun a b => a ++ b) (aCons (aV (rd2 (eVar 4) (eC (.int 0)) ixK)) (aNil)) (aCons (aV (rd2 (eVar 4) (eC (.int 1)) ixK)) (aNil)))) (aCons (aO (eCall fn__law_difference (aCons (aV (eVar 2)) (aCons (aV (eVar 4)) (aNil))))) (aNil))))
  (sIf (mOr (asB (rd2 (eCall fn_first_difference (aCons (aV (eVar 3)) (aCons (aV (eVar 5)) (aNil)))) (eVar 6) neK)) (asB (rd2 (eCall fn_first_difference (aCons (aV (eVar 5)) (aCons (aV (eVar 3)) (aNil)))) (eVar 6) neK)))
  (sRet (eC (.bl false)))
  (sNil))) e
noncomputable def lb__law_right_2 (e : Sl) : Res Flo :=
  (sIf (asB (rd2 (eCall fn_is_work (aCons (aV (eVar 8)) (aCons (aV (eVar 9)) (aNil)))) (eCall fn__law_works (aCons (aV (eVar 2)) (aCons (aV (rd2 (eVar 9) (eVar 7) addK)) (aNil)))) neK))
  (sRet (eC (.bl false)))
  (sNil)) e
noncomputable def lb__law_right_3 (e : Sl) : Res Flo :=
  (sSeq (sSet 8 (eCall fn_moved (aCons (aV (eVar 3)) (aCons (aV (eVar 7)) (aNil)))))
  (sFor (itW1 (eC (.int 45))) (tName 9)
  (lb__law_right_2))) e
noncomputable def dn__law_right : M Flo :=
  sSeq (sSet 1 (eCall fn__law_far (aCons (aIO 0) (aNil))))
  (sSeq (sSet 2 (eCall fn__law_parts (aCons (aIO 0) (aCons (aV (eVar 1)) (aNil)))))
  (sSeq (sSet 3 (eCall fn__law_calendar (aCons (aIO 0) (aCons (aV (eVar 2)) (aNil)))))
  (sSeq (sIf (mOr (asB (rd2 (eCall fn_turn_of (aCons (aV (eVar 3)) (aNil))) (eCall fn__law_turn (aCons (aV (eVar 2)) (aNil))) neK)) (mNot (asB (eCall fn__law_turn_right (aCons (aV (eVar 2)) (aCons (aV (eCall fn_turn_of (aCons (aV (eVar 3)) (aNil)))) (aNil)))))))
  (sRet (eC (.bl false)))
  (sNil))
  (sSeq (sFor (itSeq (eCall fn__law_others (aCons (aIO 0) (aCons (aV (eVar 2)) (aCons (aV (eVar 1)) (aNil)))))) (tName 4)
  (lb__law_right_1))
  (sSeq (sFor (itSeq (eLst (aCons (aV (eC (.int 0))) (aCons (aV (eC (.int 1))) (aCons (aV (rd2 (eVar 1) (eCall fn__law_draw (aCons (aIO 0) (aCons (aV (eC (.int 40))) (aNil)))) addK)) (aCons (aV (rd2 (rd2 (eC (.int 10)) (eC (.int 33)) powI) (eCall fn__law_draw (aCons (aIO 0) (aCons (aV (eC (.int 20))) (aNil)))) addK)) (aNil))))))) (tName 7)
  (lb__law_right_3))
  (sRet (eOr (rd2 (eCall fn_moved (aCons (aV (eVar 3)) (aCons (aV (eC (.int 0))) (aNil)))) (eVar 3) (ownEqK "Calendar" fn_Calendar_eq)) (rd1 (eCall fn_first_difference (aCons (aV (eCall fn_moved (aCons (aV (eVar 3)) (aCons (aV (eC (.int 0))) (aNil))))) (aCons (aV (eVar 3)) (aNil)))) isN))))))))
noncomputable def fn__law_right : Fn := fnD 1 10 dn__law_right
theorem sc_law : FnScope ["_law_script", "_law_cell", "_law_well_here"] ["_law_script"] (defScope s_law) := ⟨rfl, rfl, rfl, by decide +kernel, rfl, by decide +kernel, by decide +kernel⟩
noncomputable def lb_law_1 (e : Sl) : Res Flo :=
  (sSeq (sSet 2 (eCall fn__law_well (aCons (aV (eVar 1)) (aNil))))
  (sIf (mNot (asB (eCall fn__law_right (aCons (aIO 2) (aNil)))))
  (sRet (eC (.bl false)))
  (sNil))) e
noncomputable def dn_law : M Flo :=
  sSeq (sFor (itSeq (rd2 (eSl (eVar 0) (oNo) (oSome (eC (.int 4)))) (eLst (aCons (aV (eC (.int 0))) (aNil))) addK)) (tName 1)
  (lb_law_1))
  (sRet (eC (.bl true)))
noncomputable def fn_law : Fn := fnD 1 3 dn_law
section
variable {P : Program} {w : World} {K : PySem.W.Frag} {mg : Mg}
theorem ok_is_int (T : Txt K mg)  : CallOk P w K mg "is_int" 1 ["value"] fn_is_int :=
  T.d_is_int.ok fun f fd F base => fn_den F sc_is_int rfl rfl (by decide) fun cdv A outer s H E hr tk po => dss_one (ds_ret (de_and (de_isi (by rfl) T.b_isinstance (by rfl) T.b_int (by decide +kernel) (by decide) (de_var 0)) (de_one (de_not (de_isi (by rfl) T.b_isinstance (by rfl) T.b_bool (by decide +kernel) (by decide) (de_var 0))))))
theorem ok_divisor_of (T : Txt K mg)  : CallOk P w K mg "divisor_of" 1 ["one", "other"] fn_divisor_of :=
  T.d_divisor_of.ok fun f fd F base => fn_den F sc_divisor_of rfl rfl (by decide) fun cdv A outer s H E hr tk po => dss_cons (ds_while po (dt_ne hr (de_var 1) (de_int)) (dss_one (ds_par2 0 1 rfl sc_divisor_of.nd (da2_cons (de_var 1) (da2_cons (de_mod (de_var 0) (de_var 1)) (da2_nil))))))
  (dss_one (ds_ret (de_abs (by rfl) T.b_abs (de_var 0))))
theorem ok_is_slot (T : Txt K mg) (C_is_int : CallOk P w K mg "is_int" 1 ["value"] fn_is_int) : CallOk P w K mg "is_slot" 2 ["value"] fn_is_slot :=
  T.d_is_slot.ok fun f fd F base => fn_den F sc_is_slot rfl rfl (by decide) fun cdv A outer s H E hr tk po => dss_one (ds_ret (de_and (de_callN C_is_int (hr.mono (by decide)) tk (by rfl) (da_cons (de_var 0) (da_nil))) (de_one (de_ge (de_var 0) (de_int)))))
theorem ok_check_cycle (T : Txt K mg)  : CallOk P w K mg "check_cycle" 1 ["cycle"] fn_check_cycle :=
  T.d_check_cycle.ok fun f fd F base => fn_den F sc_check_cycle rfl rfl (by decide) fun cdv A outer s H E hr tk po => dss_cons (ds_if (DW.dt (dw_or (dt_not (dt_val (de_isi2 (by rfl) T.b_isinstance (by rfl) T.b_list (by decide +kernel) (by decide) (by rfl) T.b_tuple (by decide +kernel) (by decide) (de_var 0)))) (dw_or1 (dt_not (dt_chain (pp := (fun i j => decide (i ≤ j))) (qq := (fun i j => decide (i ≤ j))) op_le op_le (de_int) (de_len (by rfl) T.b_len (de_var 0)) (de_globI (by rfl) T.g_MAX_CYCLE.choose_spec)))))) (dss_one (ds_bad)) (dss_nil))
  (dss_cons (ds_for po rfl (di_enum (by rfl) T.b_enumerate (de_var 0)) (dg_tup rfl (dgs_cons (dg_name 1 sc_check_cycle.nd) (dgs_cons (dg_name 2 sc_check_cycle.nd) (dgs_nil)))) (dss_one (ds_if (dt_not (dt_val (de_isi (by rfl) T.b_isinstance (by rfl) T.b_bool (by decide +kernel) (by decide) (de_var 2)))) (dss_one (ds_bad)) (dss_nil))))
  (dss_one (ds_if (dt_nin hr (de_bl) (de_var 0)) (dss_one (ds_bad)) (dss_nil))))
theorem ok_is_change (T : Txt K mg) (C_is_slot : CallOk P w K mg "is_slot" 2 ["value"] fn_is_slot) : CallOk P w K mg "is_change" 3 ["value"] fn_is_change :=
  T.d_is_change.ok fun f fd F base => fn_den F sc_is_change rfl rfl (by decide) fun cdv A outer s H E hr tk po => dss_one (ds_ret (de_and (de_isi (by rfl) T.b_isinstance (by rfl) T.b_tuple (by decide +kernel) (by decide) (de_var 0)) (de_and (de_eq hr (de_len (by rfl) T.b_len (de_var 0)) (de_int)) (de_and (de_callN C_is_slot (hr.mono (by decide)) tk (by rfl) (da_cons (de_ix (de_var 0) (de_int)) (da_nil))) (de_one (de_isi (by rfl) T.b_isinstance (by rfl) T.b_bool (by decide +kernel) (by decide) (de_ix (de_var 0) (de_int))))))))
theorem ok_check_changes (T : Txt K mg) (C_is_change : CallOk P w K mg "is_change" 3 ["value"] fn_is_change) : CallOk P w K mg "check_changes" 4 ["changes"] fn_check_changes :=
  T.d_check_changes.ok fun f fd F base => fn_den F sc_check_changes rfl rfl (by decide) fun cdv A outer s H E hr tk po => dss_cons (ds_if (DW.dt (dw_or (dt_not (dt_val (de_isi2 (by rfl) T.b_isinstance (by rfl) T.b_list (by decide +kernel) (by decide) (by rfl) T.b_tuple (by decide +kernel) (by decide) (de_var 0)))) (dw_or1 (dt_gt (de_len (by rfl) T.b_len (de_var 0)) (de_globI (by rfl) T.g_MAX_CHANGES.choose_spec))))) (dss_one (ds_bad)) (dss_nil))
  (dss_cons (ds_set 1 (de_neg (de_int)) sc_check_changes.nd)
  (dss_one (ds_for po rfl (di_enum (by rfl) T.b_enumerate (de_var 0)) (dg_tup rfl (dgs_cons (dg_name 2 sc_check_changes.nd) (dgs_cons (dg_name 3 sc_check_changes.nd) (dgs_nil)))) (dss_cons (ds_if (DW.dt (dw_or (dt_not (dt_val (de_callN C_is_change (hr.mono (by decide)) tk (by rfl) (da_cons (de_var 3) (da_nil))))) (dw_or1 (dt_le (de_ix (de_var 3) (de_int)) (de_var 1))))) (dss_one (ds_bad)) (dss_nil))
  (dss_one (ds_set 1 (de_ix (de_var 3) (de_int)) sc_check_changes.nd))))))
theorem ok_Calendar_0 (T : Txt K mg) (C_check_changes : CallOk P w K mg "check_changes" 4 ["changes"] fn_check_changes) (C_check_cycle : CallOk P w K mg "check_cycle" 1 ["cycle"] fn_check_cycle) : MakeOk P w K mg "Calendar" 5 ["self", "cycle", "changes"] fn_Calendar 1 ["changes"] (fun a b => a ++ b) := by
  obtain ⟨C, f, fd, m, M, ⟨kws, F⟩, fo0, fo1, fo2⟩ := T.i_Calendar
  exact ⟨C, f, fd, m, M, fun base => fn_denI F sc_Calendar rfl rfl (by decide) fun cdv A outer s H E hr tk po => dss_cons (ds_expr (de_callN C_check_cycle (hr.mono (by decide)) tk (by rfl) (da_cons (de_var 1) (da_nil))))
  (dss_cons (ds_expr (de_callN C_check_changes (hr.mono (by decide)) tk (by rfl) (da_cons (de_var 2) (da_nil))))
  (dss_cons (ds_fldSet 0 T.c_Calendar.choose_spec.1.mgC T.c_Calendar.choose_spec.1.cl T.c_Calendar.choose_spec.2.n_cycle (de_tupleOf (by rfl) T.b_tuple (de_var 1)))
  (dss_one (ds_fldSet 0 T.c_Calendar.choose_spec.1.mgC T.c_Calendar.choose_spec.1.cl T.c_Calendar.choose_spec.2.n_changes (de_tupleOf (by rfl) T.b_tuple (de_var 2)))))), fo0⟩
theorem ok_Calendar_1 (T : Txt K mg) (C_check_changes : CallOk P w K mg "check_changes" 4 ["changes"] fn_check_changes) (C_check_cycle : CallOk P w K mg "check_cycle" 1 ["cycle"] fn_check_cycle) : MakeOk P w K mg "Calendar" 5 ["self", "cycle", "changes"] fn_Calendar 0 ["changes", "cycle"] (fun _ b => swap2 b) := by
  obtain ⟨C, f, fd, m, M, ⟨kws, F⟩, fo0, fo1, fo2⟩ := T.i_Calendar
  exact ⟨C, f, fd, m, M, fun base => fn_denI F sc_Calendar rfl rfl (by decide) fun cdv A outer s H E hr tk po => dss_cons (ds_expr (de_callN C_check_cycle (hr.mono (by decide)) tk (by rfl) (da_cons (de_var 1) (da_nil))))
  (dss_cons (ds_expr (de_callN C_check_changes (hr.mono (by decide)) tk (by rfl) (da_cons (de_var 2) (da_nil))))
  (dss_cons (ds_fldSet 0 T.c_Calendar.choose_spec.1.mgC T.c_Calendar.choose_spec.1.cl T.c_Calendar.choose_spec.2.n_cycle (de_tupleOf (by rfl) T.b_tuple (de_var 1)))
  (dss_one (ds_fldSet 0 T.c_Calendar.choose_spec.1.mgC T.c_Calendar.choose_spec.1.cl T.c_Calendar.choose_spec.2.n_changes (de_tupleOf (by rfl) T.b_tuple (de_var 2)))))), fo1⟩
theorem ok_Calendar_2 (T : Txt K mg) (C_check_changes : CallOk P w K mg "check_changes" 4 ["changes"] fn_check_changes) (C_check_cycle : CallOk P w K mg "check_cycle" 1 ["cycle"] fn_check_cycle) : MakeOk P w K mg "Calendar" 5 ["self", "cycle", "changes"] fn_Calendar 1 [] (fun a _ => a ++ [.tup []]) := by
  obtain ⟨C, f, fd, m, M, ⟨kws, F⟩, fo0, fo1, fo2⟩ := T.i_Calendar
  exact ⟨C, f, fd, m, M, fun base => fn_denI F sc_Calendar rfl rfl (by decide) fun cdv A outer s H E hr tk po => dss_cons (ds_expr (de_callN C_check_cycle (hr.mono (by decide)) tk (by rfl) (da_cons (de_var 1) (da_nil))))
  (dss_cons (ds_expr (de_callN C_check_changes (hr.mono (by decide)) tk (by rfl) (da_cons (de_var 2) (da_nil))))
  (dss_cons (ds_fldSet 0 T.c_Calendar.choose_spec.1.mgC T.c_Calendar.choose_spec.1.cl T.c_Calendar.choose_spec.2.n_cycle (de_tupleOf (by rfl) T.b_tuple (de_var 1)))
  (dss_one (ds_fldSet 0 T.c_Calendar.choose_spec.1.mgC T.c_Calendar.choose_spec.1.cl T.c_Calendar.choose_spec.2.n_changes (de_tupleOf (by rfl) T.b_tuple (de_var 2)))))), fo2⟩
theorem ok_Calendar_eq (T : Txt K mg)  : EqOk P w K mg "Calendar" 1 ["self", "other"] fn_Calendar_eq := by
  obtain ⟨C, f, fd, m, EE, NN, F, B⟩ := T.e_Calendar
  exact ⟨C, f, fd, m, EE, NN, fun base => fn_denI F sc_Calendar_eq rfl rfl (by decide) fun cdv A outer s H E hr tk po => dss_one (ds_ret (de_and (de_isiC (by rfl) T.b_isinstance (by rfl) T.c_Calendar.choose_spec.1 (de_var 1)) (de_one (de_eq hr (de_tup (da_cons (de_fld T.c_Calendar.choose_spec.1.mgC T.c_Calendar.choose_spec.1.cl T.c_Calendar.choose_spec.2.n_cycle (de_var 0)) (da_cons (de_fld T.c_Calendar.choose_spec.1.mgC T.c_Calendar.choose_spec.1.cl T.c_Calendar.choose_spec.2.n_changes (de_var 0)) (da_nil)))) (de_tup (da_cons (de_fld T.c_Calendar.choose_spec.1.mgC T.c_Calendar.choose_spec.1.cl T.c_Calendar.choose_spec.2.n_cycle (de_var 1)) (da_cons (de_fld T.c_Calendar.choose_spec.1.mgC T.c_Calendar.choose_spec.1.cl T.c_Calendar.choose_spec.2.n_changes (de_var 1)) (da_nil)))))))), B⟩
theorem ok_check_calendar (T : Txt K mg)  : CallOk P w K mg "check_calendar" 1 ["value", "part"] fn_check_calendar :=
  T.d_check_calendar.ok fun f fd F base => fn_den F sc_check_calendar rfl rfl (by decide) fun cdv A outer s H E hr tk po => dss_one (ds_if (dt_not (dt_val (de_isiC (by rfl) T.b_isinstance (by rfl) T.c_Calendar.choose_spec.1 (de_var 0)))) (dss_one (ds_bad)) (dss_nil))
theorem ok_check_slot (T : Txt K mg) (C_is_slot : CallOk P w K mg "is_slot" 2 ["value"] fn_is_slot) : CallOk P w K mg "check_slot" 3 ["value", "part"] fn_check_slot :=
  T.d_check_slot.ok fun f fd F base => fn_den F sc_check_slot rfl rfl (by decide) fun cdv A outer s H E hr tk po => dss_one (ds_if (dt_not (dt_val (de_callN C_is_slot (hr.mono (by decide)) tk (by rfl) (da_cons (de_var 0) (da_nil))))) (dss_one (ds_bad)) (dss_nil))
theorem ok_planned (T : Txt K mg)  : CallOk P w K mg "planned" 1 ["calendar", "slot"] fn_planned :=
  T.d_planned.ok fun f fd F base => fn_den F sc_planned rfl rfl (by decide) fun cdv A outer s H E hr tk po => dss_one (ds_ret (de_ix (de_fld T.c_Calendar.choose_spec.1.mgC T.c_Calendar.choose_spec.1.cl T.c_Calendar.choose_spec.2.n_cycle (de_var 0)) (de_mod (de_var 1) (de_len (by rfl) T.b_len (de_fld T.c_Calendar.choose_spec.1.mgC T.c_Calendar.choose_spec.1.cl T.c_Calendar.choose_spec.2.n_cycle (de_var 0))))))
theorem ok_works (T : Txt K mg) (C_planned : CallOk P w K mg "planned" 1 ["calendar", "slot"] fn_planned) : CallOk P w K mg "works" 2 ["calendar", "slot"] fn_works :=
  T.d_works.ok fun f fd F base => fn_den F sc_works rfl rfl (by decide) fun cdv A outer s H E hr tk po => dss_cons (ds_for po rfl (di_seq (de_fld T.c_Calendar.choose_spec.1.mgC T.c_Calendar.choose_spec.1.cl T.c_Calendar.choose_spec.2.n_changes (de_var 0))) (dg_tup rfl (dgs_cons (dg_name 2 sc_works.nd) (dgs_cons (dg_name 3 sc_works.nd) (dgs_nil)))) (dss_one (ds_if (dt_eq hr (de_var 2) (de_var 1)) (dss_one (ds_ret (de_var 3))) (dss_nil))))
  (dss_one (ds_ret (de_callN C_planned (hr.mono (by decide)) tk (by rfl) (da_cons (de_var 0) (da_cons (de_var 1) (da_nil))))))
theorem ok_is_work (T : Txt K mg) (C_check_calendar : CallOk P w K mg "check_calendar" 1 ["value", "part"] fn_check_calendar) (C_check_slot : CallOk P w K mg "check_slot" 3 ["value", "part"] fn_check_slot) (C_works : CallOk P w K mg "works" 2 ["calendar", "slot"] fn_works) : CallOk P w K mg "is_work" 4 ["calendar", "slot"] fn_is_work :=
  T.d_is_work.ok fun f fd F base => fn_den F sc_is_work rfl rfl (by decide) fun cdv A outer s H E hr tk po => dss_cons (ds_expr (de_callN C_check_calendar (hr.mono (by decide)) tk (by rfl) (da_cons (de_var 0) (da_cons (de_str) (da_nil)))))
  (dss_cons (ds_expr (de_callN C_check_slot (hr.mono (by decide)) tk (by rfl) (da_cons (de_var 1) (da_cons (de_str) (da_nil)))))
  (dss_one (ds_ret (de_callN C_works (hr.mono (by decide)) tk (by rfl) (da_cons (de_var 0) (da_cons (de_var 1) (da_nil)))))))
theorem ok_first_difference (T : Txt K mg) (C_check_calendar : CallOk P w K mg "check_calendar" 1 ["value", "part"] fn_check_calendar) (C_divisor_of : CallOk P w K mg "divisor_of" 1 ["one", "other"] fn_divisor_of) (C_planned : CallOk P w K mg "planned" 1 ["calendar", "slot"] fn_planned) (C_works : CallOk P w K mg "works" 2 ["calendar", "slot"] fn_works) : CallOk P w K mg "first_difference" 3 ["calendar", "other"] fn_first_difference :=
  T.d_first_difference.ok fun f fd F base => fn_den F sc_first_difference rfl rfl (by decide) fun cdv A outer s H E hr tk po => dss_cons (ds_expr (de_callN C_check_calendar (hr.mono (by decide)) tk (by rfl) (da_cons (de_var 0) (da_cons (de_str) (da_nil)))))
  (dss_cons (ds_expr (de_callN C_check_calendar (hr.mono (by decide)) tk (by rfl) (da_cons (de_var 1) (da_cons (de_str) (da_nil)))))
  (dss_cons (ds_par2 2 3 rfl sc_first_difference.nd (da2_cons (de_len (by rfl) T.b_len (de_fld T.c_Calendar.choose_spec.1.mgC T.c_Calendar.choose_spec.1.cl T.c_Calendar.choose_spec.2.n_cycle (de_var 0))) (da2_cons (de_len (by rfl) T.b_len (de_fld T.c_Calendar.choose_spec.1.mgC T.c_Calendar.choose_spec.1.cl T.c_Calendar.choose_spec.2.n_cycle (de_var 1))) (da2_nil))))
  (dss_cons (ds_set 4 (de_fdiv (de_mulK (de_var 2) (de_var 3)) (de_callN C_divisor_of (hr.mono (by decide)) tk (by rfl) (da_cons (de_var 2) (da_cons (de_var 3) (da_nil))))) sc_first_difference.nd)
  (dss_cons (ds_set 5 (de_sorted (by rfl) T.b_sorted (de_lc [("change", 6)] rfl sc_first_difference.nd (di_seq (de_add (de_fld T.c_Calendar.choose_spec.1.mgC T.c_Calendar.choose_spec.1.cl T.c_Calendar.choose_spec.2.n_changes (de_var 0)) (de_fld T.c_Calendar.choose_spec.1.mgC T.c_Calendar.choose_spec.1.cl T.c_Calendar.choose_spec.2.n_changes (de_var 1)))) (by kernel_rfl) (fun _ _ _ _ _ => dg_name 6 sc_first_difference.nd) (fun _ _ _ _ _ => dts_nil) (fun _ _ _ _ _ => de_ix (de_var 6) (de_int)))) sc_first_difference.nd)
  (dss_cons (ds_if (dt_val (de_any rfl (by rfl) T.b_any (de_lc [("slot", 7)] rfl sc_first_difference.nd (di_rangeW1 (by rfl) T.b_range (de_var 4)) (by kernel_rfl) (fun _ _ _ _ _ => dg_name 7 sc_first_difference.nd) (fun _ _ _ _ _ => dts_nil) (fun _ _ _ _ _ => de_ne hr (de_callN C_planned (hr.mono (by decide)) takes0 (by rfl) (da_cons (de_var 0) (da_cons (de_var 7) (da_nil)))) (de_callN C_planned (hr.mono (by decide)) takes0 (by rfl) (da_cons (de_var 1) (da_cons (de_var 7) (da_nil)))))))) (dss_one (ds_set 5 (de_LR1 rfl (by rfl) T.b_list (by rfl) T.b_range (de_mulK (de_var 4) (de_add (de_len (by rfl) T.b_len (de_var 5)) (de_int)))) sc_first_difference.nd)) (dss_nil))
  (dss_cons (ds_for po rfl (di_seq (de_var 5)) (dg_name 7 sc_first_difference.nd) (dss_one (ds_if (dt_ne hr (de_callN C_works (hr.mono (by decide)) tk (by rfl) (da_cons (de_var 0) (da_cons (de_var 7) (da_nil)))) (de_callN C_works (hr.mono (by decide)) tk (by rfl) (da_cons (de_var 1) (da_cons (de_var 7) (da_nil))))) (dss_one (ds_ret (de_var 7))) (dss_nil))))
  (dss_one (ds_ret (de_non)))))))))
theorem ok_turn_of (T : Txt K mg) (C_check_calendar : CallOk P w K mg "check_calendar" 1 ["value", "part"] fn_check_calendar) (C_planned : CallOk P w K mg "planned" 1 ["calendar", "slot"] fn_planned) : CallOk P w K mg "turn_of" 2 ["calendar"] fn_turn_of :=
  T.d_turn_of.ok fun f fd F base => fn_den F sc_turn_of rfl rfl (by decide) fun cdv A outer s H E hr tk po => dss_cons (ds_expr (de_callN C_check_calendar (hr.mono (by decide)) tk (by rfl) (da_cons (de_var 0) (da_cons (de_str) (da_nil)))))
  (dss_cons (ds_asg (de_tup (da_cons (de_fld T.c_Calendar.choose_spec.1.mgC T.c_Calendar.choose_spec.1.cl T.c_Calendar.choose_spec.2.n_cycle (de_var 0)) (da_cons (de_fld T.c_Calendar.choose_spec.1.mgC T.c_Calendar.choose_spec.1.cl T.c_Calendar.choose_spec.2.n_changes (de_var 0)) (da_nil)))) (dg_tup rfl (dgs_cons (dg_name 1 sc_turn_of.nd) (dgs_cons (dg_name 2 sc_turn_of.nd) (dgs_nil)))))
  (dss_cons (ds_setLc 3 [("many", 4)] rfl sc_turn_of.nd rfl rfl (sw_true rfl rfl rfl (by decide +kernel)) (di_rangeW2 (by rfl) T.b_range (de_int) (de_add (de_len (by rfl) T.b_len (de_var 1)) (de_int))) (by kernel_rfl) (fun _ _ _ _ _ => dg_name 4 sc_turn_of.nd) (fun _ _ _ _ _ => dts_one (dt_eq hr (de_mod (de_len (by rfl) T.b_len (de_var 1)) (de_var 4)) (de_int))) (fun _ _ _ _ _ => de_var 4))
  (dss_cons (ds_set 5 (de_ix (de_lc [("many", 4)] rfl sc_turn_of.nd (di_seq (de_var 3)) (by kernel_rfl) (fun _ _ _ _ _ => dg_name 4 sc_turn_of.nd) (fun _ _ _ _ _ => dts_one (dt_eq hr (de_var 1) (de_mulK (de_slice (de_var 1) (do_no) (do_some (de_var 4))) (de_fdiv (de_len (by rfl) T.b_len (de_var 1)) (de_var 4))))) (fun _ _ _ _ _ => de_var 4)) (de_int)) sc_turn_of.nd)
  (dss_cons (ds_setLc 6 [("slot", 7), ("is_on", 8)] rfl sc_turn_of.nd rfl rfl (sw_true rfl rfl rfl (by decide +kernel)) (di_seq (de_var 2)) (by kernel_rfl) (fun _ _ _ _ _ => dg_tup rfl (dgs_cons (dg_name 7 sc_turn_of.nd) (dgs_cons (dg_name 8 sc_turn_of.nd) (dgs_nil)))) (fun _ _ _ _ _ => dts_one (dt_ne hr (de_var 8) (de_callN C_planned (hr.mono (by decide)) takes0 (by rfl) (da_cons (de_var 0) (da_cons (de_var 7) (da_nil)))))) (fun _ _ _ _ _ => de_var 7))
  (dss_one (ds_ret (de_tup (da_cons (de_maxL rfl (by rfl) T.b_max (de_add (de_lc [("slot", 7)] rfl sc_turn_of.nd (di_seq (de_var 6)) (by kernel_rfl) (fun _ _ _ _ _ => dg_name 7 sc_turn_of.nd) (fun _ _ _ _ _ => dts_nil) (fun _ _ _ _ _ => de_add (de_var 7) (de_int))) (de_lst (da_cons (de_int) (da_nil))))) (da_cons (de_var 5) (da_nil))))))))))
theorem ok_moved (T : Txt K mg) (C_check_calendar : CallOk P w K mg "check_calendar" 1 ["value", "part"] fn_check_calendar) (C_check_slot : CallOk P w K mg "check_slot" 3 ["value", "part"] fn_check_slot) (C_Calendar_0 : MakeOk P w K mg "Calendar" 5 ["self", "cycle", "changes"] fn_Calendar 1 ["changes"] (fun a b => a ++ b)) : CallOk P w K mg "moved" 7 ["calendar", "many"] fn_moved :=
  T.d_moved.ok fun f fd F base => fn_den F sc_moved rfl rfl (by decide) fun cdv A outer s H E hr tk po => dss_cons (ds_expr (de_callN C_check_calendar (hr.mono (by decide)) tk (by rfl) (da_cons (de_var 0) (da_cons (de_str) (da_nil)))))
  (dss_cons (ds_expr (de_callN C_check_slot (hr.mono (by decide)) tk (by rfl) (da_cons (de_var 1) (da_cons (de_str) (da_nil)))))
  (dss_cons (ds_set 2 (de_mod (de_var 1) (de_len (by rfl) T.b_len (de_fld T.c_Calendar.choose_spec.1.mgC T.c_Calendar.choose_spec.1.cl T.c_Calendar.choose_spec.2.n_cycle (de_var 0)))) sc_moved.nd)
  (dss_cons (ds_setLc 3 [("slot", 4), ("is_on", 5)] rfl sc_moved.nd rfl rfl (sw_true rfl rfl rfl (by decide +kernel)) (di_seq (de_fld T.c_Calendar.choose_spec.1.mgC T.c_Calendar.choose_spec.1.cl T.c_Calendar.choose_spec.2.n_changes (de_var 0))) (by kernel_rfl) (fun _ _ _ _ _ => dg_tup rfl (dgs_cons (dg_name 4 sc_moved.nd) (dgs_cons (dg_name 5 sc_moved.nd) (dgs_nil)))) (fun _ _ _ _ _ => dts_one (dt_ge (de_var 4) (de_var 1))) (fun _ _ _ _ _ => de_tup (da_cons (de_sub (de_var 4) (de_var 1)) (da_cons (de_var 5) (da_nil)))))
  (dss_one (ds_ret (de_makeN C_Calendar_0 (hr.mono (by decide)) tk (fun _ _ _ _ _ z => z) (by rfl) (da_cons (de_add (de_slice (de_fld T.c_Calendar.choose_spec.1.mgC T.c_Calendar.choose_spec.1.cl T.c_Calendar.choose_spec.2.n_cycle (de_var 0)) (do_some (de_var 2)) (do_no)) (de_slice (de_fld T.c_Calendar.choose_spec.1.mgC T.c_Calendar.choose_spec.1.cl T.c_Calendar.choose_spec.2.n_cycle (de_var 0)) (do_no) (do_some (de_var 2)))) (da_nil)) (dk_cons (de_var 3) (dk_nil))))))))
theorem ok__law_well (T : Txt K mg)  : CallOk P w K mg "_law_well" 1 ["_law_cell"] fn__law_well :=
  T.d__law_well.ok fun f fd F base => fn_den F sc__law_well rfl rfl (by decide) fun cdv A outer s H E hr tk po => dss_one (ds_ret (de_lst (da_cons (de_mulK (de_var 0) (de_intOf (by rfl) T.b_int (de_ge (de_var 0) (de_pow (de_int) (de_int))))) (da_cons (de_mod (de_intOf (by rfl) T.b_int (de_var 0)) (de_int)) (da_cons (de_int) (da_nil))))))
theorem ok__law_draw (T : Txt K mg)  : CallOk P w K mg "_law_draw" 1 ["_law_well_here", "_law_many"] fn__law_draw :=
  T.d__law_draw.ok fun f fd F base => fn_den F sc__law_draw rfl rfl (by decide) fun cdv A outer s H E hr tk po => dss_cons (ds_if (dt_gt (de_ix (de_var 0) (de_int)) (de_int)) (dss_cons (ds_set 2 (de_mod (de_intOf (by rfl) T.b_int (de_ix (de_var 0) (de_int))) (de_var 1)) sc__law_draw.nd)
  (dss_cons (ds_setIx 0 (de_fdiv (de_ix (de_var 0) (de_int)) (de_var 1)) (de_int))
  (dss_one (ds_ret (de_var 2))))) (dss_nil))
  (dss_cons (ds_setIx 0 (de_add (de_ix (de_var 0) (de_int)) (de_int)) (de_int))
  (dss_cons (ds_set 3 (de_mod (de_intOf (by rfl) T.b_int (de_mulK (de_add (de_add (de_ix (de_var 0) (de_int)) (de_mulK (de_int) (de_ix (de_var 0) (de_int)))) (de_int)) (de_int))) (de_int)) sc__law_draw.nd)
  (dss_cons (ds_set 3 (de_mod (de_intOf (by rfl) T.b_int (de_mulK (de_var 3) (de_add (de_fdiv (de_var 3) (de_int)) (de_int)))) (de_int)) sc__law_draw.nd)
  (dss_one (ds_ret (de_mod (de_intOf (by rfl) T.b_int (de_fdiv (de_mod (de_intOf (by rfl) T.b_int (de_mulK (de_var 3) (de_add (de_fdiv (de_var 3) (de_int)) (de_int)))) (de_int)) (de_int))) (de_var 1)))))))
theorem ok__law_one (T : Txt K mg) (C__law_draw : CallOk P w K mg "_law_draw" 1 ["_law_well_here", "_law_many"] fn__law_draw) : CallOk P w K mg "_law_one" 2 ["_law_well_here", "_law_some"] fn__law_one :=
  T.d__law_one.ok fun f fd F base => fn_den F sc__law_one rfl rfl (by decide) fun cdv A outer s H E hr tk po => dss_one (ds_ret (de_ix (de_var 1) (de_callN C__law_draw (hr.mono (by decide)) tk (by rfl) (da_lend 0 (da_cons (de_len (by rfl) T.b_len (de_var 1)) (da_nil))))))
theorem ok__law_parts (T : Txt K mg) (C__law_draw : CallOk P w K mg "_law_draw" 1 ["_law_well_here", "_law_many"] fn__law_draw) : CallOk P w K mg "_law_parts" 2 ["_law_well_here", "_law_far_here"] fn__law_parts :=
  T.d__law_parts.ok fun f fd F base => fn_den F sc__law_parts rfl rfl (by decide) fun cdv A outer s H E hr tk po => dss_cons (ds_setLc 2 [("_law_turn_here", 3)] rfl sc__law_parts.nd rfl rfl (sw_true rfl rfl rfl (by decide +kernel)) (di_rangeW1 (by rfl) T.b_range (de_add (de_int) (de_callN C__law_draw (hr.mono (by decide)) tk (by rfl) (da_lend 0 (da_cons (de_int) (da_nil)))))) (by kernel_rfl) (fun _ _ _ _ _ => dg_name 3 sc__law_parts.nd) (fun _ _ _ _ _ => dts_nil) (fun _ _ _ _ _ => de_gt (de_callN C__law_draw (hr.mono (by decide)) takes0 (by rfl) (da_lend 0 (da_cons (de_int) (da_nil)))) (de_int)))
  (dss_cons (ds_setIx 2 (de_bl) (de_callN C__law_draw (hr.mono (by decide)) tk (by rfl) (da_lend 0 (da_cons (de_len (by rfl) T.b_len (de_var 2)) (da_nil)))))
  (dss_cons (ds_par2 4 5 rfl sc__law_parts.nd (da2_cons (de_lst (da_nil)) (da2_cons (de_add (de_var 1) (de_callN C__law_draw (hr.mono (by decide)) tk (by rfl) (da_lend 0 (da_cons (de_int) (da_nil))))) (da2_nil))))
  (dss_cons (ds_for po rfl (di_rangeW1 (by rfl) T.b_range (de_callN C__law_draw (hr.mono (by decide)) tk (by rfl) (da_lend 0 (da_cons (de_int) (da_nil))))) (dg_name 3 sc__law_parts.nd) (dss_cons (ds_app 4 (de_tup (da_cons (de_var 5) (da_cons (de_eq hr (de_callN C__law_draw (hr.mono (by decide)) tk (by rfl) (da_lend 0 (da_cons (de_int) (da_nil)))) (de_int)) (da_nil)))))
  (dss_one (ds_set 5 (de_add (de_add (de_var 5) (de_int)) (de_callN C__law_draw (hr.mono (by decide)) tk (by rfl) (da_lend 0 (da_cons (de_int) (da_nil))))) sc__law_parts.nd))))
  (dss_one (ds_ret (de_tup (da_cons (de_tupleOf (by rfl) T.b_tuple (de_var 2)) (da_cons (de_tupleOf (by rfl) T.b_tuple (de_var 4)) (da_nil)))))))))
theorem ok__law_works (T : Txt K mg)  : CallOk P w K mg "_law_works" 1 ["_law_parts_here", "_law_slot"] fn__law_works :=
  T.d__law_works.ok fun f fd F base => fn_den F sc__law_works rfl rfl (by decide) fun cdv A outer s H E hr tk po => dss_cons (ds_for po rfl (di_seq (de_ix (de_var 0) (de_int))) (dg_tup rfl (dgs_cons (dg_name 2 sc__law_works.nd) (dgs_cons (dg_name 3 sc__law_works.nd) (dgs_nil)))) (dss_one (ds_if (dt_eq hr (de_var 2) (de_var 1)) (dss_one (ds_ret (de_var 3))) (dss_nil))))
  (dss_one (ds_ret (de_ix (de_ix (de_var 0) (de_int)) (de_mod (de_intOf (by rfl) T.b_int (de_var 1)) (de_len (by rfl) T.b_len (de_ix (de_var 0) (de_int)))))))
theorem ok__law_calendar (T : Txt K mg) (C__law_one : CallOk P w K mg "_law_one" 2 ["_law_well_here", "_law_some"] fn__law_one) (C_Calendar_0 : MakeOk P w K mg "Calendar" 5 ["self", "cycle", "changes"] fn_Calendar 1 ["changes"] (fun a b => a ++ b)) : CallOk P w K mg "_law_calendar" 7 ["_law_well_here", "_law_parts_here"] fn__law_calendar :=
  T.d__law_calendar.ok fun f fd F base => fn_den F sc__law_calendar rfl rfl (by decide) fun cdv A outer s H E hr tk po => dss_cons (ds_par2 2 3 rfl sc__law_calendar.nd (da2_cons (de_callN C__law_one (hr.mono (by decide)) tk (by rfl) (da_lend 0 (da_cons (de_lst (da_cons (de_ix (de_var 1) (de_int)) (da_cons (de_listOf (by rfl) T.b_list (de_ix (de_var 1) (de_int))) (da_nil)))) (da_nil)))) (da2_cons (de_callN C__law_one (hr.mono (by decide)) tk (by rfl) (da_lend 0 (da_cons (de_lst (da_cons (de_ix (de_var 1) (de_int)) (da_cons (de_listOf (by rfl) T.b_list (de_ix (de_var 1) (de_int))) (da_nil)))) (da_nil)))) (da2_nil))))
  (dss_one (ds_ret (de_makeN C_Calendar_0 (hr.mono (by decide)) tk (fun _ _ _ _ _ z => z) (by rfl) (da_cons (de_var 2) (da_nil)) (dk_cons (de_var 3) (dk_nil)))))
theorem ok__law_far (T : Txt K mg) (C__law_one : CallOk P w K mg "_law_one" 2 ["_law_well_here", "_law_some"] fn__law_one) : CallOk P w K mg "_law_far" 3 ["_law_well_here"] fn__law_far :=
  T.d__law_far.ok fun f fd F base => fn_den F sc__law_far rfl rfl (by decide) fun cdv A outer s H E hr tk po => dss_one (ds_ret (de_callN C__law_one (hr.mono (by decide)) tk (by rfl) (da_lend 0 (da_cons (de_lst (da_cons (de_int) (da_cons (de_int) (da_cons (de_int) (da_cons (de_pow (de_int) (de_int)) (da_cons (de_add (de_pow (de_int) (de_int)) (de_int)) (da_cons (de_pow (de_int) (de_int)) (da_cons (de_sub (de_pow (de_int) (de_int)) (de_int)) (da_nil))))))))) (da_nil)))))
theorem ok__law_others (T : Txt K mg) (C__law_draw : CallOk P w K mg "_law_draw" 1 ["_law_well_here", "_law_many"] fn__law_draw) (C__law_one : CallOk P w K mg "_law_one" 2 ["_law_well_here", "_law_some"] fn__law_one) (C__law_parts : CallOk P w K mg "_law_parts" 2 ["_law_well_here", "_law_far_here"] fn__law_parts) : CallOk P w K mg "_law_others" 3 ["_law_well_here", "_law_parts_here", "_law_far_here"] fn__law_others :=
  T.d__law_others.ok fun f fd F base => fn_den F sc__law_others rfl rfl (by decide) fun cdv A outer s H E hr tk po => dss_cons (ds_asg (de_var 1) (dg_tup rfl (dgs_cons (dg_name 3 sc__law_others.nd) (dgs_cons (dg_name 4 sc__law_others.nd) (dgs_nil)))))
  (dss_cons (ds_set 5 (de_ifExp (dt_ne hr (de_var 4) (de_tup (da_nil))) (de_ix (de_ix (de_var 4) (de_neg (de_int))) (de_int)) (de_var 2)) sc__law_others.nd)
  (dss_cons (ds_set 6 (de_lst (da_cons (de_tup (da_cons (de_var 3) (da_cons (de_var 4) (da_nil)))) (da_cons (de_callN C__law_parts (hr.mono (by decide)) tk (by rfl) (da_lend 0 (da_cons (de_callN C__law_one (hr.mono (by decide)) tk (by rfl) (da_lend 0 (da_cons (de_lst (da_cons (de_int) (da_cons (de_var 2) (da_nil)))) (da_nil)))) (da_nil)))) (da_cons (de_tup (da_cons (de_mulK (de_var 3) (de_int)) (da_cons (de_var 4) (da_nil)))) (da_nil))))) sc__law_others.nd)
  (dss_cons (ds_set 7 (de_tupleOf (by rfl) T.b_tuple (de_lc [("_law_one_here", 8)] rfl sc__law_others.nd (di_seq (de_var 4)) (by kernel_rfl) (fun _ _ _ _ _ => dg_name 8 sc__law_others.nd) (fun _ _ _ _ _ => dts_one (dt_ne hr (de_ix (de_var 8) (de_int)) (de_ix (de_var 3) (de_mod (de_intOf (by rfl) T.b_int (de_ix (de_var 8) (de_int))) (de_len (by rfl) T.b_len (de_var 3)))))) (fun _ _ _ _ _ => de_var 8))) sc__law_others.nd)
  (dss_cons (ds_app 6 (de_tup (da_cons (de_var 3) (da_cons (de_var 7) (da_nil)))))
  (dss_cons (ds_set 9 (de_add (de_add (de_var 5) (de_int)) (de_callN C__law_draw (hr.mono (by decide)) tk (by rfl) (da_lend 0 (da_cons (de_int) (da_nil))))) sc__law_others.nd)
  (dss_cons (ds_app 6 (de_tup (da_cons (de_var 3) (da_cons (de_add (de_var 4) (de_tup (da_cons (de_tup (da_cons (de_var 9) (da_cons (de_ix (de_var 3) (de_mod (de_intOf (by rfl) T.b_int (de_var 9)) (de_len (by rfl) T.b_len (de_var 3)))) (da_nil)))) (da_nil)))) (da_nil)))))
  (dss_cons (ds_app 6 (de_tup (da_cons (de_var 3) (da_cons (de_add (de_var 4) (de_tup (da_cons (de_tup (da_cons (de_var 9) (da_cons (de_not (de_ix (de_var 3) (de_mod (de_intOf (by rfl) T.b_int (de_var 9)) (de_len (by rfl) T.b_len (de_var 3))))) (da_nil)))) (da_nil)))) (da_nil)))))
  (dss_cons (ds_set 10 (de_callN C__law_draw (hr.mono (by decide)) tk (by rfl) (da_lend 0 (da_cons (de_len (by rfl) T.b_len (de_var 3)) (da_nil)))) sc__law_others.nd)
  (dss_cons (ds_app 6 (de_tup (da_cons (de_add (de_add (de_slice (de_var 3) (do_no) (do_some (de_var 10))) (de_tup (da_cons (de_not (de_ix (de_var 3) (de_var 10))) (da_nil)))) (de_slice (de_var 3) (do_some (de_add (de_var 10) (de_int))) (do_no))) (da_cons (de_var 4) (da_nil)))))
  (dss_one (ds_ret (de_lc [("_law_one_here", 8)] rfl sc__law_others.nd (di_seq (de_var 6)) (by kernel_rfl) (fun _ _ _ _ _ => dg_name 8 sc__law_others.nd) (fun _ _ _ _ _ => dts_one (DW.dt (dw_and (dt_lt (de_len (by rfl) T.b_len (de_ix (de_var 8) (de_int))) (de_int)) (dw_and (dt_lt (de_len (by rfl) T.b_len (de_ix (de_var 8) (de_int))) (de_int)) (dw_and1 (dt_in hr (de_bl) (de_ix (de_var 8) (de_int)))))))) (fun _ _ _ _ _ => de_var 8)))))))))))))
theorem ok__law_difference (T : Txt K mg) (C__law_works : CallOk P w K mg "_law_works" 1 ["_law_parts_here", "_law_slot"] fn__law_works) : CallOk P w K mg "_law_difference" 2 ["_law_one_here", "_law_other"] fn__law_difference :=
  T.d__law_difference.ok fun f fd F base => fn_den F sc__law_difference rfl rfl (by decide) fun cdv A outer s H E hr tk po => dss_cons (ds_set 2 (de_add (de_LR1 rfl (by rfl) T.b_list (by rfl) T.b_range (de_int)) (de_sorted (by rfl) T.b_sorted (de_lc [("_law_row", 3)] rfl sc__law_difference.nd (di_seq (de_add (de_ix (de_var 0) (de_int)) (de_ix (de_var 1) (de_int)))) (by kernel_rfl) (fun _ _ _ _ _ => dg_name 3 sc__law_difference.nd) (fun _ _ _ _ _ => dts_nil) (fun _ _ _ _ _ => de_ix (de_var 3) (de_int))))) sc__law_difference.nd)
  (dss_cons (ds_for po rfl (di_seq (de_var 2)) (dg_name 4 sc__law_difference.nd) (dss_one (ds_if (dt_ne hr (de_callN C__law_works (hr.mono (by decide)) tk (by rfl) (da_cons (de_var 0) (da_cons (de_var 4) (da_nil)))) (de_callN C__law_works (hr.mono (by decide)) tk (by rfl) (da_cons (de_var 1) (da_cons (de_var 4) (da_nil))))) (dss_one (ds_ret (de_var 4))) (dss_nil))))
  (dss_one (ds_ret (de_non))))
theorem ok__law_turn (T : Txt K mg)  : CallOk P w K mg "_law_turn" 1 ["_law_parts_here"] fn__law_turn :=
  T.d__law_turn.ok fun f fd F base => fn_den F sc__law_turn rfl rfl (by decide) fun cdv A outer s H E hr tk po => dss_cons (ds_asg (de_tup (da_cons (de_ix (de_var 0) (de_int)) (da_cons (de_len (by rfl) T.b_len (de_ix (de_var 0) (de_int))) (da_cons (de_int) (da_nil))))) (dg_tup rfl (dgs_cons (dg_name 1 sc__law_turn.nd) (dgs_cons (dg_name 2 sc__law_turn.nd) (dgs_cons (dg_name 3 sc__law_turn.nd) (dgs_nil))))))
  (dss_cons (ds_setLc 4 [("_law_many", 5)] rfl sc__law_turn.nd rfl rfl (sw_true rfl rfl rfl (by decide +kernel)) (di_rangeW2 (by rfl) T.b_range (de_int) (de_add (de_var 2) (de_int))) (by kernel_rfl) (fun _ _ _ _ _ => dg_name 5 sc__law_turn.nd) (fun _ _ _ _ _ => dts_one (dt_eq hr (de_add (de_slice (de_var 1) (do_some (de_var 5)) (do_no)) (de_slice (de_var 1) (do_no) (do_some (de_var 5)))) (de_var 1))) (fun _ _ _ _ _ => de_var 5))
  (dss_cons (ds_for po rfl (di_seq (de_ix (de_var 0) (de_int))) (dg_tup rfl (dgs_cons (dg_name 6 sc__law_turn.nd) (dgs_cons (dg_name 7 sc__law_turn.nd) (dgs_nil)))) (dss_one (ds_if (dt_ne hr (de_var 7) (de_ix (de_var 1) (de_mod (de_intOf (by rfl) T.b_int (de_var 6)) (de_var 2)))) (dss_one (ds_set 3 (de_add (de_var 6) (de_int)) sc__law_turn.nd)) (dss_nil))))
  (dss_one (ds_ret (de_tup (da_cons (de_var 3) (da_cons (de_ix (de_var 4) (de_int)) (da_nil))))))))
theorem ok__law_turn_right (T : Txt K mg) (C__law_works : CallOk P w K mg "_law_works" 1 ["_law_parts_here", "_law_slot"] fn__law_works) : CallOk P w K mg "_law_turn_right" 2 ["_law_parts_here", "_law_told"] fn__law_turn_right :=
  T.d__law_turn_right.ok fun f fd F base => fn_den F sc__law_turn_right rfl rfl (by decide) fun cdv A outer s H E hr tk po => dss_cons (ds_asg (de_var 1) (dg_tup rfl (dgs_cons (dg_name 2 sc__law_turn_right.nd) (dgs_cons (dg_name 3 sc__law_turn_right.nd) (dgs_nil)))))
  (dss_cons (ds_for po rfl (di_rangeW2 (by rfl) T.b_range (de_var 2) (de_add (de_var 2) (de_int))) (dg_name 4 sc__law_turn_right.nd) (dss_one (ds_if (dt_ne hr (de_callN C__law_works (hr.mono (by decide)) tk (by rfl) (da_cons (de_var 0) (da_cons (de_var 4) (da_nil)))) (de_callN C__law_works (hr.mono (by decide)) tk (by rfl) (da_cons (de_var 0) (da_cons (de_add (de_var 4) (de_var 3)) (da_nil))))) (dss_one (ds_ret (de_bl))) (dss_nil))))
  (dss_one (ds_ret (de_or (de_eq hr (de_var 2) (de_int)) (de_one (de_ne hr (de_callN C__law_works (hr.mono (by decide)) tk (by rfl) (da_cons (de_var 0) (da_cons (de_sub (de_var 2) (de_int)) (da_nil)))) (de_callN C__law_works (hr.mono (by decide)) tk (by rfl) (da_cons (de_var 0) (da_cons (de_add (de_sub (de_var 2) (de_int)) (de_var 3)) (da_nil))))))))))
theorem ok__law_right (T : Txt K mg) (C__law_calendar : CallOk P w K mg "_law_calendar" 7 ["_law_well_here", "_law_parts_here"] fn__law_calendar) (C__law_difference : CallOk P w K mg "_law_difference" 2 ["_law_one_here", "_law_other"] fn__law_difference) (C__law_draw : CallOk P w K mg "_law_draw" 1 ["_law_well_here", "_law_many"] fn__law_draw) (C__law_far : CallOk P w K mg "_law_far" 3 ["_law_well_here"] fn__law_far) (C__law_others : CallOk P w K mg "_law_others" 3 ["_law_well_here", "_law_parts_here", "_law_far_here"] fn__law_others) (C__law_parts : CallOk P w K mg "_law_parts" 2 ["_law_well_here", "_law_far_here"] fn__law_parts) (C__law_turn : CallOk P w K mg "_law_turn" 1 ["_law_parts_here"] fn__law_turn) (C__law_turn_right : CallOk P w K mg "_law_turn_right" 2 ["_law_parts_here", "_law_told"] fn__law_turn_right) (C__law_works : CallOk P w K mg "_law_works" 1 ["_law_parts_here", "_law_slot"] fn__law_works) (C_Calendar_0 : MakeOk P w K mg "Calendar" 5 ["self", "cycle", "changes"] fn_Calendar 1 ["changes"] (fun a b => a ++ b)) (Q_Calendar : EqOk P w K mg "Calendar" 1 ["self", "other"] fn_Calendar_eq) (C_first_difference : CallOk P w K mg "first_difference" 3 ["calendar", "other"] fn_first_difference) (C_is_work : CallOk P w K mg "is_work" 4 ["calendar", "slot"] fn_is_work) (C_moved : CallOk P w K mg "moved" 7 ["calendar", "many"] fn_moved) (C_turn_of : CallOk P w K mg "turn_of" 2 ["calendar"] fn_turn_of) : CallOk P w K mg "_law_right" 8 ["_law_well_here"] fn__law_right :=
  T.d__law_right.ok fun f fd F base => fn_den F sc__law_right rfl rfl (by decide) fun cdv A outer s H E hr tk po => dss_cons (ds_set 1 (de_callN C__law_far (hr.mono (by decide)) tk (by rfl) (da_lend 0 (da_nil))) sc__law_right.nd)
  (dss_cons (ds_set 2 (de_callN C__law_parts (hr.mono (by decide)) tk (by rfl) (da_lend 0 (da_cons (de_var 1) (da_nil)))) sc__law_right.nd)
  (dss_cons (ds_set 3 (de_callN C__law_calendar (hr.mono (by decide)) tk (by rfl) (da_lend 0 (da_cons (de_var 2) (da_nil)))) sc__law_right.nd)
  (dss_cons (ds_if (DW.dt (dw_or (dt_ne hr (de_callN C_turn_of (hr.mono (by decide)) tk (by rfl) (da_cons (de_var 3) (da_nil))) (de_callN C__law_turn (hr.mono (by decide)) tk (by rfl) (da_cons (de_var 2) (da_nil)))) (dw_or1 (dt_not (dt_val (de_callN C__law_turn_right (hr.mono (by decide)) tk (by rfl) (da_cons (de_var 2) (da_cons (de_callN C_turn_of (hr.mono (by decide)) tk (by rfl) (da_cons (de_var 3) (da_nil))) (da_nil))))))))) (dss_one (ds_ret (de_bl))) (dss_nil))
  (dss_cons (ds_for po rfl (di_seq (de_callN C__law_others (hr.mono (by decide)) tk (by rfl) (da_lend 0 (da_cons (de_var 2) (da_cons (de_var 1) (da_nil)))))) (dg_name 4 sc__law_right.nd) (dss_cons (ds_par2 5 6 rfl sc__law_right.nd (da2_cons (de_makeN C_Calendar_0 (hr.mono (by decide)) tk (fun _ _ _ _ _ z => z) (by rfl) (da_cons (de_ix (de_var 4) (de_int)) (da_nil)) (dk_cons (de_ix (de_var 4) (de_int)) (dk_nil))) (da2_cons (de_callN C__law_difference (hr.mono (by decide)) tk (by rfl) (da_cons (de_var 2) (da_cons (de_var 4) (da_nil)))) (da2_nil))))
  (dss_one (ds_if (DW.dt (dw_or (dt_ne hr (de_callN C_first_difference (hr.mono (by decide)) tk (by rfl) (da_cons (de_var 3) (da_cons (de_var 5) (da_nil)))) (de_var 6)) (dw_or1 (dt_ne hr (de_callN C_first_difference (hr.mono (by decide)) tk (by rfl) (da_cons (de_var 5) (da_cons (de_var 3) (da_nil)))) (de_var 6))))) (dss_one (ds_ret (de_bl))) (dss_nil)))))
  (dss_cons (ds_for po rfl (di_seq (de_lst (da_cons (de_int) (da_cons (de_int) (da_cons (de_add (de_var 1) (de_callN C__law_draw (hr.mono (by decide)) tk (by rfl) (da_lend 0 (da_cons (de_int) (da_nil))))) (da_cons (de_add (de_pow (de_int) (de_int)) (de_callN C__law_draw (hr.mono (by decide)) tk (by rfl) (da_lend 0 (da_cons (de_int) (da_nil))))) (da_nil))))))) (dg_name 7 sc__law_right.nd) (dss_cons (ds_set 8 (de_callN C_moved (hr.mono (by decide)) tk (by rfl) (da_cons (de_var 3) (da_cons (de_var 7) (da_nil)))) sc__law_right.nd)
  (dss_one (ds_for po rfl (di_rangeW1 (by rfl) T.b_range (de_int)) (dg_name 9 sc__law_right.nd) (dss_one (ds_if (dt_ne hr (de_callN C_is_work (hr.mono (by decide)) tk (by rfl) (da_cons (de_var 8) (da_cons (de_var 9) (da_nil)))) (de_callN C__law_works (hr.mono (by decide)) tk (by rfl) (da_cons (de_var 2) (da_cons (de_add (de_var 9) (de_var 7)) (da_nil))))) (dss_one (ds_ret (de_bl))) (dss_nil)))))))
  (dss_one (ds_ret (de_or (de_ownEq Q_Calendar (hr.mono (by decide)) tk (de_callN C_moved (hr.mono (by decide)) tk (by rfl) (da_cons (de_var 3) (da_cons (de_int) (da_nil)))) (de_var 3)) (de_one (de_isN (de_callN C_first_difference (hr.mono (by decide)) tk (by rfl) (da_cons (de_callN C_moved (hr.mono (by decide)) tk (by rfl) (da_cons (de_var 3) (da_cons (de_int) (da_nil)))) (da_cons (de_var 3) (da_nil))))))))))))))
theorem ok_law (T : Txt K mg) (C__law_right : CallOk P w K mg "_law_right" 8 ["_law_well_here"] fn__law_right) (C__law_well : CallOk P w K mg "_law_well" 1 ["_law_cell"] fn__law_well) : CallOk P w K mg "law" 9 ["_law_script"] fn_law :=
  T.d_law.ok fun f fd F base => fn_den F sc_law rfl rfl (by decide) fun cdv A outer s H E hr tk po => dss_cons (ds_for po rfl (di_seq (de_add (de_slice (de_var 0) (do_no) (do_some (de_int))) (de_lst (da_cons (de_int) (da_nil))))) (dg_name 1 sc_law.nd) (dss_cons (ds_set 2 (de_callN C__law_well (hr.mono (by decide)) tk (by rfl) (da_cons (de_var 1) (da_nil))) sc_law.nd)
  (dss_one (ds_if (dt_not (dt_val (de_callN C__law_right (hr.mono (by decide)) tk (by rfl) (da_lend 2 (da_nil))))) (dss_one (ds_ret (de_bl))) (dss_nil)))))
  (dss_one (ds_ret (de_bl)))
end
end Lw

set_option Elab.async false
set_option linter.all false
set_option maxRecDepth 100000
set_option maxHeartbeats 1000000
namespace Lw
open PySem L2 Y
abbrev WL (a b c : Int) : Cont := .lst [.int a, .int b, .int c]
theorem ix0 (n : Nat) : ixN (n + 1) 0 = some 0 := by
  unfold ixN; simp
theorem t_draw (a b c m : Int) (hm : 0 < m) (hm2 : m < 1073741824) : ∃ r : Nat, (r : Int) < m ∧ ∃ a' b' c', fn__law_draw [.own true (WL a b c), .val (.int m)] = .ok (.val (.int r)) [.own true (WL a' b' c'), .val (.int m)] := by
  by_cases ha : 0 < a
  · have h1 := Int.emod_nonneg a (b := m) (by omega)
    have h2 := Int.emod_lt_of_pos a hm
    refine ⟨(a % m).toNat, by omega, a / m, b, c, ?_⟩
    rw [Int.toNat_of_nonneg h1]
    simp [fn__law_draw, dn__law_draw, ha, hm, hm2, ixN]
  · have key : ∀ x : Int, ∃ r : Nat, (r : Int) = x % m ∧ (r : Int) < m := fun x => by
      have h1 := Int.emod_nonneg x (b := m) (by omega)
      have h2 := Int.emod_lt_of_pos x hm
      exact ⟨(x % m).toNat, by omega, by omega⟩
    have q1 : ∀ x : Int, -18446744073709551616 < x % 2147483647 := fun x => by omega
    have q2 : ∀ x : Int, x % 2147483647 < 18446744073709551616 := fun x => by omega
    have q3 : ∀ x : Int, -18446744073709551616 < x % 2147483629 := fun x => by omega
    have q4 : ∀ x : Int, x % 2147483629 < 18446744073709551616 := fun x => by omega
    obtain ⟨x, hx⟩ : ∃ x, fn__law_draw [.own true (WL a b c), .val (.int m)] = .ok (.val (.int (x % m))) [.own true (WL a b (c + 1)), .val (.int m)] := by
      let n1 : Int := ((b + 90001 * (c + 1) + 7) * 48271) % 2147483647
      let n2 : Int := (n1 * (n1 / 1013 + 69621)) % 2147483629
      refine ⟨(n2 * (n2 / 2011 + 40692)) % 2147483399 / 3, ?_⟩
      simp [fn__law_draw, dn__law_draw, ha, hm, hm2, ixN, q1, q2, q3, q4, n1, n2]
    obtain ⟨r, h1, h2⟩ := key x
    exact ⟨r, h2, a, b, c + 1, by rw [h1]; exact hx⟩

def chD (p : Nat × Bool) : D := .tup [.int p.1, .bl p.2]
/-- a drawn comprehension -/
theorem t_cyc (far : Int) : ∀ (ds acc : List D) (a b c : Int), acc.length + ds.length ≤ 10000 → ∃ bs : List Bool, bs.length = ds.length ∧ ∃ a' b' c',
    lcRun (tName 3) tYesD le__law_parts_1 [3] ds acc [.own true (WL a b c), .val (.int far), .no, .no, .no, .no] =
      .ok (acc ++ bs.map D.bl) [.own true (WL a' b' c'), .val (.int far), .no, .no, .no, .no]
  | [], acc, a, b, c, _ => ⟨[], rfl, a, b, c, by rw [v_lcN]; simp⟩
  | d :: r, acc, a, b, c, hl => by
    rw [List.length_cons] at hl
    obtain ⟨k, hk, a', b', c', h⟩ := t_draw a b c 3 (by omega) (by omega)
    obtain ⟨bs, hb, a2, b2, c2, h2⟩ := t_cyc far r (acc ++ [.bl (decide (0 < (k : Int)))]) a' b' c' (by rw [List.length_append, List.length_singleton]; omega)
    refine ⟨decide (0 < (k : Int)) :: bs, by rw [List.length_cons, List.length_cons, hb], a2, b2, c2, ?_⟩
    rw [lc_keep (u := ()) (e1 := [.own true (WL a b c), .val (.int far), .no, .val d, .no, .no]) (e2 := [.own true (WL a b c), .val (.int far), .no, .val d, .no, .no]) (e3 := [.own true (WL a' b' c'), .val (.int far), .no, .val d, .no, .no]) (y := .bl (decide (0 < (k : Int)))) (by simp) (by simp) (by simp [le__law_parts_1, h]) (small_line (by omega))]
    refine Eq.trans ?_ (h2.trans ?_)
    · rfl
    · rw [List.append_assoc]; rfl
theorem t_chg (far : D) (cyc : List D) (lo : Nat) : ∀ (ds : List D) (chg : List (Nat × Bool)) (s3 : Slot) (slot : Nat) (a b c : Int), chg.length + ds.length ≤ 10000 → s3 = .no ∨ (∃ d, s3 = .val d) →
    (chg.map Prod.fst).Pairwise (· < ·) → (∀ x ∈ chg.map Prod.fst, x < slot) → (∀ x ∈ chg.map Prod.fst, lo ≤ x) → lo ≤ slot → ∃ chg' : List (Nat × Bool), chg'.length = chg.length + ds.length ∧ (chg'.map Prod.fst).Pairwise (· < ·) ∧ (∀ x ∈ chg'.map Prod.fst, x < slot + 5 * ds.length) ∧ (∀ x ∈ chg'.map Prod.fst, lo ≤ x) ∧
    ∃ s3' slot' a' b' c',
    forRun (tName 3) lb__law_parts_1 ds
      [.own true (WL a b c), .val far, .own false (.lst cyc), s3, .own false (.lst (chg.map chD)), .val (.int slot)] =
      .ok .nx [.own true (WL a' b' c'), .val far, .own false (.lst cyc), s3', .own false (.lst (chg'.map chD)), .val (.int slot')] := by
  intro ds
  induction ds with
  | nil =>
    intro chg s3 slot a b c _ _ hp hx hlo _
    exact ⟨chg, rfl, hp, fun x z => by have := hx x z; simp only [List.length_nil]; omega, hlo, s3, slot, a, b, c, v_forN _ _ _⟩
  | cons d r ih =>
    intro chg s3 slot a b c hl h3 hp hx hlo hls
    rw [List.length_cons] at hl
    obtain ⟨k, hk, a', b', c', h⟩ := t_draw a b c 2 (by omega) (by omega)
    obtain ⟨k2, hk2, a2, b2, c2, h2⟩ := t_draw a' b' c' 5 (by omega) (by omega)
    obtain ⟨chg', l1, p1, x1, y1, s3', slot', a3, b3, c3, e3⟩ := ih (chg ++ [(slot, decide ((k : Int) = 0))]) (.val d) (slot + 1 + k2) a2 b2 c2 (by rw [List.length_append, List.length_singleton]; omega) (.inr ⟨d, rfl⟩)
      (by
        rw [List.map_append, List.pairwise_append]
        refine ⟨hp, by simp, fun x z y w => ?_⟩
        have := hx x z
        simp at w
        omega)
      (by
        intro x z
        rw [List.map_append, List.mem_append] at z
        rcases z with z | z
        · have := hx x z; omega
        · simp at z; omega)
      (by
        intro x z
        rw [List.map_append, List.mem_append] at z
        rcases z with z | z
        · exact hlo x z
        · simp at z; omega)
      (by omega)
    refine ⟨chg', by rw [l1, List.length_append, List.length_singleton, List.length_cons]; omega, p1, fun x z => by have := x1 x z; rw [List.length_cons]; omega, y1, s3', slot', a3, b3, c3, ?_⟩
    rw [v_forC]
    have q : chg.length < sizeLine := small_line (by omega)
    have n3 : stoS (some s3) = true := by rcases h3 with rfl | ⟨_, rfl⟩ <;> rfl
    have e4 : ((slot : Int) + 1 + (k2 : Int)) = ((slot + 1 + k2 : Nat) : Int) := by omega
    have sl2 : 2 ≤ sizeLine := Nat.le_of_lt (small_line (by omega))
    simp [lb__law_parts_1, h, h2, q, n3, eq_int, sl2]
    rw [e4, ← e3]
    simp [chD]
/-- what a drawn calendar's parts keep -/
structure Cal0 (cyc : List Bool) (chg : List (Nat × Bool)) : Prop where
  c1 : 1 ≤ cyc.length
  c14 : cyc.length ≤ 14
  tr : true ∈ cyc
  n10 : chg.length ≤ 10
  inc : (chg.map Prod.fst).Pairwise (· < ·)
structure Good (far : Nat) (cyc : List Bool) (chg : List (Nat × Bool)) : Prop extends Cal0 cyc chg where
  top : ∀ x ∈ chg.map Prod.fst, x < far + 54
  low : ∀ x ∈ chg.map Prod.fst, far ≤ x
abbrev parD (cyc : List Bool) (chg : List (Nat × Bool)) : D := .tup [.tup (cyc.map D.bl), .tup (chg.map chD)]
theorem rangeD_len (i : Int) (n : Nat) : (rangeD i n).length = n := by unfold rangeD; rw [List.length_map, List.length_range]
theorem set_map (l : List Bool) (i : Nat) (b : Bool) : (l.map D.bl).set i (.bl b) = (l.set i b).map D.bl := by
  rw [List.map_set]
theorem t_parts (far : Nat) (a b c : Int) : ∃ cyc chg, Good far cyc chg ∧ ∃ a' b' c', fn__law_parts [.own true (WL a b c), .val (.int far)] = .ok (.val (parD cyc chg)) [.own true (WL a' b' c'), .val (.int far)] := by
  obtain ⟨k1, hk1, a1, b1, c1, h1⟩ := t_draw a b c 14 (by omega) (by omega)
  obtain ⟨bs, hb, a2, b2, c2, h2⟩ := t_cyc far (rangeD 0 (1 + k1)) [] a1 b1 c1 (by rw [rangeD_len]; simp only [List.length_nil]; omega)
  rw [rangeD_len] at hb
  obtain ⟨k2, hk2, a3, b3, c3, h3⟩ := t_draw a2 b2 c2 (bs.length : Int) (by omega) (by omega)
  obtain ⟨k3, hk3, a4, b4, c4, h4⟩ := t_draw a3 b3 c3 4 (by omega) (by omega)
  obtain ⟨k4, hk4, a5, b5, c5, h5⟩ := t_draw a4 b4 c4 11 (by omega) (by omega)
  obtain ⟨chg, l1, p1, x1, y1, s3', slot', a6, b6, c6, h6⟩ := t_chg (.int far) ((bs.set k2 true).map D.bl) far (rangeD 0 k4) [] .no (far + k3) a5 b5 c5 (by rw [rangeD_len]; simp only [List.length_nil]; omega) (.inl rfl) List.Pairwise.nil (fun x z => by cases z) (fun x z => by cases z) (by omega)
  rw [rangeD_len] at l1 x1
  have e1 : ((1 : Int) + (k1 : Int)).toNat = 1 + k1 := by omega
  have e3 : ixN bs.length (k2 : Int) = some k2 := by
    unfold ixN
    simp
    omega
  refine ⟨bs.set k2 true, chg, ⟨⟨by rw [List.length_set]; omega, by rw [List.length_set]; omega, ?_, by simp at l1; omega, p1⟩, fun x z => by have := x1 x z; omega, y1⟩, a6, b6, c6, ?_⟩
  · exact List.mem_set (by omega) true
  · have r1 : (1 + (k1 : Int) < 4611686018427387904) := by omega
    have r2 : (-4611686018427387904 ≤ 1 + (k1 : Int)) := by omega
    have r3 : ((k4 : Int) < 4611686018427387904) := by omega
    have r4 : (-4611686018427387904 ≤ (k4 : Int)) := by omega
    rw [Int.natCast_add] at h6
    rw [List.map_nil] at h6
    rw [← set_map] at h6
    have sl2 : 2 ≤ sizeLine := Nat.le_of_lt (small_line (by omega))
    simp [fn__law_parts, dn__law_parts, h1, h2, h3, h4, h5, h6, e1, e3, r1, r2, r3, r4, sl2]
end Lw

set_option Elab.async false
set_option linter.all false
set_option maxRecDepth 100000
set_option maxHeartbeats 1000000
namespace Lw
open PySem L2 Y
theorem toPys_bl : ∀ bs : List Bool, toPys (bs.map D.bl) = some (bs.map PyData.bool)
  | [] => rfl
  | b :: r => by
    rw [List.map_cons]
    unfold toPys
    rw [toPys_bl r]
    rfl
theorem canLay_bl : ∀ bs : List Bool, PyData.canLayAll0 (bs.map PyData.bool) = true
  | [] => by simp [PyData.canLayAll0]
  | b :: r => by simp [PyData.canLayAll0, PyData.canLay0, canLay_bl r]
theorem depth_bl : ∀ bs : List Bool, PyData.depthAll (bs.map PyData.bool) ≤ 1
  | [] => by simp [PyData.depthAll]
  | b :: r => by
    have := depth_bl r
    simp [PyData.depthAll, PyData.depth]
    omega
theorem any_bl (bs : List Bool) (h : true ∈ bs) : ((bs.map PyData.bool).any fun z => PyData.eqv z (.bool true)) = true := by
  rw [List.any_eq_true]
  exact ⟨.bool true, List.mem_map.mpr ⟨true, h, rfl⟩, by simp [PyData.eqv]⟩
theorem sh_true : SeqAt.shaped (.bool true) = true := by decide +kernel
theorem in_blT (bs : List Bool) (h : true ∈ bs) : inL (.bl true) (.tup (bs.map D.bl)) = some true := by
  have h1 : toPy (.tup (bs.map D.bl)) = some (.tuple (bs.map PyData.bool)) := by unfold toPy; rw [toPys_bl]; rfl
  have h2 : toPy (.bl true) = some (.bool true) := rfl
  have h3 : SeqAt.shaped (.tuple (bs.map PyData.bool)) = true := by
    have := depth_bl bs
    simp [SeqAt.shaped, PyData.canLay0, canLay_bl, PyData.depth]
    omega
  unfold inL
  rw [h1, h2]
  dsimp only
  rw [if_pos ⟨sh_true, h3⟩, any_bl bs h]
theorem in_blL (bs : List Bool) (h : true ∈ bs) : inL (.bl true) (.lst (bs.map D.bl)) = some true := by
  have h1 : toPy (.lst (bs.map D.bl)) = some (.list (bs.map PyData.bool)) := by unfold toPy; rw [toPys_bl]; rfl
  have h2 : toPy (.bl true) = some (.bool true) := rfl
  have h3 : SeqAt.shaped (.list (bs.map PyData.bool)) = true := by
    have := depth_bl bs
    simp [SeqAt.shaped, PyData.canLay0, canLay_bl, PyData.depth]
    omega
  unfold inL
  rw [h1, h2]
  dsimp only
  rw [if_pos ⟨sh_true, h3⟩, any_bl bs h]
/-- a sequence's data: as a tuple or as a list -/
def sq (l : Bool) (ds : List D) : D := if l then .lst ds else .tup ds
theorem l_cc (x : D) : ∀ (bs : List Bool) (k : Nat) (s1 s2 : Slot), stoS (some s1) = true → stoS (some s2) = true → ∃ s1' s2',
    forRun (tTupD 2 (tsCons (tName 1) (tsCons (tName 2) (tsNil)))) lb_check_cycle_1 (enumD k (bs.map D.bl)) [.val x, s1, s2] = .ok .nx [.val x, s1', s2']
  | [], k, s1, s2, _, _ => ⟨s1, s2, v_forN _ _ _⟩
  | b :: r, k, s1, s2, h1, h2 => by
    obtain ⟨s1', s2', h⟩ := l_cc x r (k + 1) (.val (.int k)) (.val (.bl b)) rfl rfl
    refine ⟨s1', s2', ?_⟩
    rw [List.map_cons]
    unfold enumD
    rw [v_forC]
    simp [lb_check_cycle_1, h1, h2, subB, h]
theorem t_check_cycle (l : Bool) (cyc : List Bool) (h1 : 1 ≤ cyc.length) (h2 : cyc.length ≤ 14) (h3 : true ∈ cyc) : fn_check_cycle [.val (sq l (cyc.map D.bl))] = .ok (.val .non) [.val (sq l (cyc.map D.bl))] := by
  obtain ⟨s1', s2', h⟩ := l_cc (sq l (cyc.map D.bl)) cyc 0 .no .no rfl rfl
  have z1 : (1 : Int) ≤ (cyc.length : Int) := by omega
  have z2 : (cyc.length : Int) ≤ 14 := by omega
  cases l <;> simp [sq] at h <;> simp [fn_check_cycle, dn_check_cycle, sq, h, subB, z1, z2, in_blT, in_blL, h3]
theorem t_is_int (i : Int) : fn_is_int [.val (.int i)] = .ok (.val (.bl true)) [.val (.int i)] := by
  rfl
theorem t_is_slot (i : Int) : fn_is_slot [.val (.int i)] = .ok (.val (.bl (decide (0 ≤ i)))) [.val (.int i)] := by
  rfl
theorem t_is_change (p : Nat × Bool) : fn_is_change [.val (chD p)] = .ok (.val (.bl true)) [.val (chD p)] := by
  simp [fn_is_change, dn_is_change, chD, subB, eq_int, t_is_slot]
theorem l_ch (x : D) : ∀ (chg : List (Nat × Bool)) (k : Nat) (last : Int) (s2 s3 : Slot), stoS (some s2) = true → stoS (some s3) = true → (chg.map Prod.fst).Pairwise (· < ·) → (∀ y ∈ chg.map Prod.fst, last < y) → ∃ s1 s2' s3',
    forRun (tTupD 2 (tsCons (tName 2) (tsCons (tName 3) (tsNil)))) lb_check_changes_1 (enumD k (chg.map chD)) [.val x, .val (.int last), s2, s3] = .ok .nx [.val x, s1, s2', s3']
  | [], k, last, s2, s3, _, _, _, _ => ⟨_, s2, s3, v_forN _ _ _⟩
  | b :: r, k, last, s2, s3, h2, h3, hp, hl => by
    rw [List.map_cons, List.pairwise_cons] at hp
    obtain ⟨s1', s2', s3', h⟩ := l_ch x r (k + 1) b.1 (.val (.int k)) (.val (chD b)) rfl rfl hp.2 (fun y z => by have := hp.1 y z; omega)
    refine ⟨s1', s2', s3', ?_⟩
    have z : ¬ ((b.1 : Int) ≤ last) := by have := hl b.1 (by simp); omega
    rw [List.map_cons]
    unfold enumD
    rw [v_forC]
    have ec : chD b = .tup [.int b.1, .bl b.2] := rfl
    have ti := t_is_change b
    rw [ec] at ti h
    simp [lb_check_changes_1, h2, h3, ti, h, ec, z]
theorem t_check_changes (l : Bool) (chg : List (Nat × Bool)) (h1 : chg.length ≤ 10) (h2 : (chg.map Prod.fst).Pairwise (· < ·)) : fn_check_changes [.val (sq l (chg.map chD))] = .ok (.val .non) [.val (sq l (chg.map chD))] := by
  obtain ⟨s1', s2', s3', h⟩ := l_ch (sq l (chg.map chD)) chg 0 (-1) .no .no rfl rfl h2 (fun y z => by omega)
  have z1 : ¬ (10 : Int) < (chg.length : Int) := by omega
  cases l <;> simp [sq] at h <;> simp [fn_check_changes, dn_check_changes, sq, h, subB, z1]
def calD (cyc : List Bool) (chg : List (Nat × Bool)) : D := .ins "Calendar" [("cycle", .tup (cyc.map D.bl)), ("changes", .tup (chg.map chD))]
@[simp] theorem fld_cycle (cyc chg e) : fldK "Calendar" "cycle" (calD cyc chg) e = .ok (.val (.tup (cyc.map D.bl))) e := by
  kernel_rfl
@[simp] theorem fld_changes (cyc chg e) : fldK "Calendar" "changes" (calD cyc chg) e = .ok (.val (.tup (chg.map chD))) e := by
  kernel_rfl
theorem t_Calendar {cyc chg} (g : Cal0 cyc chg) (l l2 : Bool) : fn_Calendar [.own true (.ins "Calendar" []), .val (sq l (cyc.map D.bl)), .val (sq l2 (chg.map chD))] =
    .ok (.val .non) [.own true (.ins "Calendar" [("cycle", .tup (cyc.map D.bl)), ("changes", .tup (chg.map chD))]), .val (sq l (cyc.map D.bl)), .val (sq l2 (chg.map chD))] := by
  have c1 := t_check_cycle l cyc g.c1 g.c14 g.tr
  have c2 := t_check_changes l2 chg g.n10 g.inc
  have q1 : ∀ (l : Bool) (ds : List D) (e : Sl), tupK (sq l ds) e = .ok (.val (.tup ds)) e := fun l ds e => by cases l <;> rfl
  simp [fn_Calendar, dn_Calendar, c1, c2, q1]
  rfl
theorem t_one (a b c : Int) (x : List D) (h0 : 0 < x.length) (h : x.length < 1000) : ∃ k : Nat, k < x.length ∧ ∃ a' b' c', fn__law_one [.own true (WL a b c), .val (.lst x)] = .ok (.val (x.getD k .non)) [.own true (WL a' b' c'), .val (.lst x)] := by
  obtain ⟨k, hk, a', b', c', e⟩ := t_draw a b c x.length (by omega) (by omega)
  refine ⟨k, by omega, a', b', c', ?_⟩
  have h4 : atI x (k : Int) = some (x.getD k .non) := by
    rw [atI_ofNat, List.getD_eq_getElem?_getD, List.getElem?_eq_getElem (by omega)]
    rfl
  simp [fn__law_one, dn__law_one, e, h4]
theorem t_calendar {far : Nat} {cyc chg} (g : Good far cyc chg) (a b c : Int) : ∃ a' b' c', fn__law_calendar [.own true (WL a b c), .val (parD cyc chg)] = .ok (.own (.ins "Calendar" [("cycle", .tup (cyc.map D.bl)), ("changes", .tup (chg.map chD))])) [.own true (WL a' b' c'), .val (parD cyc chg)] := by
  obtain ⟨k, hk, a', b', c', h⟩ := t_one a b c [.tup (cyc.map D.bl), .lst (cyc.map D.bl)] (by simp) (by simp)
  obtain ⟨k2, hk2, a2, b2, c2, h2⟩ := t_one a' b' c' [.tup (chg.map chD), .lst (chg.map chD)] (by simp) (by simp)
  have e1 : [D.tup (cyc.map D.bl), .lst (cyc.map D.bl)].getD k .non = sq (decide (k = 1)) (cyc.map D.bl) := by
    simp only [List.length_cons, List.length_nil] at hk
    rcases (show k = 0 ∨ k = 1 by omega) with rfl | rfl <;> rfl
  have e2 : [D.tup (chg.map chD), .lst (chg.map chD)].getD k2 .non = sq (decide (k2 = 1)) (chg.map chD) := by
    simp only [List.length_cons, List.length_nil] at hk2
    rcases (show k2 = 0 ∨ k2 = 1 by omega) with rfl | rfl <;> rfl
  rw [e1] at h
  rw [e2] at h2
  refine ⟨a2, b2, c2, ?_⟩
  have sl2 : 2 ≤ sizeLine := Nat.le_of_lt (small_line (by omega))
  simp [fn__law_calendar, dn__law_calendar, h, h2, sl2, t_Calendar g.toCal0]
end Lw

set_option Elab.async false
set_option linter.all false
set_option maxRecDepth 100000
set_option maxHeartbeats 1000000
namespace Lw
open PySem L2 Y
theorem t_planned (cyc chg) (s : Nat) (hc : 0 < cyc.length) : fn_planned [.val (calD cyc chg), .val (.int s)] = .ok (.val (.bl (pl cyc s))) [.val (calD cyc chg), .val (.int s)] := by
  have h2 : (s : Int) % (cyc.length : Int) = ((s % cyc.length : Nat) : Int) := by omega
  have h3 : (cyc.map D.bl)[s % cyc.length]? = some (.bl (pl cyc s)) := by
    have := Nat.mod_lt s hc
    unfold pl
    rw [List.getElem?_map, List.getD_eq_getElem?_getD, List.getElem?_eq_getElem this]
    rfl
  have h4 : atI (cyc.map D.bl) ((s : Int) % (cyc.length : Int)) = some (.bl (pl cyc s)) := by rw [h2, atI_ofNat, h3]
  simp [fn_planned, dn_planned, hc, h4]
theorem l_works (x : D) (s : Nat) : ∀ (chg : List (Nat × Bool)) (s2 s3 : Slot), stoS (some s2) = true → stoS (some s3) = true → ∃ s2' s3',
    forRun (tTupD 2 (tsCons (tName 2) (tsCons (tName 3) (tsNil)))) lb_works_1 (chg.map chD) [.val x, .val (.int s), s2, s3] =
      .ok (match chg.find? (fun p => p.1 == s) with | some p => .rt (.val (.bl p.2)) | none => .nx) [.val x, .val (.int s), s2', s3']
  | [], s2, s3, _, _ => ⟨s2, s3, v_forN _ _ _⟩
  | p :: r, s2, s3, h2, h3 => by
    rw [List.map_cons]
    have ec : chD p = .tup [.int p.1, .bl p.2] := rfl
    by_cases z : p.1 = s
    · refine ⟨.val (.int p.1), .val (.bl p.2), ?_⟩
      rw [v_forC]
      simp [lb_works_1, h2, h3, ec, eq_int, z]
    · obtain ⟨s2', s3', h⟩ := l_works x s r (.val (.int p.1)) (.val (.bl p.2)) rfl rfl
      refine ⟨s2', s3', ?_⟩
      have z' : ¬ ((p.1 : Int) = (s : Int)) := by omega
      rw [v_forC, List.find?_cons_of_neg (by simp; exact z), ← h]
      simp [lb_works_1, h2, h3, ec, eq_int, z']
theorem t_works (cyc chg) (s : Nat) (hc : 0 < cyc.length) : fn_works [.val (calD cyc chg), .val (.int s)] = .ok (.val (.bl (wk cyc chg s))) [.val (calD cyc chg), .val (.int s)] := by
  obtain ⟨s2', s3', h⟩ := l_works (calD cyc chg) s chg .no .no rfl rfl
  unfold wk
  cases q : chg.find? (fun p => p.1 == s) with
  | some p =>
    rw [q] at h
    simp [fn_works, dn_works, h]
  | none =>
    rw [q] at h
    simp [fn_works, dn_works, h, t_planned cyc chg s hc]
theorem set_same (E : Sl) (i : Nat) (s : Slot) (h : E[i]? = some s) : E.set i s = E := by
  apply List.ext_getElem?
  intro j
  rw [List.getElem?_set]
  split
  · rename_i q
    subst q
    have : i < E.length := by
      rcases Nat.lt_or_ge i E.length with w | w
      · exact w
      · rw [List.getElem?_eq_none w] at h; cases h
    rw [if_pos this, h]
  · rfl
theorem get_set (E : Sl) (i : Nat) (s s' : Slot) (h : E[i]? = some s) : (E.set i s')[i]? = some s' := by
  have : i < E.length := by
    rcases Nat.lt_or_ge i E.length with w | w
    · exact w
    · rw [List.getElem?_eq_none w] at h; cases h
  rw [List.getElem?_set_self this]
end Lw

set_option Elab.async false
set_option linter.all false
set_option maxRecDepth 100000
set_option maxHeartbeats 1000000
namespace Lw
open PySem L2 Y
abbrev nD (n : Nat) : D := .int (n : Int)
theorem t_check_calendar (cyc chg) (x : D) : fn_check_calendar [.val (calD cyc chg), .val x] = .ok (.val .non) [.val (calD cyc chg), .val x] := by
  have : ∀ e, isiC "Calendar" (calD cyc chg) e = .ok (.val (.bl true)) e := fun e => v_isiCi _ _ e
  simp [fn_check_calendar, dn_check_calendar, this]
theorem t_check_slot (n : Nat) (x : D) : fn_check_slot [.val (.int n), .val x] = .ok (.val .non) [.val (.int n), .val x] := by
  simp [fn_check_slot, dn_check_slot, t_is_slot]
/-- a comprehension that picks whole numbers -/
theorem lc_pick (E : Sl) (v : Nat) (p : M Bool) (f : Nat → Bool) (h5 : E[v]? = some .no) (ns : List Nat) (hl : ns.length ≤ 10000) (hp : ∀ n, n ∈ ns → p (E.set v (.val (nD n))) = .ok (f n) (E.set v (.val (nD n)))) : lcRun (tName v) p (eVar v) [v] (ns.map nD) [] E = .ok ((ns.filter f).map nD) E := by
  have := lc_pure (t := tName v) (p := p) (f := eVar v) (vs := [v]) (e := E) (fun d => match d with | .int i => f i.toNat | _ => false) id (ns.map nD) [] (by rw [List.length_map, List.length_nil]; exact Nat.le_of_lt (small_line (by omega))) (fun d hd => by
    obtain ⟨b, hb, rfl⟩ := List.mem_map.mp hd
    have g := get_set E v _ (.val (nD b)) h5
    refine ⟨(), E.set v (.val (nD b)), E.set v (.val (nD b)), ?_, by rw [hp b hb]; rfl, fun z => ?_, fun _ => ⟨E.set v (.val (nD b)), ?_, ?_⟩⟩
    · simp [h5]
    · simp [set_same E v _ h5]
    · simp [g]
    · simp [set_same E v _ h5])
  rw [this, List.nil_append, List.map_id, List.filter_map]
  rfl
theorem rangeD_nat (n : Nat) : rangeD 0 n = (List.range n).map nD := by
  unfold rangeD
  apply List.map_congr_left
  intro a _
  rw [Int.zero_add]
abbrev calC (cyc : List Bool) (chg : List (Nat × Bool)) : Cont := .ins "Calendar" [("cycle", .tup (cyc.map D.bl)), ("changes", .tup (chg.map chD))]
/-- a slot that holds data, its own or not -/
def Sd (c : Cont) (s : Slot) : Prop := s = .own false c ∨ s = .val c.dat
theorem t_well (i : Int) : ∃ a b c, fn__law_well [.val (.int i)] = .ok (.own (WL a b c)) [.val (.int i)] := by
  have sl3 : 3 ≤ sizeLine := Nat.le_of_lt (small_line (by omega))
  by_cases z : (1000000000000000000 : Int) ≤ i
  · exact ⟨i * 1, i % 2147483647, 0, by simp [fn__law_well, dn__law_well, z, sl3]⟩
  · exact ⟨i * 0, i % 2147483647, 0, by simp [fn__law_well, dn__law_well, z, sl3]⟩
theorem cut_four (ns : List Int) : cutD (ns.map D.int) none (some 4) = (ns.take 4).map D.int := by
  unfold cutD
  rw [show HT.sIx (ns.map D.int).length 0 none = 0 from rfl, show (some (4 : Int)) = some ((4 : Nat) : Int) from rfl, HT.sIx_nat, List.drop_zero, Nat.sub_zero, List.map_take]
  rcases Nat.le_total 4 (ns.map D.int).length with q | q
  · rw [Nat.min_eq_left q]
  · rw [Nat.min_eq_right q, List.take_length, List.take_of_length_le q]
end Lw

set_option Elab.async false
set_option linter.all false
set_option maxRecDepth 100000
set_option maxHeartbeats 1000000
namespace Lw
open PySem L2 Y
theorem t_law_works (cyc chg) (s : Nat) (hc : 0 < cyc.length) : fn__law_works [.val (parD cyc chg), .val (.int s)] = .ok (.val (.bl (wk cyc chg s))) [.val (parD cyc chg), .val (.int s)] := by
  obtain ⟨s2', s3', h⟩ := l_works (parD cyc chg) s chg .no .no rfl rfl
  have hb : lb__law_works_1 = lb_works_1 := rfl
  unfold wk
  cases q : chg.find? (fun p => p.1 == s) with
  | some p =>
    rw [q] at h
    simp [fn__law_works, dn__law_works, hb, h]
  | none =>
    rw [q] at h
    have h2 : (s : Int) % (cyc.length : Int) = ((s % cyc.length : Nat) : Int) := by omega
    have h3 : (cyc.map D.bl)[s % cyc.length]? = some (.bl (pl cyc s)) := by
      have := Nat.mod_lt s hc
      unfold pl
      rw [List.getElem?_map, List.getD_eq_getElem?_getD, List.getElem?_eq_getElem this]
      rfl
    have h4 : atI (cyc.map D.bl) ((s : Int) % (cyc.length : Int)) = some (.bl (pl cyc s)) := by rw [h2, atI_ofNat, h3]
    simp [fn__law_works, dn__law_works, hb, h, hc, h4]
end Lw

set_option Elab.async false
set_option linter.all false
set_option maxRecDepth 100000
set_option maxHeartbeats 1000000
namespace Lw
open PySem L2 Y
/-! equality of calendars -/
def chP (p : Nat × Bool) : PyData := .tuple [.int p.1, .bool p.2]
theorem toPys_ch : ∀ chg : List (Nat × Bool), toPys (chg.map chD) = some (chg.map chP)
  | [] => rfl
  | p :: r => by
    rw [List.map_cons]
    unfold toPys
    rw [toPys_ch r]
    rfl
theorem canLay_ch : ∀ chg : List (Nat × Bool), PyData.canLayAll0 (chg.map chP) = true
  | [] => by simp [PyData.canLayAll0]
  | p :: r => by simp [PyData.canLayAll0, PyData.canLay0, chP, canLay_ch r]
theorem depth_ch : ∀ chg : List (Nat × Bool), PyData.depthAll (chg.map chP) ≤ 2
  | [] => by simp [PyData.depthAll]
  | p :: r => by
    have := depth_ch r
    simp [PyData.depthAll, PyData.depth, chP]
    omega
theorem eqv_bl : ∀ a b : List Bool, PyData.eqvAll (a.map PyData.bool) (b.map PyData.bool) = decide (a = b)
  | [], [] => by simp [PyData.eqvAll]
  | [], _ :: _ => by simp [PyData.eqvAll]
  | _ :: _, [] => by simp [PyData.eqvAll]
  | x :: a, y :: b => by
    have := eqv_bl a b
    simp [PyData.eqvAll, PyData.eqv, this]
    cases x <;> cases y <;> simp
theorem eqv_chp (p q : Nat × Bool) : PyData.eqv (chP p) (chP q) = decide (p = q) := by
  obtain ⟨a, b⟩ := p
  obtain ⟨c, d⟩ := q
  simp [chP, PyData.eqv, PyData.eqvAll]
  have hz : ((a : Int) = (c : Int)) ↔ a = c := by omega
  cases b <;> cases d <;> simp [hz] <;> by_cases z : a = c <;> simp [z] <;> omega
theorem eqv_ch : ∀ a b : List (Nat × Bool), PyData.eqvAll (a.map chP) (b.map chP) = decide (a = b)
  | [], [] => by simp [PyData.eqvAll]
  | [], _ :: _ => by simp [PyData.eqvAll]
  | _ :: _, [] => by simp [PyData.eqvAll]
  | x :: a, y :: b => by
    have := eqv_ch a b
    simp [PyData.eqvAll, eqv_chp, this]
theorem eq_par (a b : List Bool) (c d : List (Nat × Bool)) : eqD (.tup [.tup (a.map D.bl), .tup (c.map chD)]) (.tup [.tup (b.map D.bl), .tup (d.map chD)]) = some (decide (a = b ∧ c = d)) := by
  have h1 : ∀ (a : List Bool) (c : List (Nat × Bool)), toPy (.tup [.tup (a.map D.bl), .tup (c.map chD)]) = some (.tuple [.tuple (a.map PyData.bool), .tuple (c.map chP)]) := fun a c => by
    unfold toPy toPys toPys toPys toPy
    rw [toPys_bl, toPys_ch]
    rfl
  have h2 : ∀ (a : List Bool) (c : List (Nat × Bool)), SeqAt.shaped (.tuple [.tuple (a.map PyData.bool), .tuple (c.map chP)]) = true := fun a c => by
    have := depth_bl a
    have := depth_ch c
    simp [SeqAt.shaped, PyData.canLay0, PyData.canLayAll0, canLay_bl, canLay_ch, PyData.depth, PyData.depthAll]
    omega
  unfold eqD
  rw [h1, h1]
  dsimp only
  rw [if_pos ⟨h2 a c, h2 b d⟩]
  simp [PyData.eqv, PyData.eqvAll, eqv_bl, eqv_ch]
theorem t_eqI (a b : List Bool) (c d : List (Nat × Bool)) : fn_Calendar_eq [.val (calD a c), .val (calD b d)] = .ok (.val (.bl (decide (a = b ∧ c = d)))) [.val (calD a c), .val (calD b d)] := by
  have i : ∀ e, isiC "Calendar" (calD b d) e = .ok (.val (.bl true)) e := fun e => v_isiCi _ _ e
  have sl2 : 2 ≤ sizeLine := Nat.le_of_lt (small_line (by omega))
  simp [fn_Calendar_eq, dn_Calendar_eq, i, sl2, eq_par]
theorem t_eqT (a : List Bool) (c : List (Nat × Bool)) (ds : List D) : fn_Calendar_eq [.val (calD a c), .val (.tup ds)] = .ok (.val (.bl false)) [.val (calD a c), .val (.tup ds)] := by
  have i : ∀ e, isiC "Calendar" (.tup ds) e = .ok (.val (.bl false)) e := fun e => rfl
  simp [fn_Calendar_eq, dn_Calendar_eq, i]
theorem t_eqN (a : List Bool) (c : List (Nat × Bool)) : fn_Calendar_eq [.val (calD a c), .val .non] = .ok (.val (.bl false)) [.val (calD a c), .val .non] := by
  have i : ∀ e, isiC "Calendar" .non e = .ok (.val (.bl false)) e := fun e => rfl
  simp [fn_Calendar_eq, dn_Calendar_eq, i]
theorem o_eqI (a b : List Bool) (c d : List (Nat × Bool)) (e : Sl) : ownEqK "Calendar" fn_Calendar_eq (calD a c) (calD b d) e = .ok (.val (.bl (decide (a = b ∧ c = d)))) e := by
  have := v_ownEqI "Calendar" fn_Calendar_eq [("cycle", .tup (a.map D.bl)), ("changes", .tup (c.map chD))] [("cycle", .tup (b.map D.bl)), ("changes", .tup (d.map chD))] e
  exact this.trans (by rw [show fn_Calendar_eq [.val (.ins "Calendar" [("cycle", .tup (a.map D.bl)), ("changes", .tup (c.map chD))]), .val (.ins "Calendar" [("cycle", .tup (b.map D.bl)), ("changes", .tup (d.map chD))])] = _ from t_eqI a b c d, v_eqB])
theorem o_neI (a b : List Bool) (c d : List (Nat × Bool)) (e : Sl) : ownNeK "Calendar" fn_Calendar_eq (calD a c) (calD b d) e = .ok (.val (.bl (!decide (a = b ∧ c = d)))) e := by
  have := v_ownNe "Calendar" fn_Calendar_eq [("cycle", .tup (a.map D.bl)), ("changes", .tup (c.map chD))] [("cycle", .tup (b.map D.bl)), ("changes", .tup (d.map chD))] e
  exact this.trans (by rw [show fn_Calendar_eq [.val (.ins "Calendar" [("cycle", .tup (a.map D.bl)), ("changes", .tup (c.map chD))]), .val (.ins "Calendar" [("cycle", .tup (b.map D.bl)), ("changes", .tup (d.map chD))])] = _ from t_eqI a b c d, v_neB])
theorem o_eqT (a : List Bool) (c : List (Nat × Bool)) (ds : List D) (e : Sl) : ownEqK "Calendar" fn_Calendar_eq (calD a c) (.tup ds) e = .ok (.val (.bl false)) e := by
  have := v_ownEqT "Calendar" fn_Calendar_eq [("cycle", .tup (a.map D.bl)), ("changes", .tup (c.map chD))] ds e
  exact this.trans (by rw [show fn_Calendar_eq [.val (.ins "Calendar" [("cycle", .tup (a.map D.bl)), ("changes", .tup (c.map chD))]), .val (.tup ds)] = _ from t_eqT a c ds, v_eqB])
theorem o_eqN (a : List Bool) (c : List (Nat × Bool)) (e : Sl) : ownEqK "Calendar" fn_Calendar_eq (calD a c) .non e = .ok (.val (.bl false)) e := by
  have := v_ownEqN "Calendar" fn_Calendar_eq [("cycle", .tup (a.map D.bl)), ("changes", .tup (c.map chD))] e
  exact this.trans (by rw [show fn_Calendar_eq [.val (.ins "Calendar" [("cycle", .tup (a.map D.bl)), ("changes", .tup (c.map chD))]), .val .non] = _ from t_eqN a c, v_eqB])
end Lw

set_option Elab.async false
set_option linter.all false
set_option maxRecDepth 100000
set_option maxHeartbeats 1000000
namespace Lw
open PySem L2 Y
theorem ints_n : ∀ ns : List Nat, intsOf (ns.map nD) = some (ns.map fun n : Nat => (n : Int))
  | [] => rfl
  | n :: r => by
    rw [List.map_cons]
    unfold intsOf
    rw [ints_n r]
    rfl
theorem bls_map {α : Type} (f : α → Bool) : ∀ xs : List α, blsOf (xs.map fun a => D.bl (f a)) = some (xs.map f)
  | [] => rfl
  | n :: r => by
    rw [List.map_cons]
    unfold blsOf
    rw [bls_map f r]
    rfl
theorem srt_n (ns : List Nat) : ∃ xs : List Nat, (srt (ns.map fun n : Nat => (n : Int))).map D.int = xs.map nD ∧ xs.Pairwise (· ≤ ·) ∧ xs.Perm ns := by
  obtain ⟨p, so⟩ := srt_ok (ns.map fun n : Nat => (n : Int))
  have all : ∀ i ∈ srt (ns.map fun n : Nat => (n : Int)), ((i.toNat : Nat) : Int) = i := fun i hi => by
    obtain ⟨n, _, rfl⟩ := List.mem_map.mp (p.subset hi)
    omega
  refine ⟨(srt (ns.map fun n : Nat => (n : Int))).map Int.toNat, ?_, ?_, ?_⟩
  · rw [List.map_map]
    apply List.map_congr_left
    intro i hi
    show D.int i = D.int ((i.toNat : Nat) : Int)
    rw [all i hi]
  · rw [List.pairwise_map]
    exact so.imp fun h => Int.toNat_le_toNat h
  · have := p.map Int.toNat
    rw [List.map_map] at this
    have e : (Int.toNat ∘ fun n : Nat => (n : Int)) = id := by funext n; simp
    rw [e, List.map_id] at this
    exact this
theorem l_div : ∀ (n a b : Nat), b < n → whRun wc_divisor_of_1 wb_divisor_of_1 n [.val (nD a), .val (nD b)] = .ok .nx [.val (nD (Nat.gcd a b)), .val (nD 0)]
  | 0, a, b, h => by omega
  | n + 1, a, b, h => by
    rw [v_wh]
    by_cases z : b = 0
    · subst z
      simp [wc_divisor_of_1, eq_int]
    · have e := l_div n b (a % b) (by have := Nat.mod_lt a (show 0 < b by omega); omega)
      rw [show Nat.gcd a b = Nat.gcd b (a % b) by rw [Nat.gcd_comm a b, Nat.gcd_rec, Nat.gcd_comm]]
      have hb : 0 < b := by omega
      have hm : ((a % b : Nat) : Int) = (a : Int) % (b : Int) := by omega
      rw [← e]
      simp [wc_divisor_of_1, wb_divisor_of_1, eq_int, z, hb, nD, hm]
theorem t_divisor (a b : Nat) : fn_divisor_of [.val (nD a), .val (nD b)] = .ok (.val (nD (Nat.gcd a b))) [.val (nD a), .val (nD b)] := by
  have e := l_div (b + 1) a b (by omega)
  have ew := sWhile_eq (n := b + 1) (by rw [e]; exact fun z => by cases z)
  rw [e] at ew
  have z : ¬ ((Nat.gcd a b : Nat) : Int) < 0 := by omega
  simp [nD] at ew
  simp [fn_divisor_of, dn_divisor_of, ew, z]
end Lw

set_option Elab.async false
set_option linter.all false
set_option maxRecDepth 100000
set_option maxHeartbeats 1000000
namespace Lw
open PySem L2 Y
def oD : Option Nat → D
  | none => .non
  | some n => nD n
theorem ch_app (h1 h2 : List (Nat × Bool)) : h1.map chD ++ h2.map chD = (h1 ++ h2).map chD := by rw [List.map_append]
theorem fst_app (h1 h2 : List (Nat × Bool)) : (h1 ++ h2).map (fun p => nD p.1) = (chs h1 h2).map nD := by
  unfold chs
  rw [← List.map_append, List.map_map]
  rfl
theorem ec (p : Nat × Bool) : chD p = .tup [.int p.1, .bl p.2] := rfl
/-- the loop that looks for the first slot -/
theorem l_first {c1 h1 c2 h2} (g1 : Cal0 c1 h1) (g2 : Cal0 c2 h2) (x2 x3 x4 x5 x6 : Slot) (xs : List Nat) (s : Slot) (hs : stoS (some s) = true) :
    ∃ s', stoS (some s') = true ∧ forRun (tName 7) lb_first_difference_1 (xs.map nD) [.val (calD c1 h1), .val (calD c2 h2), x2, x3, x4, x5, x6, s] = .ok (fndF (fun a => .val (nD a)) (xs.find? (dif c1 h1 c2 h2))) [.val (calD c1 h1), .val (calD c2 h2), x2, x3, x4, x5, x6, s'] := by
  refine for_find (fun s => [.val (calD c1 h1), .val (calD c2 h2), x2, x3, x4, x5, x6, s]) (dif c1 h1 c2 h2) (fun a => .val (nD a)) xs s hs fun s a _ hs => ?_
  have e1 := t_works c1 h1 a g1.c1
  have e2 := t_works c2 h2 a g2.c1
  have q : (wk c1 h1 a == wk c2 h2 a) = !(dif c1 h1 c2 h2 a) := by
    unfold dif
    cases wk c1 h1 a <;> cases wk c2 h2 a <;> rfl
  cases w : dif c1 h1 c2 h2 a <;> rw [w] at q <;> simp [lb_first_difference_1, hs, e1, e2, eq_bl, q, nD]
theorem t_first {c1 h1 c2 h2} (g1 : Cal0 c1 h1) (g2 : Cal0 c2 h2) : ∃ r, FirstOf (dif c1 h1 c2 h2) r ∧ fn_first_difference [.val (calD c1 h1), .val (calD c2 h2)] = .ok (.val (oD r)) [.val (calD c1 h1), .val (calD c2 h2)] := by
  have l1 := g1.c1
  have l2 := g2.c1
  have hg : 0 < Nat.gcd c1.length c2.length := Nat.gcd_pos_of_pos_left _ l1
  have hg2 : Nat.gcd c1.length c2.length ≤ c1.length := Nat.gcd_le_left _ l1
  have m1 := g1.c14
  have m2 := g2.c14
  have hL := lcm_le m1 m2 l1 l2
  have hL0 : 0 < Nat.lcm c1.length c2.length := Nat.lcm_pos l1 l2
  have d1 : c1.length ∣ Nat.lcm c1.length c2.length := Nat.dvd_lcm_left _ _
  have d2 : c2.length ∣ Nat.lcm c1.length c2.length := Nat.dvd_lcm_right _ _
  have eL : ((c1.length : Int) * (c2.length : Int)) / ((Nat.gcd c1.length c2.length : Nat) : Int) = ((Nat.lcm c1.length c2.length : Nat) : Int) := by
    unfold Nat.lcm
    rw [Int.natCast_ediv, Int.natCast_mul]
  have td := t_divisor c1.length c2.length
  have n1 := g1.n10
  have n2 := g2.n10
  have hk : (chs h1 h2).length ≤ 20 := by unfold chs; rw [List.length_append, List.length_map, List.length_map]; omega
  have b1 : (-18446744073709551616 : Int) < (c1.length : Int) ∧ (c1.length : Int) < 18446744073709551616 := by omega
  have b2 : ((Nat.gcd c1.length c2.length : Nat) : Int) < 1073741824 := by omega
  have sl : h1.length + h2.length ≤ sizeLine := Nat.le_of_lt (small_line (by omega))
  -- the slots of both
  have e1 := lc_map (t := tName 6) (p := tYesD) (f := le_first_difference_1) (vs := [6]) (e := [.val (calD c1 h1), .val (calD c2 h2), .val (nD c1.length), .val (nD c2.length), .val (nD (Nat.lcm c1.length c2.length)), .no, .no, .no]) (enc := chD) (fun p => nD p.1) (h1 ++ h2) (by rw [List.length_append]; omega) (fun p _ => by
    simp [le_first_difference_1, ec])
  rw [fst_app] at e1
  obtain ⟨xs, x1, x2, x3⟩ := srt_n (chs h1 h2)
  have hm : ∀ t, t ∈ chs h1 h2 → t ∈ xs := fun t ht => x3.symm.subset ht
  have lx : xs.length = (chs h1 h2).length := x3.length_eq
  -- whether the cycles differ
  have e2 := lc_map (t := tName 7) (p := tYesD) (f := le_first_difference_2) (vs := [7]) (e := [.val (calD c1 h1), .val (calD c2 h2), .val (nD c1.length), .val (nD c2.length), .val (nD (Nat.lcm c1.length c2.length)), .own false (.lst (xs.map nD)), .no, .no]) (enc := nD) (fun s => .bl (!(pl c1 s == pl c2 s))) (List.range (Nat.lcm c1.length c2.length)) (by rw [List.length_range]; omega) (fun s _ => by
    have p1 := t_planned c1 h1 s l1
    have p2 := t_planned c2 h2 s l2
    simp [le_first_difference_2, p1, p2, eq_bl, nD])
  have e3 := bls_map (fun s => !(pl c1 s == pl c2 s)) (List.range (Nat.lcm c1.length c2.length))
  rw [← rangeD_nat] at e2
  simp [nD] at td e1 e2
  by_cases z : ∃ s, s < Nat.lcm c1.length c2.length ∧ pl c1 s ≠ pl c2 s
  · obtain ⟨s0, hs0, hd⟩ := z
    refine ⟨_, first_one _ hL0 d1 d2 s0 hs0 hd, ?_⟩
    have an : ((List.range (Nat.lcm c1.length c2.length)).map fun s => !(pl c1 s == pl c2 s)).any id = true := by
      rw [List.any_map, List.any_eq_true]
      exact ⟨s0, List.mem_range.mpr hs0, by simpa using hd⟩
    have hb : Nat.lcm c1.length c2.length * ((chs h1 h2).length + 1) ≤ 182 * 21 := Nat.mul_le_mul hL (by omega)
    obtain ⟨N, hN⟩ : ∃ N, N = Nat.lcm c1.length c2.length * ((chs h1 h2).length + 1) := ⟨_, rfl⟩
    rw [← hN] at hb ⊢
    obtain ⟨s', hs', e4⟩ := l_first g1 g2 (.val (nD c1.length)) (.val (nD c2.length)) (.val (nD (Nat.lcm c1.length c2.length))) (.val (.lst ((List.range N).map nD))) .no (List.range N) .no rfl
    rw [← rangeD_nat] at e4
    have b3 : ((Nat.lcm c1.length c2.length : Nat) : Int) * (((chs h1 h2).length : Int) + 1) = (N : Int) := by rw [hN]; simp
    have b4 : (N : Int) < 4611686018427387904 := by omega
    have b5 : (-4611686018427387904 : Int) ≤ (N : Int) := by omega
    have b6 : N ≤ 16777216 := by omega
    have b7 : (-18446744073709551616 : Int) < ((Nat.lcm c1.length c2.length : Nat) : Int) ∧ ((Nat.lcm c1.length c2.length : Nat) : Int) < 18446744073709551616 := by omega
    simp [nD] at e4
    cases q : (List.range N).find? (dif c1 h1 c2 h2) with
    | none =>
      rw [q] at e4
      simp [fn_first_difference, dn_first_difference, t_check_calendar, td, b1, b2, hg, eL, sl, e1, ints_n, x1, e2, e3, an, lx, b3, b4, b5, b6, b7, e4, oD]
    | some d =>
      rw [q] at e4
      simp [fn_first_difference, dn_first_difference, t_check_calendar, td, b1, b2, hg, eL, sl, e1, ints_n, x1, e2, e3, an, lx, b3, b4, b5, b6, b7, e4, oD]
  · have hq : ∀ s, pl c1 s = pl c2 s := pl_all _ hL0 d1 d2 fun s hs => by
      rcases Classical.em (pl c1 s = pl c2 s) with w | w
      · exact w
      · exact absurd ⟨s, hs, w⟩ z
    refine ⟨_, first_two hq xs x2 hm, ?_⟩
    have an : ((List.range (Nat.lcm c1.length c2.length)).map fun s => !(pl c1 s == pl c2 s)).any id = false := by
      rw [List.any_map, List.any_eq_false]
      intro s _
      simp [hq s]
    obtain ⟨s', hs', e4⟩ := l_first g1 g2 (.val (nD c1.length)) (.val (nD c2.length)) (.val (nD (Nat.lcm c1.length c2.length))) (.val (.lst (xs.map nD))) .no xs .no rfl
    simp [nD] at e4
    cases q : xs.find? (dif c1 h1 c2 h2) with
    | none =>
      rw [q] at e4
      simp [fn_first_difference, dn_first_difference, t_check_calendar, td, b1, b2, hg, eL, sl, e1, ints_n, x1, e2, e3, an, e4, oD]
    | some d =>
      rw [q] at e4
      simp [fn_first_difference, dn_first_difference, t_check_calendar, td, b1, b2, hg, eL, sl, e1, ints_n, x1, e2, e3, an, e4, oD]
end Lw

set_option Elab.async false
set_option linter.all false
set_option maxRecDepth 100000
set_option maxHeartbeats 1000000
namespace Lw
open PySem L2 Y
/-! slots that hold data or nothing -/
def oS : Option D → Slot
  | none => .no
  | some d => .val d
@[simp] theorem oS_some (d : D) : oS (some d) = .val d := id rfl
@[simp] theorem oS_none : oS none = .no := id rfl
@[simp] theorem oS_sto (o : Option D) : stoS (some (oS o)) = true := by cases o <;> rfl
theorem cut_take (xs : List D) (k : Nat) (h : k ≤ xs.length) : cutD xs none (some (k : Int)) = xs.take k := by
  unfold cutD
  rw [HT.sIx_none, HT.sIx_nat, List.drop_zero, Nat.sub_zero, Nat.min_eq_left h]
theorem cut_drop (xs : List D) (k : Nat) (h : k ≤ xs.length) : cutD xs (some (k : Int)) none = xs.drop k := by
  unfold cutD
  rw [HT.sIx_none, HT.sIx_nat, Nat.min_eq_left h, List.take_of_length_le]
  rw [List.length_drop]
  omega
theorem bl_ok (b : Bool) : okD (.bl b) = true := by simp [okD]
theorem bl_dp (b : Bool) : dpD (.bl b) ≤ 0 := by simp [dpD]
theorem bl_eq (a b : Bool) : eqd (.bl a) (.bl b) = decide (a = b) := by cases a <;> cases b <;> simp [eqd]
theorem eq_cyc (a b : List Bool) : eqD (.tup (a.map D.bl)) (.tup (b.map D.bl)) = some (decide (a = b)) := by
  have o := okDs_map bl_ok
  have d := dpDs_map bl_dp
  rw [eqD_of (by simp only [okD]; exact o a) (by simp only [okD]; exact o b) (by have := d a; simp only [dpD]; omega) (by have := d b; simp only [dpD]; omega)]
  simp only [eqd]
  rw [eqds_map bl_eq]
theorem eq_two (a b c d : Nat) : eqD (.tup [nD a, nD b]) (.tup [nD c, nD d]) = some (decide (a = c ∧ b = d)) := by
  rw [eqD_of (by simp [okD, okDs]) (by simp [okD, okDs]) (by simp [dpD, dpDs]) (by simp [dpD, dpDs])]
  simp only [eqd, eqds]
  congr 1
  by_cases h1 : a = c <;> by_cases h2 : b = d <;> simp [h1, h2] <;> omega
theorem eq_oD (a b : Option Nat) : eqD (oD a) (oD b) = some (decide (a = b)) := by
  cases a with
  | none => cases b with
    | none => rfl
    | some m => rfl
  | some n => cases b with
    | none => rfl
    | some m =>
      show eqD (.int n) (.int m) = _
      rw [eq_int]
      congr 1
      by_cases h : n = m <;> simp [h] <;> omega
/-! the law's own search -/
theorem l_dif {c1 h1 c2 h2} (g1 : Cal0 c1 h1) (g2 : Cal0 c2 h2) (x2 x3 : Slot) (xs : List Nat) (s : Slot) (hs : stoS (some s) = true) :
    ∃ s', stoS (some s') = true ∧ forRun (tName 4) lb__law_difference_1 (xs.map nD) [.val (parD c1 h1), .val (parD c2 h2), x2, x3, s] = .ok (fndF (fun a => .val (nD a)) (xs.find? (dif c1 h1 c2 h2))) [.val (parD c1 h1), .val (parD c2 h2), x2, x3, s'] := by
  refine for_find (fun s => [.val (parD c1 h1), .val (parD c2 h2), x2, x3, s]) (dif c1 h1 c2 h2) (fun a => .val (nD a)) xs s hs fun s a _ hs => ?_
  have e1 := t_law_works c1 h1 a g1.c1
  have e2 := t_law_works c2 h2 a g2.c1
  have q : (wk c1 h1 a == wk c2 h2 a) = !(dif c1 h1 c2 h2 a) := by
    unfold dif
    cases wk c1 h1 a <;> cases wk c2 h2 a <;> rfl
  cases w : dif c1 h1 c2 h2 a <;> rw [w] at q <;> simp [lb__law_difference_1, hs, e1, e2, eq_bl, q, nD]
theorem t_dif {c1 h1 c2 h2} (g1 : Cal0 c1 h1) (g2 : Cal0 c2 h2) (h : (∀ s, pl c1 s = pl c2 s) ∨ ∃ t, t < 420 ∧ dif c1 h1 c2 h2 t = true) : ∃ r, FirstOf (dif c1 h1 c2 h2) r ∧
    fn__law_difference [.val (parD c1 h1), .val (parD c2 h2)] = .ok (.val (oD r)) [.val (parD c1 h1), .val (parD c2 h2)] := by
  have n1 := g1.n10
  have n2 := g2.n10
  have hk : (chs h1 h2).length ≤ 20 := by unfold chs; rw [List.length_append, List.length_map, List.length_map]; omega
  have sl : h1.length + h2.length ≤ sizeLine := Nat.le_of_lt (small_line (by omega))
  have e1 := lc_map (t := tName 3) (p := tYesD) (f := le__law_difference_1) (vs := [3]) (e := [.val (parD c1 h1), .val (parD c2 h2), .no, .no, .no]) (enc := chD) (fun p => nD p.1) (h1 ++ h2) (by rw [List.length_append]; omega) (fun p _ => by
    simp [le__law_difference_1, ec])
  rw [fst_app] at e1
  obtain ⟨xs, x1, x2, x3⟩ := srt_n (chs h1 h2)
  have hm : ∀ t, t ∈ chs h1 h2 → t ∈ xs := fun t ht => x3.symm.subset ht
  have lx : xs.length = (chs h1 h2).length := x3.length_eq
  refine ⟨_, first_law xs x2 hm h, ?_⟩
  obtain ⟨s', hs', e4⟩ := l_dif g1 g2 (.val (.lst ((List.range 420 ++ xs).map nD))) .no (List.range 420 ++ xs) .no rfl
  rw [List.map_append, ← rangeD_nat] at e4
  have sl2 : 420 + xs.length ≤ sizeLine := Nat.le_of_lt (small_line (by omega))
  simp at e1
  cases q : (List.range 420 ++ xs).find? (dif c1 h1 c2 h2) with
  | none =>
    rw [q] at e4
    simp at e4
    simp [fn__law_difference, dn__law_difference, sl, e1, ints_n, x1, rangeD_len, sl2, e4, oD]
  | some d =>
    rw [q] at e4
    simp [nD] at e4
    simp [fn__law_difference, dn__law_difference, sl, e1, ints_n, x1, rangeD_len, sl2, e4, oD]
end Lw

set_option Elab.async false
set_option linter.all false
set_option maxRecDepth 100000
set_option maxHeartbeats 1000000
namespace Lw
open PySem L2 Y
theorem rangeD_one (n : Nat) : rangeD 1 n = ((List.range n).map (· + 1)).map nD := by
  unfold rangeD
  rw [List.map_map]
  apply List.map_congr_left
  intro i _
  show D.int (1 + (i : Int)) = D.int ((i + 1 : Nat) : Int)
  congr 1
  omega
theorem rangeD_from (m n : Nat) : rangeD (m : Int) n = ((List.range n).map (m + ·)).map nD := by
  unfold rangeD
  rw [List.map_map]
  apply List.map_congr_left
  intro i _
  show D.int ((m : Int) + (i : Int)) = D.int ((m + i : Nat) : Int)
  congr 1
theorem find_head {α : Type} {l : List α} {q : α → Bool} {m : α} (h : l.find? q = some m) : ∃ r, l.filter q = m :: r := by
  have := List.head?_filter (p := q) (l := l)
  rw [h] at this
  cases w : l.filter q with
  | nil => rw [w] at this; cases this
  | cons a r => rw [w] at this; cases this; exact ⟨r, rfl⟩
theorem rep_bl (k : Nat) (x : List Bool) : (List.replicate k (x.map D.bl)).flatten = ((List.replicate k x).flatten).map D.bl := by
  rw [List.map_flatten, List.map_replicate]
theorem fold_first (c : List Bool) : ∀ (h : List (Nat × Bool)) (f : Nat), h.foldl (fun f p => if p.2 != pl c p.1 then p.1 + 1 else f) f = (((odd c h).getLast?).map fun p => p.1 + 1).getD f
  | [], f => rfl
  | p :: r, f => by
    rw [List.foldl_cons, fold_first c r]
    unfold odd
    by_cases z : (p.2 != pl c p.1) = true
    · rw [if_pos z]
      simp only [List.filter_cons, z, if_true]
      cases w : r.filter fun p => p.2 != pl c p.1 with
      | nil => rfl
      | cons a b =>
        rw [List.getLast?_cons_cons, List.getLast?_cons]
        rfl
    · rw [if_neg z]
      simp only [List.filter_cons]
      rw [if_neg z]
theorem max_first (c : List Bool) (h : List (Nat × Bool)) (inc : (h.map Prod.fst).Pairwise (· < ·)) (ns : List Int) (hn : ns = ((odd c h).map fun p => ((p.1 + 1 : Nat) : Int)) ++ [0]) : ns ≠ [] ∧ ns.foldl max (ns.headD 0) = (fst1 c h : Int) := by
  have ne : ns ≠ [] := by rw [hn]; simp
  refine ⟨ne, ?_⟩
  obtain ⟨h1, h2, h3⟩ := fold_max ns (ns.headD 0)
  have hm : ns.foldl max (ns.headD 0) ∈ ns := by
    rcases h3 with z | z
    · rw [z]
      cases ns with
      | nil => exact absurd rfl ne
      | cons a b => exact List.mem_cons_self
    · exact z
  have i2 := odd_inc (c := c) inc
  -- the greatest stands at the end
  have up : ∀ x ∈ ns, x ≤ (fst1 c h : Int) := fun x hx => by
    rw [hn] at hx
    rcases List.mem_append.mp hx with z | z
    · obtain ⟨p, hp, rfl⟩ := List.mem_map.mp z
      unfold fst1
      rcases List.eq_nil_or_concat (odd c h) with q | ⟨pre, l, q⟩
      · rw [q] at hp; cases hp
      · rw [List.concat_eq_append] at q
        rw [q, List.getLast?_append, List.getLast?_singleton]
        rw [q, List.map_append, List.pairwise_append] at i2
        rw [q] at hp
        simp only [Option.some_or, Option.map_some, Option.getD_some]
        rcases List.mem_append.mp hp with w | w
        · have := i2.2.2 p.1 (List.mem_map.mpr ⟨p, w, rfl⟩) l.1 (by simp)
          omega
        · simp at w
          rw [w]
          omega
    · simp at z
      omega
  have lo : (fst1 c h : Int) ∈ ns := by
    rw [hn]
    unfold fst1
    rcases List.eq_nil_or_concat (odd c h) with q | ⟨pre, l, q⟩
    · rw [q]; simp
    · rw [List.concat_eq_append] at q
      rw [q, List.getLast?_append, List.getLast?_singleton]
      simp
  have := h2 _ lo
  have := up _ hm
  omega
/-- the program's turn -/
theorem t_turn_of {c h} (g : Cal0 c h) : ∃ m, 0 < m ∧ Per c m ∧ fn_turn_of [.val (calD c h)] = .ok (.val (.tup [nD (fst1 c h), nD m])) [.val (calD c h)] ∧
    ((List.range c.length).map (· + 1)).find? (fun m => decide (rot c m = c)) = some m := by
  have hc : 0 < c.length := g.c1
  have h14 := g.c14
  have h10 := g.n10
  obtain ⟨m, m0, ml, p, f1, f2⟩ := first_per c hc
  refine ⟨m, m0, p, ?_, f1⟩
  have e1 := lc_filter (t := tName 4) (p := lp_turn_of_1) (f := le_turn_of_1) (vs := [4]) (e := [.val (calD c h), .val (.tup (c.map D.bl)), .val (.tup (h.map chD)), .no, .no, .no, .no, .no, .no]) (enc := nD) (fun m => decide (c.length % m = 0)) nD ((List.range c.length).map (· + 1)) (by rw [List.length_map, List.length_range]; omega) (fun m hm => by
    obtain ⟨i, hi, rfl⟩ := List.mem_map.mp hm
    rw [List.mem_range] at hi
    have e : ((c.length : Int) % ((i + 1 : Nat) : Int)) = ((c.length % (i + 1) : Nat) : Int) := (Int.natCast_emod _ _).symm
    by_cases z : c.length % (i + 1) = 0
    · rw [z] at e
      simp at e
      simp [lp_turn_of_1, le_turn_of_1, nD, eq_int, e, z]
    · have z' : ¬ ((c.length : Int) % ((i : Int) + 1) = 0) := by
        have : ((i + 1 : Nat) : Int) = (i : Int) + 1 := by omega
        rw [← this, e]
        omega
      simp [lp_turn_of_1, le_turn_of_1, nD, eq_int, z', z])
  have e2 := lc_filter (t := tName 4) (p := lp_turn_of_2) (f := le_turn_of_2) (vs := [4]) (e := [.val (calD c h), .val (.tup (c.map D.bl)), .val (.tup (h.map chD)), .val (.lst ((((List.range c.length).map (· + 1)).filter fun m => decide (c.length % m = 0)).map nD)), .no, .no, .no, .no, .no]) (enc := nD) (fun m => decide (c = blk c m)) nD (((List.range c.length).map (· + 1)).filter fun m => decide (c.length % m = 0)) (by
      have := List.length_filter_le (fun m => decide (c.length % m = 0)) ((List.range c.length).map (· + 1))
      rw [List.length_map, List.length_range] at this
      omega) (fun m hm => by
    obtain ⟨i, hi, rfl⟩ := List.mem_map.mp (List.mem_filter.mp hm).1
    rw [List.mem_range] at hi
    have ct := cut_take (c.map D.bl) (i + 1) (by rw [List.length_map]; omega)
    have e : ((c.length : Int) / ((i + 1 : Nat) : Int)) = ((c.length / (i + 1) : Nat) : Int) := (Int.natCast_ediv _ _).symm
    have dl : 1 ≤ c.length / (i + 1) := Nat.div_pos (by omega) (by omega)
    have du : c.length / (i + 1) ≤ c.length := Nat.div_le_self _ _
    have mk := v_mulKT ((c.map D.bl).take (i + 1)) (c.length / (i + 1)) [.val (calD c h), .val (.tup (c.map D.bl)), .val (.tup (h.map chD)), .val (.lst ((((List.range c.length).map (· + 1)).filter fun m => decide (c.length % m = 0)).map nD)), .val (nD (i + 1)), .no, .no, .no, .no] (by omega) (by rw [List.length_take, List.length_map]; omega) dl
    rw [← List.map_take, rep_bl] at mk
    have eq := eq_cyc c (blk c (i + 1))
    unfold blk at eq
    rw [← e] at mk
    rw [← List.map_take] at ct
    have z1 : (0 : Int) < (i : Int) + 1 := by omega
    have z2 : (i : Int) + 1 < 1073741824 := by omega
    unfold blk
    simp [-List.map_take, -List.map_flatten, nD] at mk ct
    by_cases w : c = (List.replicate (c.length / (i + 1)) (c.take (i + 1))).flatten
    · rw [decide_eq_true w] at eq ⊢
      simp [-List.map_take, -List.map_flatten, lp_turn_of_2, le_turn_of_2, nD, ct, z1, z2, mk, eq]
    · rw [decide_eq_false w] at eq ⊢
      simp [-List.map_take, -List.map_flatten, lp_turn_of_2, le_turn_of_2, nD, ct, z1, z2, mk, eq])
  have f3 : (((List.range c.length).map (· + 1)).filter fun m => decide (c.length % m = 0)).find? (fun m => decide (c = blk c m)) = some m := by
    rw [List.find?_filter]
    rw [← f2]
    congr 1
    funext a
    simp only [decide_eq_true_eq, Bool.decide_and]
  obtain ⟨r, er⟩ := find_head f3
  have e3 := lc_filter (t := tTupD 2 (tsCons (tName 7) (tsCons (tName 8) (tsNil)))) (p := lp_turn_of_3) (f := le_turn_of_3) (vs := [7, 8]) (e := [.val (calD c h), .val (.tup (c.map D.bl)), .val (.tup (h.map chD)), .val (.lst ((((List.range c.length).map (· + 1)).filter fun m => decide (c.length % m = 0)).map nD)), .no, .val (nD m), .no, .no, .no]) (enc := chD) (fun p => p.2 != pl c p.1) (fun p => nD p.1) h (by omega) (fun q hq => by
    have tp := t_planned c h q.1 hc
    have eb : (q.2 != pl c q.1) = !(q.2 == pl c q.1) := rfl
    cases w : (q.2 == pl c q.1) <;> rw [eb, w] <;> simp [lp_turn_of_3, le_turn_of_3, ec, tp, eq_bl, w, nD])
  have e4 := lc_map (t := tName 7) (p := tYesD) (f := le_turn_of_4) (vs := [7]) (e := [.val (calD c h), .val (.tup (c.map D.bl)), .val (.tup (h.map chD)), .val (.lst ((((List.range c.length).map (· + 1)).filter fun m => decide (c.length % m = 0)).map nD)), .no, .val (nD m), .val (.lst ((odd c h).map fun p => nD p.1)), .no, .no]) (enc := fun p : Nat × Bool => nD p.1) (fun p => nD (p.1 + 1)) (odd c h) (by
      have := List.length_filter_le (fun p => p.2 != pl c p.1) h
      unfold odd
      omega) (fun q hq => by
    simp [le_turn_of_4, nD])
  obtain ⟨ns, i2, mx1, mx2⟩ : ∃ ns, intsOf (((odd c h).map fun p => D.int ((p.1 : Int) + 1)) ++ [D.int 0]) = some ns ∧ ns ≠ [] ∧ ns.foldl max (ns.headD 0) = (fst1 c h : Int) := by
    have i1 := ints_n (((odd c h).map fun p => p.1 + 1) ++ [0])
    rw [List.map_append, List.map_map, List.map_append, List.map_map] at i1
    obtain ⟨a1, a2⟩ := max_first c h g.inc _ rfl
    exact ⟨_, i1, a1, a2⟩
  rw [List.headD_eq_head?_getD] at mx2
  have ol : (odd c h).length ≤ 10 := by
    have := List.length_filter_le (fun p => p.2 != pl c p.1) h
    unfold odd
    omega
  have sl : (odd c h).length + 1 ≤ sizeLine := Nat.le_of_lt (small_line (by omega))
  have sl2 : 2 ≤ sizeLine := Nat.le_of_lt (small_line (by omega))
  have sl1 : 1 ≤ sizeLine := Nat.le_of_lt (small_line (by omega))
  have ro := rangeD_one c.length
  change lcRun _ _ _ _ _ _ _ = .ok ((odd c h).map fun p => nD p.1) _ at e3
  rw [← ro] at e1
  obtain ⟨P, hP⟩ : ∃ P, P = ((List.range c.length).map (· + 1)).filter fun m => decide (c.length % m = 0) := ⟨_, rfl⟩
  rw [← hP] at e1 e2 e3 e4 er
  rw [er] at e2
  simp [nD] at e2 e3 e4
  have en : ((c.length : Int) + 1 - 1).toNat = c.length := by omega
  simp [fn_turn_of, dn_turn_of, t_check_calendar, sl2, en, e1, e2, e3, e4, sl, sl1, i2, mx1, mx2, nD]
end Lw

set_option Elab.async false
set_option linter.all false
set_option maxRecDepth 100000
set_option maxHeartbeats 1000000
namespace Lw
open PySem L2 Y
theorem at_pl (c : List Bool) (s : Nat) (hc : 0 < c.length) : atI (c.map D.bl) ((s : Int) % (c.length : Int)) = some (.bl (pl c s)) := by
  have h2 : (s : Int) % (c.length : Int) = ((s % c.length : Nat) : Int) := by omega
  have h3 : (c.map D.bl)[s % c.length]? = some (.bl (pl c s)) := by
    have := Nat.mod_lt s hc
    unfold pl
    rw [List.getElem?_map, List.getD_eq_getElem?_getD, List.getElem?_eq_getElem this]
    rfl
  rw [h2, atI_ofNat, h3]
theorem l_turn (c : List Bool) (x0 : Slot) (x4 : Slot) (hc : 0 < c.length) (h : List (Nat × Bool)) (s : Nat × Option D × Option D) :
    forRun (tTupD 2 (tsCons (tName 6) (tsCons (tName 7) (tsNil)))) lb__law_turn_1 (h.map chD) [x0, .val (.tup (c.map D.bl)), .val (nD c.length), .val (nD s.1), x4, .no, oS s.2.1, oS s.2.2] =
    .ok .nx ((fun s : Nat × Option D × Option D => [x0, .val (.tup (c.map D.bl)), .val (nD c.length), .val (nD s.1), x4, .no, oS s.2.1, oS s.2.2]) (h.foldl (fun s p => (if p.2 != pl c p.1 then p.1 + 1 else s.1, some (nD p.1), some (.bl p.2))) s)) := by
  refine for_fold (ea := chD) (fun s : Nat × Option D × Option D => [x0, .val (.tup (c.map D.bl)), .val (nD c.length), .val (nD s.1), x4, .no, oS s.2.1, oS s.2.2]) (fun s p => (if p.2 != pl c p.1 then p.1 + 1 else s.1, some (nD p.1), some (.bl p.2))) h s fun s p _ => ?_
  have ap := at_pl c p.1 hc
  have eb : (p.2 != pl c p.1) = !(p.2 == pl c p.1) := rfl
  cases w : (p.2 == pl c p.1) <;> simp [lb__law_turn_1, ec, ap, eq_bl, w, eb, hc, nD]
theorem fold_pair (c : List Bool) : ∀ (h : List (Nat × Bool)) (s : Nat × Option D × Option D), (h.foldl (fun s p => (if p.2 != pl c p.1 then p.1 + 1 else s.1, some (nD p.1), some (.bl p.2))) s).1 = h.foldl (fun f p => if p.2 != pl c p.1 then p.1 + 1 else f) s.1
  | [], s => rfl
  | p :: r, s => by rw [List.foldl_cons, List.foldl_cons, fold_pair c r]
theorem t_law_turn {c h} (g : Cal0 c h) (m : Nat) (f1 : ((List.range c.length).map (· + 1)).find? (fun m => decide (rot c m = c)) = some m) : fn__law_turn [.val (parD c h)] = .ok (.val (.tup [nD (fst1 c h), nD m])) [.val (parD c h)] := by
  have hc : 0 < c.length := g.c1
  have h14 := g.c14
  have h10 := g.n10
  have e1 := lc_filter (t := tName 5) (p := lp__law_turn_1) (f := le__law_turn_1) (vs := [5]) (e := [.val (parD c h), .val (.tup (c.map D.bl)), .val (nD c.length), .val (nD 0), .no, .no, .no, .no]) (enc := nD) (fun m => decide (rot c m = c)) nD ((List.range c.length).map (· + 1)) (by rw [List.length_map, List.length_range]; omega) (fun m hm => by
    obtain ⟨i, hi, rfl⟩ := List.mem_map.mp hm
    rw [List.mem_range] at hi
    have ct := cut_take (c.map D.bl) (i + 1) (by rw [List.length_map]; omega)
    have cd := cut_drop (c.map D.bl) (i + 1) (by rw [List.length_map]; omega)
    rw [← List.map_take] at ct
    rw [← List.map_drop] at cd
    have eq := eq_cyc (rot c (i + 1)) c
    unfold rot at eq ⊢
    rw [List.map_append] at eq
    have sl : c.length - (i + 1) + min (i + 1) c.length ≤ sizeLine := Nat.le_of_lt (small_line (by omega))
    simp [-List.map_take, -List.map_drop, nD] at ct cd
    by_cases w : c.drop (i + 1) ++ c.take (i + 1) = c
    · rw [decide_eq_true w] at eq ⊢
      simp [-List.map_take, -List.map_drop, lp__law_turn_1, le__law_turn_1, nD, ct, cd, sl, eq]
    · rw [decide_eq_false w] at eq ⊢
      simp [-List.map_take, -List.map_drop, lp__law_turn_1, le__law_turn_1, nD, ct, cd, sl, eq])
  obtain ⟨r, er⟩ := find_head f1
  rw [← rangeD_one, er] at e1
  have e2 := l_turn c (.val (parD c h)) (.own false (.lst ((m :: r).map nD))) hc h (0, none, none)
  have ff := fold_first c h 0
  have fp := fold_pair c h (0, none, none)
  rw [ff] at fp
  change _ = fst1 c h at fp
  obtain ⟨w, hw⟩ : ∃ w, w = h.foldl (fun s p => (if p.2 != pl c p.1 then p.1 + 1 else s.1, some (nD p.1), some (.bl p.2))) ((0, none, none) : Nat × Option D × Option D) := ⟨_, rfl⟩
  rw [← hw] at fp e2
  obtain ⟨w1, w2, w3⟩ := w
  simp only at fp
  subst fp
  have sl3 : 3 ≤ sizeLine := Nat.le_of_lt (small_line (by omega))
  have sl2 : 2 ≤ sizeLine := Nat.le_of_lt (small_line (by omega))
  have en : ((c.length : Int) + 1 - 1).toNat = c.length := by omega
  simp [nD] at e1 e2
  simp [fn__law_turn, dn__law_turn, sl3, sl2, en, e1, e2, nD]
theorem t_turn_right {c h} (g : Cal0 c h) (m : Nat) (m0 : 0 < m) (p : Per c m) : fn__law_turn_right [.val (parD c h), .val (.tup [nD (fst1 c h), nD m])] = .ok (.val (.bl true)) [.val (parD c h), .val (.tup [nD (fst1 c h), nD m])] := by
  have hc : 0 < c.length := g.c1
  obtain ⟨s', hs', e⟩ := for_find (t := tName 4) (b := lb__law_turn_right_1) (ea := nD) (fun s => [.val (parD c h), .val (.tup [nD (fst1 c h), nD m]), .val (nD (fst1 c h)), .val (nD m), s]) (fun _ => false) (fun _ => .val (.bl false)) ((List.range 40).map (fst1 c h + ·)) .no rfl (fun s a ha hs => by
    obtain ⟨i, hi, rfl⟩ := List.mem_map.mp ha
    have e1 := t_law_works c h (fst1 c h + i) hc
    have e2 := t_law_works c h (fst1 c h + i + m) hc
    rw [odd_last g.inc _ (by omega)] at e1 e2
    rw [p] at e2
    simp at e1 e2
    simp [lb__law_turn_right_1, hs, e1, e2, eq_bl, nD])
  rw [← rangeD_from] at e
  have fn : ((List.range 40).map (fst1 c h + ·)).find? (fun _ => false) = none := List.find?_eq_none.mpr (by simp)
  rw [fn] at e
  have en : ((fst1 c h : Int) + 40 - (fst1 c h : Int)).toNat = 40 := by omega
  simp [nD] at e
  by_cases z : fst1 c h = 0
  · rw [z] at e en ⊢
    simp at e
    simp [fn__law_turn_right, dn__law_turn_right, en, e, eq_int, nD]
  · have z' : ¬ ((fst1 c h : Int) = 0) := by omega
    have e1 := t_law_works c h (fst1 c h - 1) hc
    have e2 := t_law_works c h (fst1 c h - 1 + m) hc
    rw [odd_last g.inc _ (by omega), p] at e2
    have ne := odd_at g.inc z
    rw [Int.natCast_add] at e2
    rw [show ((fst1 c h - 1 : Nat) : Int) = (fst1 c h : Int) - 1 by omega] at e1 e2
    have nb : (wk c h (fst1 c h - 1) == pl c (fst1 c h - 1)) = false := by simpa using ne
    simp [fn__law_turn_right, dn__law_turn_right, en, e, eq_int, z, e1, e2, eq_bl, nb, nD]
theorem t_is_work {c h} (g : Cal0 c h) (s : Nat) : fn_is_work [.val (calD c h), .val (.int s)] = .ok (.val (.bl (wk c h s))) [.val (calD c h), .val (.int s)] := by
  simp [fn_is_work, dn_is_work, t_check_calendar, t_check_slot, t_works c h s g.c1]
theorem mvd_ok {c h} (g : Cal0 c h) (many : Nat) : Cal0 (rot c (many % c.length)) (mvd h many) := by
  have hc : 0 < c.length := g.c1
  have hm := Nat.mod_lt many hc
  have h14 := g.c14
  have h10 := g.n10
  have rl := rot_len c (many % c.length) (by omega)
  have ml : (mvd h many).length ≤ h.length := by
    unfold mvd
    rw [List.length_map]
    exact List.length_filter_le _ _
  exact ⟨by omega, by omega, rot_true g.tr, by omega, mvd_inc many g.inc⟩
theorem t_moved {c h} (g : Cal0 c h) (many : Nat) : fn_moved [.val (calD c h), .val (nD many)] = .ok (.own (calC (rot c (many % c.length)) (mvd h many))) [.val (calD c h), .val (nD many)] := by
  have hc : 0 < c.length := g.c1
  have hm := Nat.mod_lt many hc
  have h14 := g.c14
  have h10 := g.n10
  have em : (many : Int) % (c.length : Int) = ((many % c.length : Nat) : Int) := by omega
  have e1 := lc_filter (t := tTupD 2 (tsCons (tName 4) (tsCons (tName 5) (tsNil)))) (p := lp_moved_1) (f := le_moved_1) (vs := [4, 5]) (e := [.val (calD c h), .val (nD many), .val (nD (many % c.length)), .no, .no, .no]) (enc := chD) (fun p => decide (many ≤ p.1)) (fun p => chD (p.1 - many, p.2)) h (by omega) (fun p _ => by
    have sl2 : 2 ≤ sizeLine := Nat.le_of_lt (small_line (by omega))
    by_cases z : many ≤ p.1
    · have z' : ((p.1 - many : Nat) : Int) = (p.1 : Int) - (many : Int) := by omega
      simp [lp_moved_1, le_moved_1, ec, z, z', sl2, nD]
    · simp [lp_moved_1, le_moved_1, ec, z, nD])
  have e2 : ((h.filter fun p => decide (many ≤ p.1)).map fun p => chD (p.1 - many, p.2)) = (mvd h many).map chD := by
    unfold mvd
    rw [List.map_map]
    rfl
  rw [e2] at e1
  have ct := cut_take (c.map D.bl) (many % c.length) (by rw [List.length_map]; omega)
  have cd := cut_drop (c.map D.bl) (many % c.length) (by rw [List.length_map]; omega)
  rw [← List.map_take] at ct
  rw [← List.map_drop] at cd
  have sl : c.length - many % c.length + min (many % c.length) c.length ≤ sizeLine := Nat.le_of_lt (small_line (by omega))
  have tc := t_Calendar (mvd_ok g many) false true
  unfold rot at tc
  rw [List.map_append] at tc
  unfold rot
  simp only [nD] at e1
  rw [← em] at ct cd e1
  simp only [sq, if_true, Bool.false_eq_true, if_false] at tc
  have cs := t_check_slot many (.str "many")
  simp [-List.map_take, -List.map_drop, -Int.natCast_emod, fn_moved, dn_moved, t_check_calendar, cs, hc, e1, ct, cd, sl, tc, nD]
end Lw

set_option Elab.async false
set_option linter.all false
set_option maxRecDepth 100000
set_option maxHeartbeats 1000000
namespace Lw
open PySem L2 Y
def FarOk (far : Nat) : Prop := far = 0 ∨ far = 9 ∨ 1000000 ≤ far
theorem t_far (a b c : Int) : ∃ far : Nat, FarOk far ∧ ∃ a' b' c', fn__law_far [.own true (WL a b c)] = .ok (.val (nD far)) [.own true (WL a' b' c')] := by
  let xs : List D := [.int 0, .int 0, .int 9, .int 1000000, .int 1000000000000000005, .int 1000000000000000000000000000000, .int 18446744073709551613]
  obtain ⟨k, hk, a', b', c', e⟩ := t_one a b c xs (by decide) (by decide)
  have hx : ∀ k, k < 7 → ∃ n : Nat, FarOk n ∧ xs.getD k .non = nD n := fun k hk => by
    rcases (show k = 0 ∨ k = 1 ∨ k = 2 ∨ k = 3 ∨ k = 4 ∨ k = 5 ∨ k = 6 by omega) with rfl | rfl | rfl | rfl | rfl | rfl | rfl
    · exact ⟨0, .inl rfl, rfl⟩
    · exact ⟨0, .inl rfl, rfl⟩
    · exact ⟨9, .inr (.inl rfl), rfl⟩
    · exact ⟨1000000, .inr (.inr (by omega)), rfl⟩
    · exact ⟨1000000000000000005, .inr (.inr (by omega)), rfl⟩
    · exact ⟨1000000000000000000000000000000, .inr (.inr (by omega)), rfl⟩
    · exact ⟨18446744073709551613, .inr (.inr (by omega)), rfl⟩
  obtain ⟨n, hf, hn⟩ := hx k hk
  rw [hn] at e
  refine ⟨n, hf, a', b', c', ?_⟩
  have sl7 : 7 ≤ sizeLine := Nat.le_of_lt (small_line (by omega))
  simp [nD, xs] at e
  simp [fn__law_far, dn__law_far, sl7, e, nD]
/-- changes near to small or great slots -/
def Nr (h : List (Nat × Bool)) : Prop := ∀ t ∈ h.map Prod.fst, t < 63 ∨ 1000000 ≤ t
theorem Good.nr {far c h} (g : Good far c h) (f : FarOk far) : Nr h := fun t ht => by
  have h1 := g.top t ht
  have h2 := g.low t ht
  rcases f with z | z | z <;> omega
abbrev pD (q : List Bool × List (Nat × Bool)) : D := parD q.1 q.2
/-- another calendar that is looked at -/
structure Oth (c : List Bool) (h : List (Nat × Bool)) (q : List Bool × List (Nat × Bool)) : Prop where
  ok : Cal0 q.1 q.2
  how : (∀ s, pl c s = pl q.1 s) ∨ (Nr h ∧ Nr q.2)
theorem Oth.law {c h q} (g : Cal0 c h) (o : Oth c h q) : (∀ s, pl c s = pl q.1 s) ∨ ∃ t, t < 420 ∧ dif c h q.1 q.2 t = true := by
  have l1 := g.c1
  have l2 := o.ok.c1
  have hL := lcm_le g.c14 o.ok.c14 l1 l2
  have hL0 : 0 < Nat.lcm c.length q.1.length := Nat.lcm_pos l1 l2
  have d1 : c.length ∣ Nat.lcm c.length q.1.length := Nat.dvd_lcm_left _ _
  have d2 : q.1.length ∣ Nat.lcm c.length q.1.length := Nat.dvd_lcm_right _ _
  rcases o.how with z | ⟨z1, z2⟩
  · exact .inl z
  · rcases Classical.em (∃ s, s < Nat.lcm c.length q.1.length ∧ pl c s ≠ pl q.1 s) with ⟨s0, w1, w2⟩ | w
    · refine .inr (room_between _ hL0 hL d1 d2 s0 w1 w2 fun t ht => ?_)
      unfold chs at ht
      rcases List.mem_append.mp ht with y | y
      · exact z1 t y
      · exact z2 t y
    · refine .inl (pl_all _ hL0 d1 d2 fun s hs => ?_)
      rcases Classical.em (pl c s = pl q.1 s) with y | y
      · exact y
      · exact absurd ⟨s, hs, y⟩ w
/-! the list of the others -/
def lastT (far : Nat) (h : List (Nat × Bool)) : Nat := (h.getLast?.map Prod.fst).getD far
def flip (c : List Bool) (k : Nat) : List Bool := c.take k ++ [!(c.getD k false)] ++ c.drop (k + 1)
def os0 (c : List Bool) (h : List (Nat × Bool)) (q : List Bool × List (Nat × Bool)) (slot k : Nat) : List (List Bool × List (Nat × Bool)) :=
  [(c, h), q, (c ++ c, h), (c, odd c h), (c, h ++ [(slot, pl c slot)]), (c, h ++ [(slot, !pl c slot)]), (flip c k, h)]
def keepO (q : List Bool × List (Nat × Bool)) : Bool := decide (q.1.length < 15) && (decide (q.2.length < 11) && decide (true ∈ q.1))
theorem pl_twice (c : List Bool) (s : Nat) : pl c s = pl (c ++ c) s := by
  unfold pl
  rcases Nat.eq_zero_or_pos c.length with z | z
  · have : c = [] := List.eq_nil_of_length_eq_zero z
    subst this
    rfl
  · have e : (c ++ c).length = c.length * 2 := by rw [List.length_append]; omega
    have h1 := Nat.mod_lt s (show 0 < c.length * 2 by omega)
    have h2 := Nat.mod_mul_left_mod s 2 c.length
    rw [Nat.mul_comm 2] at h2
    rw [e, List.getD_eq_getElem?_getD, List.getD_eq_getElem?_getD, List.getElem?_append]
    by_cases y : s % (c.length * 2) < c.length
    · rw [if_pos y, ← h2, Nat.mod_eq_of_lt y]
    · rw [if_neg y, ← h2, Nat.mod_eq_sub_mod (by omega), Nat.mod_eq_of_lt (by omega)]
theorem os_ok {far c h q slot k} (g : Good far c h) (f : FarOk far) (q0 : Cal0 q.1 q.2) (qn : Nr q.2) (hs : lastT far h < slot) (hk : k < c.length) : ∀ p ∈ (os0 c h q slot k).filter keepO, Oth c h p := by
  intro p hp
  obtain ⟨h1, h2⟩ := List.mem_filter.mp hp
  unfold keepO at h2
  simp only [Bool.and_eq_true, decide_eq_true_eq] at h2
  obtain ⟨k1, k2, k3⟩ := h2
  have inc := g.inc
  have c1 := g.c1
  have nr := g.nr f
  have hx : ∀ y ∈ h.map Prod.fst, y < slot := fun y hy => by
    unfold lastT at hs
    rcases List.eq_nil_or_concat h with z | ⟨pre, l, z⟩
    · rw [z] at hy; cases hy
    · rw [List.concat_eq_append] at z
      rw [z, List.getLast?_append, List.getLast?_singleton] at hs
      simp at hs
      rw [z, List.map_append, List.pairwise_append] at inc
      rw [z, List.map_append] at hy
      rcases List.mem_append.mp hy with w | w
      · have := inc.2.2 y w l.1 (by simp)
        omega
      · simp at w
        omega
  have inc2 : ∀ b, ((h ++ [(slot, b)]).map Prod.fst).Pairwise (· < ·) := fun b => by
    rw [List.map_append, List.pairwise_append]
    refine ⟨inc, by simp, fun y hy z hz => ?_⟩
    simp at hz
    rw [hz]
    exact hx y hy
  unfold os0 at h1
  simp only [List.mem_cons, List.not_mem_nil, or_false] at h1
  rcases h1 with rfl | rfl | rfl | rfl | rfl | rfl | rfl
  · exact ⟨g.toCal0, .inl fun _ => rfl⟩
  · exact ⟨q0, .inr ⟨nr, qn⟩⟩
  · exact ⟨⟨by rw [List.length_append]; omega, by omega, k3, by omega, inc⟩, .inl (pl_twice c)⟩
  · exact ⟨⟨c1, by omega, k3, by omega, odd_inc inc⟩, .inl fun _ => rfl⟩
  · exact ⟨⟨c1, by omega, k3, by omega, inc2 _⟩, .inl fun _ => rfl⟩
  · exact ⟨⟨c1, by omega, k3, by omega, inc2 _⟩, .inl fun _ => rfl⟩
  · refine ⟨⟨?_, by omega, k3, by omega, inc⟩, .inr ⟨nr, nr⟩⟩
    unfold flip
    simp
    omega
theorem ch_ok (p : Nat × Bool) : okD (chD p) = true := by simp [chD, okD, okDs]
theorem ch_dp (p : Nat × Bool) : dpD (chD p) ≤ 1 := by simp [chD, dpD, dpDs]
theorem eq_noch (h : List (Nat × Bool)) : eqD (.tup (h.map chD)) (.tup []) = some (decide (h = [])) := by
  have o := okDs_map ch_ok h
  have d := dpDs_map ch_dp h
  rw [eqD_of (by simp only [okD]; exact o) (by simp [okD, okDs]) (by simp only [dpD]; omega) (by simp [dpD, dpDs])]
  cases h <;> simp [eqd, eqds]
theorem in_cyc (c : List Bool) : inL (.bl true) (.tup (c.map D.bl)) = some (decide (true ∈ c)) := by
  rw [inL_tup (by simp [okD]) (okDs_map bl_ok c) (by simp [dpD]) (by have := dpDs_map bl_dp c; omega), any_map bl_eq]
theorem last_at (l : List D) (x : D) : atI (l ++ [x]) (-1) = some x := by
  unfold atI ixN
  rw [if_neg (by omega), List.length_append, List.length_singleton, if_pos (by omega)]
  rw [Option.bind_some]
  have : ((-1 : Int) + ((l.length + 1 : Nat) : Int)).toNat = l.length := by omega
  rw [this]
  simp
end Lw

set_option Elab.async false
set_option linter.all false
set_option maxRecDepth 100000
set_option maxHeartbeats 1000000
namespace Lw
open PySem L2 Y
theorem t_pick (far : Nat) (a b c : Int) : ∃ n : Nat, (n = 0 ∨ n = far) ∧ ∃ a' b' c', fn__law_one [.own true (WL a b c), .val (.lst [.int 0, .int far])] = .ok (.val (nD n)) [.own true (WL a' b' c'), .val (.lst [.int 0, .int far])] := by
  obtain ⟨k, hk, a', b', c', e⟩ := t_one a b c [.int 0, .int far] (by simp) (by simp)
  simp only [List.length_cons, List.length_nil] at hk
  rcases (show k = 0 ∨ k = 1 by omega) with rfl | rfl
  · exact ⟨0, .inl rfl, a', b', c', e⟩
  · exact ⟨far, .inr rfl, a', b', c', e⟩
theorem t_last (far : Nat) (h : List (Nat × Bool)) (x0 x1 x3 : Slot) (r : List Slot) : eIf (asB (rd2 (eVar 4) (eTup (aNil)) neK)) (rd2 (rd2 (eVar 4) (rd1 (eC (.int 1)) negI) ixK) (eC (.int 0)) ixK) (eVar 2) (x0 :: x1 :: .val (nD far) :: x3 :: .val (.tup (h.map chD)) :: r) = .ok (.val (nD (lastT far h))) (x0 :: x1 :: .val (nD far) :: x3 :: .val (.tup (h.map chD)) :: r) := by
  have z := eq_noch h
  unfold lastT
  rcases List.eq_nil_or_concat h with w | ⟨pre, p, w⟩
  · subst w
    simp at z
    simp [z]
  · rw [List.concat_eq_append] at w
    subst w
    have la := last_at (pre.map chD) (chD p)
    simp at z
    rw [ec] at z la
    simp [z, la, ec]
theorem t_others {far c h} (g : Good far c h) (f : FarOk far) (a b d : Int) : ∃ os : List (List Bool × List (Nat × Bool)), (∀ p ∈ os, Oth c h p) ∧ ∃ a' b' d', fn__law_others [.own true (WL a b d), .val (parD c h), .val (nD far)] = .ok (.own (.lst (os.map pD))) [.own true (WL a' b' d'), .val (parD c h), .val (nD far)] := by
  have hc : 0 < c.length := g.c1
  have h14 := g.c14
  have h10 := g.n10
  obtain ⟨n, hn, a1, b1, d1, e1⟩ := t_pick far a b d
  obtain ⟨c2, h2, g2, a2, b2, d2, e2⟩ := t_parts n a1 b1 d1
  have f2 : FarOk n := by
    rcases hn with z | z
    · exact .inl z
    · rw [z]; exact f
  obtain ⟨k3, hk3, a3, b3, d3, e3⟩ := t_draw a2 b2 d2 300 (by omega) (by omega)
  obtain ⟨k4, hk4, a4, b4, d4, e4⟩ := t_draw a3 b3 d3 (c.length : Int) (by omega) (by omega)
  obtain ⟨slot, hslot⟩ : ∃ slot, slot = lastT far h + 1 + k3 := ⟨_, rfl⟩
  refine ⟨(os0 c h (c2, h2) slot k4).filter keepO, os_ok g f g2.toCal0 (g2.nr f2) (by omega) (by omega), a4, b4, d4, ?_⟩
  have es : (lastT far h : Int) + 1 + (k3 : Int) = (slot : Int) := by omega
  have ap := at_pl c slot hc
  have ak : atI (c.map D.bl) (k4 : Int) = some (.bl (c.getD k4 false)) := by
    rw [atI_ofNat, List.getElem?_map, List.getD_eq_getElem?_getD, List.getElem?_eq_getElem (by omega)]
    rfl
  have ct := cut_take (c.map D.bl) k4 (by rw [List.length_map]; omega)
  have cd := cut_drop (c.map D.bl) (k4 + 1) (by rw [List.length_map]; omega)
  have m2 := fun e : Sl => v_mulKT (c.map D.bl) 2 e (by omega) (by rw [List.length_map]; omega) (by omega)
  have m2' : ∀ e : Sl, mulK (.tup (c.map D.bl)) (.int 2) e = .ok (.val (.tup (c.map D.bl ++ c.map D.bl))) e := fun e => by
    have := m2 e
    simp [List.replicate] at this
    exact this
  have e5 := lc_filter (t := tName 8) (p := lp__law_others_1) (f := le__law_others_1) (vs := [8]) (e := [.own true (WL a2 b2 d2), .val (parD c h), .val (nD far), .val (.tup (c.map D.bl)), .val (.tup (h.map chD)), .val (nD (lastT far h)), .own false (.lst [parD c h, parD c2 h2, .tup [.tup (c.map D.bl ++ c.map D.bl), .tup (h.map chD)]]), .no, .no, .no, .no]) (enc := chD) (fun p => p.2 != pl c p.1) chD h (by omega) (fun p hp => by
    have ap := at_pl c p.1 hc
    have eb : (p.2 != pl c p.1) = !(p.2 == pl c p.1) := rfl
    cases w : (p.2 == pl c p.1) <;> rw [eb, w] <;> simp [lp__law_others_1, le__law_others_1, ec, ap, eq_bl, w, hc])
  have e6 := lc_filter (t := tName 8) (p := lp__law_others_2) (f := le__law_others_2) (vs := [8]) (e := [.own true (WL a4 b4 d4), .val (parD c h), .val (nD far), .val (.tup (c.map D.bl)), .val (.tup (h.map chD)), .val (nD (lastT far h)), .val (.lst ((os0 c h (c2, h2) slot k4).map pD)), .val (.tup ((odd c h).map chD)), .no, .val (nD slot), .val (nD k4)]) (enc := pD) keepO pD (os0 c h (c2, h2) slot k4) (by unfold os0; simp) (fun p hp => by
    have ic := in_cyc p.1
    unfold keepO
    by_cases z1 : p.1.length < 15
    · have y1 : (p.1.length : Int) < 15 := by omega
      by_cases z2 : p.2.length < 11
      · have y2 : (p.2.length : Int) < 11 := by omega
        by_cases z3 : true ∈ p.1
        · rw [decide_eq_true z3] at ic
          simp [lp__law_others_2, le__law_others_2, z1, z2, z3, y1, y2, ic]
        · rw [decide_eq_false z3] at ic
          simp [lp__law_others_2, le__law_others_2, z1, z2, z3, y1, y2, ic]
      · have y2 : ¬ (p.2.length : Int) < 11 := by omega
        simp [lp__law_others_2, le__law_others_2, z1, z2, y1, y2]
    · have y1 : ¬ (p.1.length : Int) < 15 := by omega
      simp [lp__law_others_2, le__law_others_2, z1, y1])
  change lcRun _ _ _ _ _ _ _ = .ok ((odd c h).map chD) _ at e5
  have tl := t_last far h (.own true (WL a b d)) (.val (parD c h)) (.val (.tup (c.map D.bl))) [.no, .no, .no, .no, .no, .no]
  have sl2 : 2 ≤ sizeLine := Nat.le_of_lt (small_line (by omega))
  have sl3 : 3 ≤ sizeLine := Nat.le_of_lt (small_line (by omega))
  have sl1 : 1 ≤ sizeLine := Nat.le_of_lt (small_line (by omega))
  have q3 : 3 < sizeLine := small_line (by omega)
  have q4 : 4 < sizeLine := small_line (by omega)
  have q5 : 5 < sizeLine := small_line (by omega)
  have q6 : 6 < sizeLine := small_line (by omega)
  have slh : h.length + 1 ≤ sizeLine := Nat.le_of_lt (small_line (by omega))
  have slc : min k4 c.length + 1 ≤ sizeLine := Nat.le_of_lt (small_line (by omega))
  have sld : min k4 c.length + 1 + (c.length - (k4 + 1)) ≤ sizeLine := Nat.le_of_lt (small_line (by omega))
  simp [nD] at e1 e2 e5 ct cd tl
  simp only [nD] at e6
  have hL : [parD c h, parD c2 h2, D.tup [D.tup (List.map D.bl c ++ List.map D.bl c), D.tup (List.map chD h)],
                    D.tup [D.tup (List.map D.bl c), D.tup (List.map chD (odd c h))],
                    D.tup [D.tup (List.map D.bl c), D.tup (List.map chD h ++ [D.tup [D.int ↑slot, D.bl (pl c slot)]])],
                    D.tup [D.tup (List.map D.bl c), D.tup (List.map chD h ++ [D.tup [D.int ↑slot, D.bl !pl c slot]])],
                    D.tup
                      [D.tup
                          (List.take k4 (List.map D.bl c) ++
                            (D.bl !c[k4]?.getD false) :: List.drop (k4 + 1) (List.map D.bl c)),
                        D.tup (List.map chD h)]] = (os0 c h (c2, h2) slot k4).map pD := by
    simp [os0, flip, ec]
  simp [fn__law_others, dn__law_others, tl, e1, e2, m2', e5, e3, es, ap, hc, ak, e4, ct, cd, sl1, sl2, sl3, q3, q4, q5, q6, slh, slc, sld, nD]
  rw [hL, e6]
  simp
end Lw

set_option Elab.async false
set_option linter.all false
set_option maxRecDepth 100000
set_option maxHeartbeats 1000000
namespace Lw
open PySem L2 Y
def SlO (e : Sl) (w x1 x2 x3 x7 x8 x9 : Slot) : Prop := ∃ o4 o5 o6 : Option D, e = [w, x1, x2, x3, oS o4, oS o5, oS o6, x7, x8, x9]
theorem l_oth {c h} (g : Cal0 c h) (w x1 : Slot) (x7 x8 x9 : Slot) (os : List (List Bool × List (Nat × Bool))) (ho : ∀ p ∈ os, Oth c h p) (e : Sl) (he : SlO e w x1 (.val (parD c h)) (.val (calD c h)) x7 x8 x9) :
    wp (forRun (tName 4) lb__law_right_1 (os.map pD) e) (fun fl e' => fl = .nx ∧ SlO e' w x1 (.val (parD c h)) (.val (calD c h)) x7 x8 x9) := by
  refine wp_for (fun ds e => ∃ qs : List (List Bool × List (Nat × Bool)), ds = qs.map pD ∧ (∀ p ∈ qs, Oth c h p) ∧ SlO e w x1 (.val (parD c h)) (.val (calD c h)) x7 x8 x9) ?_ ?_ (os.map pD) e ⟨os, rfl, ho, he⟩
  · rintro d ds e ⟨qs, eq, hq, o4, o5, o6, rfl⟩
    cases qs with
    | nil => cases eq
    | cons q qs =>
      rw [List.map_cons] at eq
      cases eq
      have o := hq q List.mem_cons_self
      obtain ⟨r1, f1, e1⟩ := t_first g o.ok
      obtain ⟨r2, f2, e2⟩ := t_first o.ok g
      obtain ⟨r3, f3, e3⟩ := t_dif g o.ok (o.law g)
      have q1 : r1 = r3 := f1.uniq f3
      have q2 : r2 = r3 := by
        refine FirstOf.uniq (P := dif c h q.1 q.2) ?_ f3
        have : dif q.1 q.2 c h = dif c h q.1 q.2 := by funext s; exact dif_comm _ _ _ _ s
        rw [this] at f2
        exact f2
      subst q1 q2
      have eo := eq_oD r2 r2
      have tc := t_Calendar o.ok false false
      simp only [sq, Bool.false_eq_true, if_false] at tc
      have cc : (Cont.ins "Calendar" [("cycle", .tup (q.1.map D.bl)), ("changes", .tup (q.2.map chD))]).dat = calD q.1 q.2 := rfl
      simp at eo
      have st : (noEx (tName 4 (pD q) [w, x1, .val (parD c h), .val (calD c h), oS o4, oS o5, oS o6, x7, x8, x9])).bnd (runB lb__law_right_1) = .ok .nx [w, x1, .val (parD c h), .val (calD c h), oS (some (pD q)), oS (some (calD q.1 q.2)), oS (some (oD r2)), x7, x8, x9] := by
        simp [-v_cins, lb__law_right_1, tc, cc, e1, e2, e3, eo]
      rw [st]
      exact ⟨qs, rfl, fun p hp => hq p (List.mem_cons_of_mem _ hp), some (pD q), some (calD q.1 q.2), some (oD r2), rfl⟩
  · rintro e ⟨qs, eq, hq, he⟩
    exact ⟨rfl, he⟩
/-- a calendar moved, slot by slot -/
theorem l_slots {c h} (g : Cal0 c h) (many : Nat) (x0 x1 x3 x4 x5 x6 : Slot) (ns : List Nat) (s8 s9 : Slot) (h8 : Sd (calC (rot c (many % c.length)) (mvd h many)) s8) (h9 : stoS (some s9) = true) :
    wp (forRun (tName 9) lb__law_right_2 (ns.map nD) [x0, x1, .val (parD c h), x3, x4, x5, x6, .val (nD many), s8, s9]) (fun fl e => fl = .nx ∧ ∃ s8 s9, Sd (calC (rot c (many % c.length)) (mvd h many)) s8 ∧ stoS (some s9) = true ∧ e = [x0, x1, .val (parD c h), x3, x4, x5, x6, .val (nD many), s8, s9]) := by
  have hc : 0 < c.length := g.c1
  refine wp_for (fun ds e => (∃ ns : List Nat, ds = ns.map nD) ∧ ∃ s8 s9, Sd (calC (rot c (many % c.length)) (mvd h many)) s8 ∧ stoS (some s9) = true ∧ e = [x0, x1, .val (parD c h), x3, x4, x5, x6, .val (nD many), s8, s9]) ?_ ?_ _ _ ⟨⟨ns, rfl⟩, s8, s9, h8, h9, rfl⟩
  · rintro d ds e ⟨⟨ns, eq⟩, s8, s9, h8, h9, rfl⟩
    cases ns with
    | nil => cases eq
    | cons n ns =>
      rw [List.map_cons] at eq
      cases eq
      have e1 := t_is_work (mvd_ok g many) n
      have e2 := t_law_works c h (n + many) hc
      rw [mvd_wk c h many n hc] at e1
      have cc : (calC (rot c (many % c.length)) (mvd h many)).dat = calD (rot c (many % c.length)) (mvd h many) := rfl
      simp at e2
      have st : (noEx (tName 9 (nD n) [x0, x1, .val (parD c h), x3, x4, x5, x6, .val (nD many), s8, s9])).bnd (runB lb__law_right_2) = .ok .nx [x0, x1, .val (parD c h), x3, x4, x5, x6, .val (nD many), .val (calD (rot c (many % c.length)) (mvd h many)), .val (nD n)] := by
        rcases h8 with rfl | rfl <;> simp [-v_cins, cc, lb__law_right_2, h9, e1, e2, eq_bl, nD]
      rw [st]
      exact ⟨⟨ns, rfl⟩, _, _, .inr rfl, rfl, rfl⟩
  · rintro e ⟨_, he⟩
    exact ⟨rfl, he⟩
theorem l_many {c h} (g : Cal0 c h) (x0 x1 x4 x5 x6 : Slot) (ns : List Nat) (s7 s8 s9 : Slot) (h7 : stoS (some s7) = true) (h8 : stoS (some s8) = true) (h9 : stoS (some s9) = true) :
    wp (forRun (tName 7) lb__law_right_3 (ns.map nD) [x0, x1, .val (parD c h), .val (calD c h), x4, x5, x6, s7, s8, s9]) (fun fl e => fl = .nx ∧ ∃ s7 s8 s9, stoS (some s7) = true ∧ stoS (some s8) = true ∧ stoS (some s9) = true ∧ e = [x0, x1, .val (parD c h), .val (calD c h), x4, x5, x6, s7, s8, s9]) := by
  refine wp_for (fun ds e => (∃ ns : List Nat, ds = ns.map nD) ∧ ∃ s7 s8 s9, stoS (some s7) = true ∧ stoS (some s8) = true ∧ stoS (some s9) = true ∧ e = [x0, x1, .val (parD c h), .val (calD c h), x4, x5, x6, s7, s8, s9]) ?_ ?_ _ _ ⟨⟨ns, rfl⟩, s7, s8, s9, h7, h8, h9, rfl⟩
  · rintro d ds e ⟨⟨ns, eq⟩, s7, s8, s9, h7, h8, h9, rfl⟩
    cases ns with
    | nil => cases eq
    | cons n ns =>
      rw [List.map_cons] at eq
      cases eq
      have tm := t_moved g n
      obtain ⟨fl, e', e1, rfl, t8, t9, k8, k9, rfl⟩ := wp_get (l_slots g n x0 x1 (.val (calD c h)) x4 x5 x6 (List.range 45) (.own false (calC (rot c (n % c.length)) (mvd h n))) s9 (.inl rfl) h9)
      rw [← rangeD_nat] at e1
      have st : (noEx (tName 7 (nD n) [x0, x1, .val (parD c h), .val (calD c h), x4, x5, x6, s7, s8, s9])).bnd (runB lb__law_right_3) = .ok .nx [x0, x1, .val (parD c h), .val (calD c h), x4, x5, x6, .val (nD n), t8, t9] := by
        simp [nD] at e1 tm
        simp [h7, h8, lb__law_right_3, tm, e1, nD]
      rw [st]
      refine ⟨⟨ns, rfl⟩, _, t8, t9, rfl, ?_, k9, rfl⟩
      rcases k8 with rfl | rfl <;> rfl
  · rintro e ⟨_, he⟩
    exact ⟨rfl, he⟩
theorem t_right (a b d : Int) : ∃ a' b' d', fn__law_right [.own true (WL a b d)] = .ok (.val (.bl true)) [.own true (WL a' b' d')] := by
  obtain ⟨far, f, a0, b0, d0, e0⟩ := t_far a b d
  obtain ⟨c, h, g, a1, b1, d1, e1⟩ := t_parts far a0 b0 d0
  obtain ⟨a2, b2, d2, e2⟩ := t_calendar g a1 b1 d1
  obtain ⟨m, m0, p, e3, f1⟩ := t_turn_of g.toCal0
  have e4 := t_law_turn g.toCal0 m f1
  have e5 := t_turn_right g.toCal0 m m0 p
  obtain ⟨os, ho, a3, b3, d3, e6⟩ := t_others g f a2 b2 d2
  obtain ⟨fl, e', e7, rfl, o4, o5, o6, rfl⟩ := wp_get (l_oth g.toCal0 (.own true (WL a3 b3 d3)) (.val (nD far)) .no .no .no os ho [.own true (WL a3 b3 d3), .val (nD far), .val (parD c h), .val (calD c h), .no, .no, .no, .no, .no, .no] ⟨none, none, none, rfl⟩)
  obtain ⟨k1, hk1, a4, b4, d4, e8⟩ := t_draw a3 b3 d3 40 (by omega) (by omega)
  obtain ⟨k2, hk2, a5, b5, d5, e9⟩ := t_draw a4 b4 d4 20 (by omega) (by omega)
  obtain ⟨fl, e', e10, rfl, t7, t8, t9, k7, k8, k9, rfl⟩ := wp_get (l_many g.toCal0 (.own true (WL a5 b5 d5)) (.val (nD far)) (oS o4) (oS o5) (oS o6) [0, 1, far + k1, 1000000000000000000000000000000000 + k2] .no .no .no rfl rfl rfl)
  refine ⟨a5, b5, d5, ?_⟩
  have e11 := t_moved g.toCal0 0
  rw [Nat.zero_mod, rot_zero, mvd_zero] at e11
  have eq := o_eqI c c h h
  have et := eq_two (fst1 c h) m (fst1 c h) m
  have cc : (calC c h).dat = calD c h := rfl
  have sl4 : 4 ≤ sizeLine := Nat.le_of_lt (small_line (by omega))
  simp [nD] at e0 e3 e4 e5 e6 e7 e10 e11 eq et
  simp [-v_cins, fn__law_right, dn__law_right, e0, e1, e2, cc, e3, e4, e5, et, e6, e7, e8, e9, sl4, e10, e11, eq, nD]
theorem l_law (x : D) : ∀ (ns : List Int) (s1 s2 : Slot), stoS (some s1) = true → stoS (some s2) = true → ∃ s1' s2',
    forRun (tName 1) lb_law_1 (ns.map D.int) [.val x, s1, s2] = .ok .nx [.val x, s1', s2']
  | [], s1, s2, _, _ => ⟨s1, s2, v_forN _ _ _⟩
  | n :: r, s1, s2, h1, h2 => by
    obtain ⟨a, b, c, hw⟩ := t_well n
    obtain ⟨a1, b1, c1, hr⟩ := t_right a b c
    obtain ⟨s1', s2', e⟩ := l_law x r (.val (.int n)) (.own false (WL a1 b1 c1)) rfl rfl
    refine ⟨s1', s2', ?_⟩
    rw [List.map_cons, v_forC, ← e]
    simp [lb_law_1, h1, h2, hw, hr]
theorem law_true : ∀ ns : List Int, ns.length ≤ 63 → ∃ e, fn_law [.val (.lst (ns.map D.int))] = .ok (.val (.bl true)) e := by
  intro ns hn
  obtain ⟨s1', s2', e⟩ := l_law (.lst (ns.map D.int)) (ns.take 4 ++ [0]) .no .no rfl rfl
  have ct := cut_four ns
  have sl : (min 4 ns.length) + 1 ≤ sizeLine := Nat.le_of_lt (small_line (by omega))
  have sl1 : 1 ≤ sizeLine := Nat.le_of_lt (small_line (by omega))
  rw [List.map_append] at e
  change forRun _ _ (_ ++ [D.int 0]) _ = _ at e
  refine ⟨[.val (.lst (ns.map D.int))], ?_⟩
  simp [-List.map_take, fn_law, dn_law, ct, sl, sl1, e]
end Lw

set_option Elab.async false
set_option linter.all false
set_option maxRecDepth 100000
set_option maxHeartbeats 4000000
namespace Lw
open PySem PySem.Spec L2 Y
set_option autoImplicit false
theorem init_Calendar {K : PySem.W.Frag} {h : Heap} {mg : Mg} {C f D T : Addr} {oc dc pm cd ct : Value} {od an : Option Addr} {sl : Array (Option Value)} (X : K.In h) (G : h.Ns mainGlobals mg) (a : PySem.W.nsIn K mainGlobals "Calendar" = some (some (.ref C)))
    (mk : PySem.W.makesIn K C = true) (ini : PySem.W.findIn K (.ref C) "__init__" = some (some (.ref f))) (fn : PySem.W.isFn K (.ref f) = true) (kp : PySem.W.keepIn K (.ref C) = true)
    (l : K.lookup f = some ⟨oc, od, .func (PySem.W.fnOf "__init__" "Calendar.__init__" (defArgs s_Calendar) (defBody s_Calendar) (defScope s_Calendar) .none (.ref D) dc pm an cd ct), sl⟩) (c : PySem.W.codeIn K cd "Calendar.__init__" = true) (k : PySem.W.keepIn K (.ref f) = true)
    (d0 : PySem.W.nsIn K D "changes" = some (some (.ref T))) {tn : Nat} {td : Option Addr} {ts : Array (Option Value)} (t0 : K.lookup T = some ⟨.type "tuple", td, .seq #[] tn, ts⟩) :
    ∃ C f fd, mg "Calendar" = some (.ref C) ∧ Mk K C f ∧ (∃ kws, FunD K "__init__" "Calendar.__init__" (defArgs s_Calendar) (defBody s_Calendar) (defScope s_Calendar) [] kws f fd) ∧ FormOk K mg fd ["self", "cycle", "changes"] 1 ["changes"] (fun a b => a ++ b) ∧ FormOk K mg fd ["self", "cycle", "changes"] 0 ["changes", "cycle"] (fun _ b => swap2 b) ∧ FormOk K mg fd ["self", "cycle", "changes"] 1 [] (fun a _ => a ++ [.tup []]) := by
  have F := init_mk (st := s_Calendar) (kws := [(("changes" : Str), V.ref T)]) l c k (fun q hq => by
    have e : q = (("changes" : Str), V.ref T) := by simpa using hq
    subst e
    exact ⟨_, d0, rfl⟩)
  refine ⟨C, f, _, PySem.W.mg_of X G a, ⟨mk, ini, fn, kp⟩, ⟨_, F⟩, ?_, ?_, ?_⟩
  · obtain ⟨mv, kb⟩ := F.kbinds0 (ps := ["self", "cycle", "changes"]) 2 ["changes"] [] (fun us _ ws => us ++ ws) (by simp) (fun q hq => by cases hq) (fun r1 _ r2 => r1.append r2) (fun D doc pm an cdv ct us mv ws l1 l2 l3 => match us, mv, ws, l1, l2, l3 with
      | [_, _], [], [_], _, _, _ => rfl)
    exact ⟨_, _, kb, fun F v vs zs ds dk r1 r2 _ _ => ⟨vs ++ zs, rfl, r1.append r2⟩⟩
  · obtain ⟨mv, kb⟩ := F.kbinds0 (ps := ["self", "cycle", "changes"]) 1 ["changes", "cycle"] [] (fun us _ ws => us ++ swap2 ws) (by simp) (fun q hq => by cases hq) (fun r1 _ r2 => r1.append (vals_swap2 r2)) (fun D doc pm an cdv ct us mv ws l1 l2 l3 => match us, mv, ws, l1, l2, l3 with
      | [_], [], [_, _], _, _, _ => rfl)
    refine ⟨_, _, kb, fun F v vs zs ds dk r1 r2 h1 h2 => ?_⟩
    cases r1 with
    | cons _ _ => cases h1
    | nil =>
      refine ⟨swap2 zs, rfl, ?_⟩
      cases r2 with
      | nil => cases h2
      | cons p r2 => cases r2 with
        | nil => cases h2
        | cons q r2 => cases r2 with
          | nil => exact .cons q (.cons p .nil)
          | cons _ _ => cases h2
  · obtain ⟨mv, kb⟩ := F.kbinds0 (ps := ["self", "cycle", "changes"]) 2 [] [(("changes" : Str), V.ref T)] (fun us ms _ => us ++ ms) (by simp) (fun q hq => hq) (fun r1 r2 _ => r1.append r2) (fun D doc pm an cdv ct us mv ws l1 l2 l3 => match us, mv, ws, l1, l2, l3 with
      | [_, _], [_], [], _, _, _ => ⟨_, _, _, _, _, _, rfl, rfl, rfl⟩)
    exact ⟨_, _, kb, fun F v vs zs ds dk r1 r2 _ _ => ⟨vs ++ [.ref T], rfl, r1.append (.cons (.tup (.inr ⟨_, _, _, t0, rfl, rfl, by simp, .nil⟩) .nil) .nil)⟩⟩
section
variable {P : Program} {w : World} {K : PySem.W.Frag} {mg : Mg}
theorem all_ok (T : Txt K mg) : CallOk P w K mg "law" 9 ["_law_script"] fn_law := by
  have C_is_int := ok_is_int (P := P) (w := w) T
  have C_divisor_of := ok_divisor_of (P := P) (w := w) T
  have C_is_slot := ok_is_slot (P := P) (w := w) T C_is_int
  have C_check_cycle := ok_check_cycle (P := P) (w := w) T
  have C_is_change := ok_is_change (P := P) (w := w) T C_is_slot
  have C_check_changes := ok_check_changes (P := P) (w := w) T C_is_change
  have C_Calendar_0 := ok_Calendar_0 (P := P) (w := w) T C_check_changes C_check_cycle
  have C_Calendar_1 := ok_Calendar_1 (P := P) (w := w) T C_check_changes C_check_cycle
  have C_Calendar_2 := ok_Calendar_2 (P := P) (w := w) T C_check_changes C_check_cycle
  have Q_Calendar := ok_Calendar_eq (P := P) (w := w) T
  have C_check_calendar := ok_check_calendar (P := P) (w := w) T
  have C_check_slot := ok_check_slot (P := P) (w := w) T C_is_slot
  have C_planned := ok_planned (P := P) (w := w) T
  have C_works := ok_works (P := P) (w := w) T C_planned
  have C_is_work := ok_is_work (P := P) (w := w) T C_check_calendar C_check_slot C_works
  have C_first_difference := ok_first_difference (P := P) (w := w) T C_check_calendar C_divisor_of C_planned C_works
  have C_turn_of := ok_turn_of (P := P) (w := w) T C_check_calendar C_planned
  have C_moved := ok_moved (P := P) (w := w) T C_check_calendar C_check_slot C_Calendar_0
  have C__law_well := ok__law_well (P := P) (w := w) T
  have C__law_draw := ok__law_draw (P := P) (w := w) T
  have C__law_one := ok__law_one (P := P) (w := w) T C__law_draw
  have C__law_parts := ok__law_parts (P := P) (w := w) T C__law_draw
  have C__law_works := ok__law_works (P := P) (w := w) T
  have C__law_calendar := ok__law_calendar (P := P) (w := w) T C__law_one C_Calendar_0
  have C__law_far := ok__law_far (P := P) (w := w) T C__law_one
  have C__law_others := ok__law_others (P := P) (w := w) T C__law_draw C__law_one C__law_parts
  have C__law_difference := ok__law_difference (P := P) (w := w) T C__law_works
  have C__law_turn := ok__law_turn (P := P) (w := w) T
  have C__law_turn_right := ok__law_turn_right (P := P) (w := w) T C__law_works
  have C__law_right := ok__law_right (P := P) (w := w) T C__law_calendar C__law_difference C__law_draw C__law_far C__law_others C__law_parts C__law_turn C__law_turn_right C__law_works C_Calendar_0 Q_Calendar C_first_difference C_is_work C_moved C_turn_of
  have C_law := ok_law (P := P) (w := w) T C__law_right C__law_well
  exact C_law
theorem finish_all {l : PySem.W.OpenLaw} {fa : Addr} {h : Heap} (_X : K.In h) (_G : h.Ns mainGlobals mg) (hfa : mg "law" = some (.ref fa)) (T : Txt K mg) : ∃ fd : FuncData, (∀ (s : Shared) (u : Value), BindsTo s fd ⟨[u], []⟩ [("_law_script", u)]) ∧ ∀ base : Heap, K.In base → base.Ns mainGlobals mg → FnOk l.prog w K mg base (L2.CX l.prog w) 9 fa fd ["_law_script"] (spTrue K) :=
  law_end (all_ok (P := l.prog) (w := w) T) hfa law_true
end
end Lw
open PySem PySem.W PyProof.Rows
set_option maxHeartbeats 0 in
theorem PySem.Challenge.cw_crewlags_k60_whole_calendars_that_never_holds : PySem.Challenge.rw_crewlags_k60_whole_calendars_that_never.Holds := by
  w_on; o_law; k_head; (case hw => w_witness2)
  k_fill
  refine Y.walk_law (l := PySem.Challenge.rw_crewlags_k60_whole_calendars_that_never) (k := 9) (x := "_law_script") rfl rfl ⟨rfl, by decide, by decide⟩ (fun w h Y => PySem.W.kIn_of Y) ?F
  case F =>
    intro w mg fa h KX G hmg
    refine' Lw.finish_all KX G hmg ?T
    constructor
    case d_is_int =>
      refine' Y.defAt_mk KX G ?a11 ?l11 ?c11 ?k11 (fun _ _ _ _ _ _ us hl => match us, hl with | [_], _ => rfl)
      (case a11 => k_is); (case l11 => k_is); (case c11 => k_is); (case k11 => k_is)
    case d_divisor_of =>
      refine' Y.defAt_mk KX G ?a14 ?l14 ?c14 ?k14 (fun _ _ _ _ _ _ us hl => match us, hl with | [_, _], _ => rfl)
      (case a14 => k_is); (case l14 => k_is); (case c14 => k_is); (case k14 => k_is)
    case d_is_slot =>
      refine' Y.defAt_mk KX G ?a17 ?l17 ?c17 ?k17 (fun _ _ _ _ _ _ us hl => match us, hl with | [_], _ => rfl)
      (case a17 => k_is); (case l17 => k_is); (case c17 => k_is); (case k17 => k_is)
    case d_check_cycle =>
      refine' Y.defAt_mk KX G ?a20 ?l20 ?c20 ?k20 (fun _ _ _ _ _ _ us hl => match us, hl with | [_], _ => rfl)
      (case a20 => k_is); (case l20 => k_is); (case c20 => k_is); (case k20 => k_is)
    case d_is_change =>
      refine' Y.defAt_mk KX G ?a23 ?l23 ?c23 ?k23 (fun _ _ _ _ _ _ us hl => match us, hl with | [_], _ => rfl)
      (case a23 => k_is); (case l23 => k_is); (case c23 => k_is); (case k23 => k_is)
    case d_check_changes =>
      refine' Y.defAt_mk KX G ?a26 ?l26 ?c26 ?k26 (fun _ _ _ _ _ _ us hl => match us, hl with | [_], _ => rfl)
      (case a26 => k_is); (case l26 => k_is); (case c26 => k_is); (case k26 => k_is)
    case d_check_calendar =>
      refine' Y.defAt_mk KX G ?a29 ?l29 ?c29 ?k29 (fun _ _ _ _ _ _ us hl => match us, hl with | [_, _], _ => rfl)
      (case a29 => k_is); (case l29 => k_is); (case c29 => k_is); (case k29 => k_is)
    case d_check_slot =>
      refine' Y.defAt_mk KX G ?a32 ?l32 ?c32 ?k32 (fun _ _ _ _ _ _ us hl => match us, hl with | [_, _], _ => rfl)
      (case a32 => k_is); (case l32 => k_is); (case c32 => k_is); (case k32 => k_is)
    case d_planned =>
      refine' Y.defAt_mk KX G ?a35 ?l35 ?c35 ?k35 (fun _ _ _ _ _ _ us hl => match us, hl with | [_, _], _ => rfl)
      (case a35 => k_is); (case l35 => k_is); (case c35 => k_is); (case k35 => k_is)
    case d_works =>
      refine' Y.defAt_mk KX G ?a38 ?l38 ?c38 ?k38 (fun _ _ _ _ _ _ us hl => match us, hl with | [_, _], _ => rfl)
      (case a38 => k_is); (case l38 => k_is); (case c38 => k_is); (case k38 => k_is)
    case d_is_work =>
      refine' Y.defAt_mk KX G ?a41 ?l41 ?c41 ?k41 (fun _ _ _ _ _ _ us hl => match us, hl with | [_, _], _ => rfl)
      (case a41 => k_is); (case l41 => k_is); (case c41 => k_is); (case k41 => k_is)
    case d_first_difference =>
      refine' Y.defAt_mk KX G ?a44 ?l44 ?c44 ?k44 (fun _ _ _ _ _ _ us hl => match us, hl with | [_, _], _ => rfl)
      (case a44 => k_is); (case l44 => k_is); (case c44 => k_is); (case k44 => k_is)
    case d_turn_of =>
      refine' Y.defAt_mk KX G ?a47 ?l47 ?c47 ?k47 (fun _ _ _ _ _ _ us hl => match us, hl with | [_], _ => rfl)
      (case a47 => k_is); (case l47 => k_is); (case c47 => k_is); (case k47 => k_is)
    case d_moved =>
      refine' Y.defAt_mk KX G ?a50 ?l50 ?c50 ?k50 (fun _ _ _ _ _ _ us hl => match us, hl with | [_, _], _ => rfl)
      (case a50 => k_is); (case l50 => k_is); (case c50 => k_is); (case k50 => k_is)
    case d__law_well =>
      refine' Y.defAt_mk KX G ?a53 ?l53 ?c53 ?k53 (fun _ _ _ _ _ _ us hl => match us, hl with | [_], _ => rfl)
      (case a53 => k_is); (case l53 => k_is); (case c53 => k_is); (case k53 => k_is)
    case d__law_draw =>
      refine' Y.defAt_mk KX G ?a56 ?l56 ?c56 ?k56 (fun _ _ _ _ _ _ us hl => match us, hl with | [_, _], _ => rfl)
      (case a56 => k_is); (case l56 => k_is); (case c56 => k_is); (case k56 => k_is)
    case d__law_one =>
      refine' Y.defAt_mk KX G ?a59 ?l59 ?c59 ?k59 (fun _ _ _ _ _ _ us hl => match us, hl with | [_, _], _ => rfl)
      (case a59 => k_is); (case l59 => k_is); (case c59 => k_is); (case k59 => k_is)
    case d__law_parts =>
      refine' Y.defAt_mk KX G ?a62 ?l62 ?c62 ?k62 (fun _ _ _ _ _ _ us hl => match us, hl with | [_, _], _ => rfl)
      (case a62 => k_is); (case l62 => k_is); (case c62 => k_is); (case k62 => k_is)
    case d__law_works =>
      refine' Y.defAt_mk KX G ?a65 ?l65 ?c65 ?k65 (fun _ _ _ _ _ _ us hl => match us, hl with | [_, _], _ => rfl)
      (case a65 => k_is); (case l65 => k_is); (case c65 => k_is); (case k65 => k_is)
    case d__law_calendar =>
      refine' Y.defAt_mk KX G ?a68 ?l68 ?c68 ?k68 (fun _ _ _ _ _ _ us hl => match us, hl with | [_, _], _ => rfl)
      (case a68 => k_is); (case l68 => k_is); (case c68 => k_is); (case k68 => k_is)
    case d__law_far =>
      refine' Y.defAt_mk KX G ?a71 ?l71 ?c71 ?k71 (fun _ _ _ _ _ _ us hl => match us, hl with | [_], _ => rfl)
      (case a71 => k_is); (case l71 => k_is); (case c71 => k_is); (case k71 => k_is)
    case d__law_others =>
      refine' Y.defAt_mk KX G ?a74 ?l74 ?c74 ?k74 (fun _ _ _ _ _ _ us hl => match us, hl with | [_, _, _], _ => rfl)
      (case a74 => k_is); (case l74 => k_is); (case c74 => k_is); (case k74 => k_is)
    case d__law_difference =>
      refine' Y.defAt_mk KX G ?a77 ?l77 ?c77 ?k77 (fun _ _ _ _ _ _ us hl => match us, hl with | [_, _], _ => rfl)
      (case a77 => k_is); (case l77 => k_is); (case c77 => k_is); (case k77 => k_is)
    case d__law_turn =>
      refine' Y.defAt_mk KX G ?a80 ?l80 ?c80 ?k80 (fun _ _ _ _ _ _ us hl => match us, hl with | [_], _ => rfl)
      (case a80 => k_is); (case l80 => k_is); (case c80 => k_is); (case k80 => k_is)
    case d__law_turn_right =>
      refine' Y.defAt_mk KX G ?a83 ?l83 ?c83 ?k83 (fun _ _ _ _ _ _ us hl => match us, hl with | [_, _], _ => rfl)
      (case a83 => k_is); (case l83 => k_is); (case c83 => k_is); (case k83 => k_is)
    case d__law_right =>
      refine' Y.defAt_mk KX G ?a86 ?l86 ?c86 ?k86 (fun _ _ _ _ _ _ us hl => match us, hl with | [_], _ => rfl)
      (case a86 => k_is); (case l86 => k_is); (case c86 => k_is); (case k86 => k_is)
    case d_law =>
      refine' Y.defAt_mk KX G ?a89 ?l89 ?c89 ?k89 (fun _ _ _ _ _ _ us hl => match us, hl with | [_], _ => rfl)
      (case a89 => k_is); (case l89 => k_is); (case c89 => k_is); (case k89 => k_is)
    case b_abs => refine' PySem.W.mg_none_of KX G ?z91; (case z91 => k_is)
    case b_any => refine' PySem.W.mg_none_of KX G ?z92; (case z92 => k_is)
    case b_bool => refine' PySem.W.mg_none_of KX G ?z93; (case z93 => k_is)
    case b_enumerate => refine' PySem.W.mg_none_of KX G ?z94; (case z94 => k_is)
    case b_int => refine' PySem.W.mg_none_of KX G ?z95; (case z95 => k_is)
    case b_isinstance => refine' PySem.W.mg_none_of KX G ?z96; (case z96 => k_is)
    case b_len => refine' PySem.W.mg_none_of KX G ?z97; (case z97 => k_is)
    case b_list => refine' PySem.W.mg_none_of KX G ?z98; (case z98 => k_is)
    case b_max => refine' PySem.W.mg_none_of KX G ?z99; (case z99 => k_is)
    case b_range => refine' PySem.W.mg_none_of KX G ?z100; (case z100 => k_is)
    case b_sorted => refine' PySem.W.mg_none_of KX G ?z101; (case z101 => k_is)
    case b_tuple => refine' PySem.W.mg_none_of KX G ?z102; (case z102 => k_is)
    case g_MAX_CHANGES => refine' Y.const_mk KX G ?z103 ?r103; (case z103 => k_is); (case r103 => exact ⟨_, rfl⟩)
    case g_MAX_CYCLE => refine' Y.const_mk KX G ?z104 ?r104; (case z104 => k_is); (case r104 => exact ⟨_, rfl⟩)
    case c_Calendar =>
      refine' ⟨_, Y.cls_mk KX G ?a_106 ?p1_106 ?p2_106 ?p3_106 ?p4_106 ?ha_106 ?hn_106 ?htk_106 ?hm_106 ?ic_106 ?ty_106 ?k0_106 ?k1_106 ?k2_106 ?k3_106 ?k4_106 ?k5_106, ?fl_106⟩
      (case a_106 => k_is)
      (case p1_106 => k_is)
      (case p2_106 => k_is)
      (case p3_106 => k_is)
      (case p4_106 => k_is)
      (case ha_106 => k_is)
      (case hn_106 => k_is)
      (case htk_106 => k_is)
      (case hm_106 => k_is)
      (case ic_106 => k_is)
      (case ty_106 => k_is)
      (case k0_106 => k_is)
      (case k1_106 => k_is)
      (case k2_106 => k_is)
      (case k3_106 => k_is)
      (case k4_106 => k_is)
      (case k5_106 => k_is)
      (case fl_106 => constructor <;> (show PySem.W.findIn _ _ _ = some none; k_is))
    case i_Calendar =>
      refine' Lw.init_Calendar KX G ?a_126 ?mk_126 ?ini_126 ?fn_126 ?kp_126 ?l_126 ?cd_126 ?kf_126 ?d0_126 ?t0_126
      (case a_126 => k_is)
      (case mk_126 => k_is)
      (case ini_126 => k_is)
      (case fn_126 => k_is)
      (case kp_126 => k_is)
      (case l_126 => k_is)
      (case cd_126 => k_is)
      (case kf_126 => k_is)
      (case d0_126 => k_is)
      (case t0_126 => k_is)
    case e_Calendar =>
      refine' Y.eq_mk KX G ?a_138 ?hs_138 ?hf_138 ?n0_138 ?n5_138 ?hn_138 ?hm_138 ?l_138 ?ci_138 ?k_138 (fun _ _ _ _ _ _ us hl => match us, hl with | [_, _], _ => rfl)
      (case a_138 => k_is)
      (case hs_138 => k_is)
      (case hf_138 => k_is)
      (case n0_138 => k_is)
      (case n5_138 => k_is)
      (case hn_138 => k_is)
      (case hm_138 => k_is)
      (case l_138 => k_is)
      (case ci_138 => k_is)
      (case k_138 => k_is)

