import PyProof.Rows.All
import Wide.All
import OpenK.AllK
import Wide.FinOn
import HandS.ForMost
import HandS.ForExc
import HandS.CallSlots
import HandS.Lambda
import HandS.ExcInit
import HandS.Deep
import HandS.TupAny
import HandS.IsInst
import HandS.Wide
import HandS.Walk
import HandS.Style
import HandS.MakeKwOnly
import KE.GoesMore
import HandS.Iter
import HandS.Defaults
import HandS.NoneIn
import OpenK.KWalk
import HandS.TupMul
import HandS.SortInts
import HandS.Conv
import PyProof.LongRange
import KE.SortKeyHeap
import HandS.SortKw
import HandS.ExcField
import HandS.ExcIs
import HandS.ClsMeth
import KE.KExcIs
import HandS.ExcBuiltin
import HandS.ExcValue
import HandS.HeadHook4
import HandS.HeadWalk
import HandS.Head0
import HandS.Head1
import HandS.Head2
import HandS.HeadEnd
import PySem.Challenge.RW_crewlags_k04_exceptions
set_option Elab.async false
set_option linter.all false
set_option maxRecDepth 100000
set_option maxHeartbeats 4000000
namespace Y
open PySem PySem.Spec L2
set_option autoImplicit false
/-! tables of code objects: those of the defs that make lambdas -/
class TB where
  T : List (Addr × Addr × Str)
  uq : ∀ p ∈ T, ∀ q ∈ T, p.2.1 = q.2.1 → p.2.2 = q.2.2
def TabOk [TB] (H : Hp) : Prop := LamX.Tabs (TB.T.map (·.2)) H
/-- the head's heap bears them -/
def BaseOk [TB] (mg : Str → Option Value) (base : Heap) : Prop := ∀ p ∈ TB.T, LamX.TabB base mg p.1 p.2.1
def NoTbl (o : HO) : Prop := ∀ ps, o ≠ .tbl ps
/-- a heap without its tables -/
def strip (H : Hp) : Hp := fun b => match H b with
  | some (.tbl _) => none
  | o => o
theorem strip_some {H : Hp} {b : Addr} {o : HO} (h : strip H b = some o) : H b = some o ∧ NoTbl o := by
  unfold strip at h
  split at h
  · cases h
  · rename_i n
    refine ⟨h, fun ps z => ?_⟩
    subst z
    exact n ps h
theorem strip_of {H : Hp} {b : Addr} {o : HO} (h : H b = some o) (n : NoTbl o) : strip H b = some o := by
  unfold strip
  rw [h]
  cases o with
  | tbl ps => exact absurd rfl (n ps)
  | _ => rfl
theorem strip_same (H : Hp) : Same (strip H) H := fun _ _ h => (strip_some h).1
theorem sqL_strip {K : PySem.W.Frag} {H : Hp} {a : Addr} {xs : List V} (h : SqL K H a xs) : SqL K (strip H) a xs := by
  rcases h with (h | ⟨o, h⟩) | h
  · exact .inl (.inl (strip_of h fun ps z => by cases z))
  · exact .inl (.inr ⟨o, strip_of h fun ps z => by cases z⟩)
  · exact .inr h
theorem sqT_strip {K : PySem.W.Frag} {H : Hp} {a : Addr} {xs : List V} (h : SqT K H a xs) : SqT K (strip H) a xs := by
  rcases h with (h | ⟨o, h⟩) | h
  · exact .inl (.inl (strip_of h fun ps z => by cases z))
  · exact .inl (.inr ⟨o, strip_of h fun ps z => by cases z⟩)
  · exact .inr h
theorem TabOk.ext [TB] {H H' : Hp} (t : TabOk H) (e : ∀ b o, H b = some o → H' b = some o) : TabOk H' := LamX.Tabs.ext t e
theorem TabOk.new [TB] {H : Hp} {p : Addr} {o : HO} (t : TabOk H) (hp : H p = none) : TabOk (upd H p o) := t.ext fun b u q => by rw [upd_ne (ne_of_none q hp)]; exact q
/-- what is neither a table nor a code object may be changed -/
theorem TabOk.chg [TB] {H : Hp} {p : Addr} {o o' : HO} (t : TabOk H) (hp : H p = some o) (h1 : NoTbl o) (h2 : ∀ q, o ≠ LamX.CodeO p q) : TabOk (upd H p o') := fun x hx => by
  obtain ⟨ps, a1, a2, a3⟩ := t x hx
  refine ⟨ps, ?_, a2, fun pos cv hc => ?_⟩
  · rw [upd_ne]
    · exact a1
    · intro z
      rw [z, hp] at a1
      exact h1 ps (Option.some.inj a1)
  · obtain ⟨c, e1, e2⟩ := a3 pos cv hc
    refine ⟨c, e1, ?_⟩
    rw [upd_ne]
    · exact e2
    · intro z
      subst z
      rw [hp] at e2
      exact h2 _ (Option.some.inj e2)
/-! plain data; what a value means in an abstract heap -/
inductive D where
  | non
  | bl (b : Bool)
  | int (i : Int)
  | str (x : Str)
  | lst (xs : List D)
  | tup (xs : List D)
  | ins (c : Str) (fs : List (Str × D))
  | raw (v : V)
  | dK (kvs : List (Key × D))
  | dT (kvs : List (List Key × D))
  | exc (c : Str) (fs : List (Str × D))
abbrev Mg := Str → Option Value
theorem exd_tbl {e : Addr} {fs : List (Str × V)} {ps : Array Value} : exd e fs ≠ .tbl ps := fun z => by
  have z' : HO.ext _ = HO.tbl ps := z
  cases z'
mutual
inductive Rep (K : PySem.W.Frag) (mg : Mg) (F : Hp) : V → D → Prop
  | non : Rep K mg F .non .non
  | bl (b : Bool) : Rep K mg F (.bl b) (.bl b)
  | int (i : Int) : Rep K mg F (.int i) (.int i)
  | str (x : Str) : Rep K mg F (.str x) (.str x)
  | raw (v : V) : Rep K mg F v (.raw v)
  | lst {a : Addr} {vs : List V} {ds : List D} : SqL K F a vs → Reps K mg F vs ds → Rep K mg F (.ref a) (.lst ds)
  | tup {a : Addr} {vs : List V} {ds : List D} : SqT K F a vs → Reps K mg F vs ds → Rep K mg F (.ref a) (.tup ds)
  | ins {a C dx : Addr} {c : Str} {gs : List (Str × V)} {fs : List (Str × D)} : mg c = some (.ref C) → F a = some (.ins C dx gs) → RepF K mg F gs fs → Rep K mg F (.ref a) (.ins c fs)
  | dK {a : Addr} {gs : List (Key × V)} {ks : List (Key × D)} : F a = some (.dK gs) → RepK K mg F gs ks → Rep K mg F (.ref a) (.dK ks)
  | dT {a : Addr} {gs : List (List Key × V)} {ks : List (List Key × D)} : F a = some (.dT gs) → RepT K mg F gs ks → Rep K mg F (.ref a) (.dT ks)
  | exc {a C dx : Addr} {c : Str} {gs : List (Str × V)} {fs : List (Str × D)} : mg c = some (.ref C) → F a = some (exo a C (some dx)) → F dx = some (exd dx gs) → RepF K mg F gs fs → Rep K mg F (.ref a) (.exc c fs)
inductive Reps (K : PySem.W.Frag) (mg : Mg) (F : Hp) : List V → List D → Prop
  | nil : Reps K mg F [] []
  | cons {v : V} {vs : List V} {d : D} {ds : List D} : Rep K mg F v d → Reps K mg F vs ds → Reps K mg F (v :: vs) (d :: ds)
inductive RepF (K : PySem.W.Frag) (mg : Mg) (F : Hp) : List (Str × V) → List (Str × D) → Prop
  | nil : RepF K mg F [] []
  | cons {f : Str} {v : V} {gs : List (Str × V)} {d : D} {fs : List (Str × D)} : Rep K mg F v d → RepF K mg F gs fs → RepF K mg F ((f, v) :: gs) ((f, d) :: fs)
inductive RepK (K : PySem.W.Frag) (mg : Mg) (F : Hp) : List (Key × V) → List (Key × D) → Prop
  | nil : RepK K mg F [] []
  | cons {f : Key} {v : V} {gs : List (Key × V)} {d : D} {fs : List (Key × D)} : Rep K mg F v d → RepK K mg F gs fs → RepK K mg F ((f, v) :: gs) ((f, d) :: fs)
inductive RepT (K : PySem.W.Frag) (mg : Mg) (F : Hp) : List (List Key × V) → List (List Key × D) → Prop
  | nil : RepT K mg F [] []
  | cons {f : List Key} {v : V} {gs : List (List Key × V)} {d : D} {fs : List (List Key × D)} : Rep K mg F v d → RepT K mg F gs fs → RepT K mg F ((f, v) :: gs) ((f, d) :: fs)
end
theorem sqT_mono {K : PySem.W.Frag} {F F' : Hp} {a : Addr} {xs : List V} (e : Same F F') (h : SqT K F a xs) : SqT K F' a xs := by
  rcases h with (h | ⟨o, h⟩) | h
  · exact Or.inl (Or.inl (e _ _ h))
  · exact Or.inl (Or.inr ⟨o, e _ _ h⟩)
  · exact Or.inr h
mutual
theorem Rep.mono {K : PySem.W.Frag} {mg : Mg} {F F' : Hp} (s : Same F F') {v : V} {d : D} : Rep K mg F v d → Rep K mg F' v d
  | .non => .non
  | .bl b => .bl b
  | .int i => .int i
  | .str x => .str x
  | .raw v => .raw v
  | .lst a b => .lst (s.seq a) (Reps.mono s b)
  | .tup a b => .tup (sqT_mono s a) (Reps.mono s b)
  | .ins a b c => .ins a (s _ _ b) (RepF.mono s c)
  | .dK a b => .dK (s _ _ a) (RepK.mono s b)
  | .dT a b => .dT (s _ _ a) (RepT.mono s b)
  | .exc a b c d => .exc a (s _ _ b) (s _ _ c) (RepF.mono s d)
theorem Reps.mono {K : PySem.W.Frag} {mg : Mg} {F F' : Hp} (s : Same F F') {v : List V} {d : List D} : Reps K mg F v d → Reps K mg F' v d
  | .nil => .nil
  | .cons a b => .cons (Rep.mono s a) (Reps.mono s b)
theorem RepF.mono {K : PySem.W.Frag} {mg : Mg} {F F' : Hp} (s : Same F F') {v : List (Str × V)} {d : List (Str × D)} : RepF K mg F v d → RepF K mg F' v d
  | .nil => .nil
  | .cons a b => .cons (Rep.mono s a) (RepF.mono s b)
theorem RepK.mono {K : PySem.W.Frag} {mg : Mg} {F F' : Hp} (s : Same F F') {v : List (Key × V)} {d : List (Key × D)} : RepK K mg F v d → RepK K mg F' v d
  | .nil => .nil
  | .cons a b => .cons (Rep.mono s a) (RepK.mono s b)
theorem RepT.mono {K : PySem.W.Frag} {mg : Mg} {F F' : Hp} (s : Same F F') {v : List (List Key × V)} {d : List (List Key × D)} : RepT K mg F v d → RepT K mg F' v d
  | .nil => .nil
  | .cons a b => .cons (Rep.mono s a) (RepT.mono s b)
end
mutual
theorem Rep.strip {K : PySem.W.Frag} {mg : Mg} {F : Hp} {v : V} {d : D} : Rep K mg F v d → Rep K mg (strip F) v d
  | .non => .non
  | .bl b => .bl b
  | .int i => .int i
  | .str x => .str x
  | .raw v => .raw v
  | .lst a b => .lst (sqL_strip a) (Reps.strip b)
  | .tup a b => .tup (sqT_strip a) (Reps.strip b)
  | .ins a b c => .ins a (strip_of b fun ps z => by cases z) (RepF.strip c)
  | .dK a b => .dK (strip_of a fun ps z => by cases z) (RepK.strip b)
  | .dT a b => .dT (strip_of a fun ps z => by cases z) (RepT.strip b)
  | .exc a b c d => .exc a (strip_of b fun ps => exo_tbl) (strip_of c fun ps => exd_tbl) (RepF.strip d)
theorem Reps.strip {K : PySem.W.Frag} {mg : Mg} {F : Hp} {v : List V} {d : List D} : Reps K mg F v d → Reps K mg (strip F) v d
  | .nil => .nil
  | .cons a b => .cons (Rep.strip a) (Reps.strip b)
theorem RepF.strip {K : PySem.W.Frag} {mg : Mg} {F : Hp} {v : List (Str × V)} {d : List (Str × D)} : RepF K mg F v d → RepF K mg (strip F) v d
  | .nil => .nil
  | .cons a b => .cons (Rep.strip a) (RepF.strip b)
theorem RepK.strip {K : PySem.W.Frag} {mg : Mg} {F : Hp} {v : List (Key × V)} {d : List (Key × D)} : RepK K mg F v d → RepK K mg (strip F) v d
  | .nil => .nil
  | .cons a b => .cons (Rep.strip a) (RepK.strip b)
theorem RepT.strip {K : PySem.W.Frag} {mg : Mg} {F : Hp} {v : List (List Key × V)} {d : List (List Key × D)} : RepT K mg F v d → RepT K mg (strip F) v d
  | .nil => .nil
  | .cons a b => .cons (Rep.strip a) (RepT.strip b)
end
theorem Reps.length {K : PySem.W.Frag} {mg : Mg} {F : Hp} : ∀ {vs : List V} {ds : List D}, Reps K mg F vs ds → vs.length = ds.length
  | _, _, .nil => rfl
  | _, _, .cons _ b => congrArg (· + 1) (Reps.length b)
theorem Reps.append {K : PySem.W.Frag} {mg : Mg} {F : Hp} : ∀ {vs ws : List V} {ds es : List D}, Reps K mg F vs ds → Reps K mg F ws es → Reps K mg F (vs ++ ws) (ds ++ es)
  | _, _, _, _, .nil, h => h
  | _, _, _, _, .cons a b, h => .cons a (Reps.append b h)
theorem Reps.get {K : PySem.W.Frag} {mg : Mg} {F : Hp} : ∀ {vs : List V} {ds : List D} {i : Nat} {d : D}, Reps K mg F vs ds → ds[i]? = some d → ∃ v, vs[i]? = some v ∧ Rep K mg F v d
  | _, _, _, _, .nil, e => by simp at e
  | _, _, 0, _, .cons r _, e => by simp at e; subst e; exact ⟨_, rfl, r⟩
  | _, _, i + 1, d, .cons _ t, e => by
    obtain ⟨u, h1, h2⟩ := Reps.get (i := i) (d := d) t (by simpa using e)
    exact ⟨u, by simpa using h1, h2⟩
theorem Reps.set {K : PySem.W.Frag} {mg : Mg} {F : Hp} {v : V} {d : D} (r : Rep K mg F v d) : ∀ {vs : List V} {ds : List D} (i : Nat), Reps K mg F vs ds → Reps K mg F (vs.set i v) (ds.set i d)
  | _, _, _, .nil => .nil
  | _, _, 0, .cons _ t => .cons r t
  | _, _, i + 1, .cons q t => .cons q (Reps.set r i t)
theorem Reps.take {K : PySem.W.Frag} {mg : Mg} {F : Hp} : ∀ {vs : List V} {ds : List D} (n : Nat), Reps K mg F vs ds → Reps K mg F (vs.take n) (ds.take n)
  | _, _, 0, _ => .nil
  | _, _, _ + 1, .nil => .nil
  | _, _, n + 1, .cons r t => .cons r (Reps.take n t)
theorem Reps.drop {K : PySem.W.Frag} {mg : Mg} {F : Hp} : ∀ {vs : List V} {ds : List D} (n : Nat), Reps K mg F vs ds → Reps K mg F (vs.drop n) (ds.drop n)
  | _, _, 0, r => r
  | _, _, _ + 1, .nil => .nil
  | _, _, n + 1, .cons _ t => Reps.drop n t
theorem RepF.look {K : PySem.W.Frag} {mg : Mg} {F : Hp} {f : Str} {d : D} : ∀ {gs : List (Str × V)} {fs : List (Str × D)}, RepF K mg F gs fs → fs.lookup f = some d → ∃ v, gs.lookup f = some v ∧ Rep K mg F v d
  | _, _, .nil, e => by simp at e
  | _, _, .cons (f := g) r t, e => by
    rw [List.lookup_cons] at e ⊢
    cases q : (f == g) with
    | true => rw [q] at e; cases e; exact ⟨_, rfl, r⟩
    | false => rw [q] at e; exact RepF.look t e
/-! what stands at an address that one frame alone knows -/
inductive Cont where
  | lst (xs : List D)
  | ins (c : Str) (fs : List (Str × D))
  | dK (kvs : List (Key × D))
  | dT (kvs : List (List Key × D))
def Cont.dat : Cont → D
  | .lst xs => .lst xs
  | .ins c fs => .ins c fs
  | .dK ks => .dK ks
  | .dT ks => .dT ks
def ContOk (K : PySem.W.Frag) (mg : Mg) (F : Hp) : Cont → HO → Prop
  | .lst xs, o => ∃ vs, o = .lst vs ∧ Reps K mg F vs xs
  | .ins c fs, o => ∃ C dx gs, o = .ins C dx gs ∧ mg c = some (.ref C) ∧ RepF K mg F gs fs
  | .dK ks, o => ∃ gs, o = .dK gs ∧ RepK K mg F gs ks
  | .dT ks, o => ∃ gs, o = .dT gs ∧ RepT K mg F gs ks
theorem ContOk.mono {K : PySem.W.Frag} {mg : Mg} {F F' : Hp} (s : Same F F') : ∀ {c : Cont} {o : HO}, ContOk K mg F c o → ContOk K mg F' c o
  | .lst _, _, ⟨vs, e, r⟩ => ⟨vs, e, r.mono s⟩
  | .ins _ _, _, ⟨C, dx, gs, e, m, r⟩ => ⟨C, dx, gs, e, m, r.mono s⟩
  | .dK _, _, ⟨gs, e, r⟩ => ⟨gs, e, r.mono s⟩
  | .dT _, _, ⟨gs, e, r⟩ => ⟨gs, e, r.mono s⟩
theorem ContOk.notbl {K : PySem.W.Frag} {mg : Mg} {F : Hp} : ∀ {c : Cont} {o : HO}, ContOk K mg F c o → NoTbl o
  | .lst _, _, ⟨vs, e, _⟩ => fun ps z => by rw [e] at z; cases z
  | .ins _ _, _, ⟨C, dx, gs, e, _⟩ => fun ps z => by rw [e] at z; cases z
  | .dK _, _, ⟨gs, e, _⟩ => fun ps z => by rw [e] at z; cases z
  | .dT _, _, ⟨gs, e, _⟩ => fun ps z => by rw [e] at z; cases z
theorem ContOk.nocode {K : PySem.W.Frag} {mg : Mg} {F : Hp} {p : Addr} : ∀ {c : Cont} {o : HO}, ContOk K mg F c o → ∀ q, o ≠ LamX.CodeO p q
  | .lst _, _, ⟨vs, e, _⟩ => fun ps z => by rw [e] at z; cases z
  | .ins _ _, _, ⟨C, dx, gs, e, _⟩ => fun ps z => by rw [e] at z; cases z
  | .dK _, _, ⟨gs, e, _⟩ => fun ps z => by rw [e] at z; cases z
  | .dT _, _, ⟨gs, e, _⟩ => fun ps z => by rw [e] at z; cases z
inductive Slot where
  | no
  | val (d : D)
  | own (fx : Bool) (c : Cont)
abbrev Sl := List Slot
def SlotOk (K : PySem.W.Frag) (mg : Mg) (F H : Hp) : Slot → Option V → Prop
  | .no, _ => True
  | .val d, o => ∃ v, o = some v ∧ Rep K mg F v d
  | .own _ c, o => ∃ a h, o = some (.ref a) ∧ F a = none ∧ H a = some h ∧ ContOk K mg F c h
def Own (e : Sl) (σ : St) (a : Addr) : Prop := ∃ (i : Nat) (f : Bool) (c : Cont), e[i]? = some (.own f c) ∧ σ[i]? = some (some (.ref a))
variable [TB]
structure Rel (K : PySem.W.Frag) (mg : Mg) (F : Hp) (e : Sl) (σ : St) (H : Hp) : Prop where
  sub : Same F H
  len : e.length = σ.length
  ok : ∀ (i : Nat) (s : Slot) (o : Option V), e[i]? = some s → σ[i]? = some o → SlotOk K mg F H s o
  inj : ∀ (i j : Nat) (f g : Bool) (c d : Cont) (a : Addr), e[i]? = some (.own f c) → e[j]? = some (.own g d) → σ[i]? = some (some (.ref a)) → σ[j]? = some (some (.ref a)) → i = j
  tab : TabOk H
  ftb : ∀ b o, F b = some o → NoTbl o
/-- new, or this frame's own -/
def NM (H : Hp) (e : Sl) (σ : St) (b : Addr) : Prop := H b = none ∨ Own e σ b
structure Stp (F H : Hp) (e : Sl) (σ : St) (F' H' : Hp) (e' : Sl) (σ' : St) : Prop where
  fro : Same F F'
  kept : ∀ b o, H b = some o → ¬ Own e σ b → NoTbl o → H' b = some o
  dom : ∀ b, H' b = none → H b = none
  newF : ∀ b, F b = none → F' b ≠ none → NM H e σ b
  newO : ∀ b, Own e' σ' b → NM H e σ b
  fix : ∀ (i : Nat) (c : Cont), e[i]? = some (.own true c) → (∃ c', e'[i]? = some (.own true c')) ∧ σ'[i]? = σ[i]?
  len : e'.length = e.length
section
variable {F F1 F2 H H1 H2 : Hp} {e e1 e2 : Sl} {σ σ1 σ2 : St}
theorem Stp.refl : Stp F H e σ F H e σ := ⟨Same.refl _, fun _ _ h _ _ => h, fun _ h => h, fun _ h h' => absurd h h', fun _ h => .inr h, fun i c h => ⟨⟨c, h⟩, rfl⟩, rfl⟩
theorem Stp.nm (a : Stp F H e σ F1 H1 e1 σ1) {b : Addr} (h : NM H1 e1 σ1 b) : NM H e σ b := by
  rcases h with h | h
  · exact .inl (a.dom b h)
  · exact a.newO b h
theorem Stp.trans (a : Stp F H e σ F1 H1 e1 σ1) (b : Stp F1 H1 e1 σ1 F2 H2 e2 σ2) : Stp F H e σ F2 H2 e2 σ2 where
  fro := a.fro.trans b.fro
  kept := fun c o h n m => b.kept c o (a.kept c o h n m) (fun z => by
    rcases a.newO c z with q | q
    · rw [h] at q; cases q
    · exact n q) m
  dom := fun c h => a.dom c (b.dom c h)
  newF := fun c h h' => by
    cases q : F1 c with
    | none => exact a.nm (b.newF c q h')
    | some o => exact a.newF c h (by rw [q]; exact fun z => nomatch z)
  newO := fun c h => a.nm (b.newO c h)
  fix := fun i c h => by
    obtain ⟨⟨c1, h1⟩, q1⟩ := a.fix i c h
    obtain ⟨⟨c2, h2⟩, q2⟩ := b.fix i c1 h1
    exact ⟨⟨c2, h2⟩, q2.trans q1⟩
  len := b.len.trans a.len
end
/-! results -/
structure Xn where
  c : Str
  fs : List (Str × D)
inductive Res (α : Type) where
  | ok (a : α) (e : Sl)
  | ex (x : Xn) (e : Sl)
  | bad
abbrev M (α : Type) := Sl → Res α
def M.bind {α β : Type} (f : M α) (k : α → M β) : M β := fun e => match f e with
  | .ok a e' => k a e'
  | .ex x e' => .ex x e'
  | .bad => .bad
def M.ret {α : Type} (a : α) : M α := fun e => .ok a e
def M.bad {α : Type} : M α := fun _ => .bad
inductive RV where
  | val (d : D)
  | own (c : Cont)
  | pk (i : Nat)
def RVOk (K : PySem.W.Frag) (mg : Mg) (N : Addr → Prop) (F H : Hp) (e : Sl) (σ : St) (v : V) : RV → Prop
  | .val d => Rep K mg F v d
  | .own c => ∃ a h, v = .ref a ∧ F a = none ∧ H a = some h ∧ ContOk K mg F c h ∧ ¬ Own e σ a ∧ N a
  | .pk i => σ[i]? = some (some v)
def XOk (K : PySem.W.Frag) (mg : Mg) (F : Hp) (cls : Value) (d : Option Addr) (x : Xn) : Prop := ∃ C dx gs, cls = .ref C ∧ mg x.c = some (.ref C) ∧ d = some dx ∧ F dx = some (.xd gs) ∧ RepF K mg F gs x.fs
section
variable {K : PySem.W.Frag} {mg : Mg} {F F1 F2 H H1 H2 : Hp} {e e1 e2 : Sl} {σ σ1 σ2 : St} {v : V} {r : RV} {N N1 : Addr → Prop}
/-- what was read stays read while something else is reckoned -/
theorem RVOk.step (h : RVOk K mg N F H e σ v r) (s : Stp F H e σ F1 H1 e1 σ) : RVOk K mg N F1 H1 e1 σ v r := by
  cases r with
  | val d => exact Rep.mono s.fro h
  | pk i => exact h
  | own c =>
    obtain ⟨a, o, e, hf, hh, hc, hn, hN⟩ := h
    have nm : ¬ NM H _ σ a := fun z => by
      rcases z with z | z
      · rw [hh] at z; cases z
      · exact hn z
    refine ⟨a, o, e, ?_, s.kept a o hh hn hc.notbl, hc.mono s.fro, fun z => nm (s.newO a z), hN⟩
    cases q : F1 a with
    | none => rfl
    | some u => exact absurd (s.newF a hf (by rw [q]; exact fun z => nomatch z)) nm
theorem RVOk.imp (h : RVOk K mg N F H e σ v r) (g : ∀ a, N a → N1 a) : RVOk K mg N1 F H e σ v r := by
  cases r with
  | val d => exact h
  | pk i => exact h
  | own c =>
    obtain ⟨a, o, e, hf, hh, hc, hn, hN⟩ := h
    exact ⟨a, o, e, hf, hh, hc, hn, g a hN⟩
end
/-- the data that a result stands for now -/
def sdat : Option Slot → Option D
  | some (.val d) => some d
  | some (.own _ c) => some c.dat
  | _ => none
def rdat (e : Sl) : RV → Option D
  | .val d => some d
  | .own c => some c.dat
  | .pk i => sdat e[i]?
/-- v reads as d: its outside in H, its parts in F -/
def RdOk (K : PySem.W.Frag) (mg : Mg) (F H : Hp) (v : V) : D → Prop
  | .non => v = .non
  | .bl b => v = .bl b
  | .int i => v = .int i
  | .str x => v = .str x
  | .raw u => v = u
  | .lst ds => ∃ a vs, v = .ref a ∧ SqL K H a vs ∧ Reps K mg F vs ds
  | .tup ds => ∃ a vs, v = .ref a ∧ SqT K F a vs ∧ Reps K mg F vs ds
  | .ins c fs => ∃ a C dx gs, v = .ref a ∧ mg c = some (.ref C) ∧ H a = some (.ins C dx gs) ∧ RepF K mg F gs fs
  | .dK ks => ∃ a gs, v = .ref a ∧ H a = some (.dK gs) ∧ RepK K mg F gs ks
  | .dT ks => ∃ a gs, v = .ref a ∧ H a = some (.dT gs) ∧ RepT K mg F gs ks
  | .exc c fs => ∃ a dx C gs, v = .ref a ∧ mg c = some (.ref C) ∧ F a = some (exo a C (some dx)) ∧ F dx = some (exd dx gs) ∧ RepF K mg F gs fs
section
variable {K : PySem.W.Frag} {mg : Mg} {F F1 F2 H H1 H2 : Hp} {e e1 e2 : Sl} {σ σ1 σ2 : St} {v : V} {r : RV} {N N1 : Addr → Prop} {d : D} {c : Cont} {h : HO} {a : Addr}
theorem Rep.rd (s : Same F H) (r : Rep K mg F v d) : RdOk K mg F H v d := by
  cases r with
  | non => rfl
  | bl b => rfl
  | int i => rfl
  | str x => rfl
  | raw v => rfl
  | lst a b => exact ⟨_, _, rfl, s.seq a, b⟩
  | tup a b => exact ⟨_, _, rfl, a, b⟩
  | ins a b c => exact ⟨_, _, _, _, rfl, a, s _ _ b, c⟩
  | dK a b => exact ⟨_, _, rfl, s _ _ a, b⟩
  | dT a b => exact ⟨_, _, rfl, s _ _ a, b⟩
  | exc a b c d => exact ⟨_, _, _, _, rfl, a, b, c, d⟩
theorem RdOk.rep (s : Same F H) (r : RdOk K mg F H v d) : Rep K mg H v d := by
  cases d with
  | non => cases r; exact .non
  | bl b => cases r; exact .bl b
  | int i => cases r; exact .int i
  | str x => cases r; exact .str x
  | raw v => cases r; exact .raw v
  | lst ds => obtain ⟨a, vs, rfl, q, p⟩ := r; exact .lst q (p.mono s)
  | tup ds => obtain ⟨a, vs, rfl, q, p⟩ := r; exact .tup (sqT_mono s q) (p.mono s)
  | ins c fs => obtain ⟨a, C, dx, gs, rfl, m, q, p⟩ := r; exact .ins m q (p.mono s)
  | dK ks => obtain ⟨a, gs, rfl, q, p⟩ := r; exact .dK q (p.mono s)
  | dT ks => obtain ⟨a, gs, rfl, q, p⟩ := r; exact .dT q (p.mono s)
  | exc c fs => obtain ⟨a, dx, C, gs, rfl, m, q, q', p⟩ := r; exact .exc m (s _ _ q) (s _ _ q') (p.mono s)
theorem ContOk.rd (hc : ContOk K mg F c h) (e : H a = some h) : RdOk K mg F H (.ref a) c.dat := by
  cases c with
  | lst xs => obtain ⟨vs, rfl, r⟩ := hc; exact ⟨a, vs, rfl, SqL.of e, r⟩
  | ins c fs => obtain ⟨C, dx, gs, rfl, m, r⟩ := hc; exact ⟨a, C, dx, gs, rfl, m, e, r⟩
  | dK ks => obtain ⟨gs, rfl, r⟩ := hc; exact ⟨a, gs, rfl, e, r⟩
  | dT ks => obtain ⟨gs, rfl, r⟩ := hc; exact ⟨a, gs, rfl, e, r⟩
theorem Rel.rd (R : Rel K mg F e σ H) (q : RVOk K mg N F H e σ v r) (w : rdat e r = some d) : RdOk K mg F H v d := by
  cases r with
  | val x => cases w; exact Rep.rd R.sub q
  | own c =>
    cases w
    obtain ⟨a, o, rfl, hf, hh, hc, hn⟩ := q
    exact hc.rd hh
  | pk i =>
    have q : σ[i]? = some (some v) := q
    have w : sdat e[i]? = some d := w
    cases es : e[i]? with
    | none => rw [es] at w; cases w
    | some s =>
      rw [es] at w
      have ok := R.ok i s _ es q
      cases s with
      | no => cases w
      | val x =>
        cases w
        obtain ⟨u, h1, h2⟩ := ok
        cases h1
        exact Rep.rd R.sub h2
      | own f c =>
        cases w
        obtain ⟨a, o, h1, hf, hh, hc⟩ := ok
        cases h1
        exact hc.rd hh
/-- nothing but a new thing beside -/
theorem Rel.new (R : Rel K mg F e σ H) {p : Addr} {o : HO} (hp : H p = none) : Rel K mg F e σ (upd H p o) where
  sub := fun b u q => by rw [upd_ne (ne_of_none (R.sub b u q) hp)]; exact R.sub b u q
  len := R.len
  ok := fun i s x es ex => by
    have q := R.ok i s x es ex
    cases s with
    | no => trivial
    | val d => exact q
    | own f c =>
      obtain ⟨a, o', h1, hf, hh, hc⟩ := q
      exact ⟨a, o', h1, hf, by rw [upd_ne (ne_of_none hh hp)]; exact hh, hc⟩
  inj := R.inj
  tab := R.tab.new hp
  ftb := R.ftb
theorem Stp.new (R : Rel K mg F e σ H) {p : Addr} {o : HO} (hp : H p = none) : Stp F H e σ F (upd H p o) e σ where
  fro := Same.refl _
  kept := fun b u q _ _ => by rw [upd_ne (ne_of_none q hp)]; exact q
  dom := fun b q => by
    by_cases z : b = p
    · rw [z]; exact hp
    · rw [upd_ne z] at q; exact q
  newF := fun _ h h' => absurd h h'
  newO := fun _ h => .inr h
  fix := fun i c h => ⟨⟨c, h⟩, rfl⟩
  len := rfl
theorem Rel.free (R : Rel K mg F e σ H) {p : Addr} (hp : H p = none) : F p = none := R.sub.free hp
theorem Rel.notOwn (R : Rel K mg F e σ H) {p : Addr} (hp : H p = none) : ¬ Own e σ p := fun ⟨i, f, c, h1, h2⟩ => by
  obtain ⟨a, o, e1, _, hh, _⟩ := R.ok i _ _ h1 h2
  cases e1
  rw [hp] at hh; cases hh
/-- what is in H and nobody's own is frozen -/
theorem Rel.freeze (R : Rel K mg F e σ H) {p : Addr} {o : HO} (hp : H p = some o) (hn : ¬ Own e σ p) (hF : F p = none) (hT : NoTbl o) : Rel K mg (upd F p o) e σ H where
  sub := fun b u q => by
    by_cases z : b = p
    · subst z; rw [upd_same] at q; rw [← q]; exact hp
    · rw [upd_ne z] at q; exact R.sub b u q
  len := R.len
  ok := fun i s x es ex => by
    have sm : Same F (upd F p o) := fun b u q => by rw [upd_ne (ne_of_none q hF)]; exact q
    have q := R.ok i s x es ex
    cases s with
    | no => trivial
    | val d => obtain ⟨w, h1, h2⟩ := q; exact ⟨w, h1, h2.mono sm⟩
    | own f c =>
      obtain ⟨a, o', h1, hf, hh, hc⟩ := q
      refine ⟨a, o', h1, ?_, hh, hc.mono sm⟩
      rw [upd_ne]
      · exact hf
      · rintro rfl
        exact hn ⟨i, f, c, es, by rw [ex, h1]⟩
  inj := R.inj
  tab := R.tab
  ftb := fun b u q => by
    by_cases z : b = p
    · subst z; rw [upd_same] at q; cases q; exact hT
    · rw [upd_ne z] at q; exact R.ftb b u q
theorem Stp.freeze (_R : Rel K mg F e σ H) {p : Addr} {o : HO} (_hp : H p = some o) (hF : F p = none) {H0 F0 : Hp} {e0 : Sl} {σ0 : St} (s : Stp F0 H0 e0 σ0 F H e σ) (hN : NM H0 e0 σ0 p) : Stp F0 H0 e0 σ0 (upd F p o) H e σ where
  fro := s.fro.trans fun b u q => by rw [upd_ne (ne_of_none q hF)]; exact q
  kept := s.kept
  dom := s.dom
  newF := fun b h h' => by
    by_cases z : b = p
    · rw [z]; exact hN
    · rw [upd_ne z] at h'; exact s.newF b h h'
  newO := s.newO
  fix := s.fix
  len := s.len
theorem same_upd' {F : Hp} {p : Addr} {o : HO} (h : F p = none) : Same F (upd F p o) := fun b u q => by rw [upd_ne (ne_of_none q h)]; exact q
end
end Y

set_option Elab.async false
set_option linter.all false
set_option maxRecDepth 100000
set_option maxHeartbeats 4000000
namespace Y
open PySem PySem.Spec L2
set_option autoImplicit false
variable [TB]
/-! readings that are told by a plain function -/
section
variable (K : PySem.W.Frag) (mg : Mg) (W : WX)
abbrev RR (α β : Type) := (Addr → Prop) → Hp → Hp → Sl → St → β → α → Prop
def post {α β : Type} (R : RR α β) (F H : Hp) (e : Sl) (σ : St) (r : Res α) (Q : β → Hp → Prop) : Prop := match r with
  | .ok a e' => ∀ b F' H', Stp F H e σ F' H' e' σ → Rel K mg F' e' σ H' → R (NM H e σ) F' H' e' σ b a → Q b H'
  | .ex x e' => ∀ cls d F' H', Stp F H e σ F' H' e' σ → Rel K mg F' e' σ H' → XOk K mg F' cls d x → W cls d σ H'
  | .bad => False
def cG {α β : Type} (R : RR α β) (f : M α) : St → Hp → (β → Hp → Prop) → Prop := fun σ H Q => ∃ e F, Rel K mg F e σ H ∧ post K mg W R F H e σ (f e) Q
abbrev rV : RR RV V := fun N F H e σ v r => RVOk K mg N F H e σ v r
abbrev rB : RR Bool Bool := fun _ _ _ _ _ b a => b = a
/-- arguments: frozen values, or a slot that is lent -/
def ArgOk (F : Hp) (σ : St) (v : V) : RV → Prop
  | .val d => Rep K mg F v d
  | .pk i => σ[i]? = some (some v)
  | .own _ => False
inductive Args (F : Hp) (σ : St) : List V → List RV → Prop
  | nil : Args F σ [] []
  | cons {v : V} {vs : List V} {r : RV} {rs : List RV} : ArgOk K mg F σ v r → Args F σ vs rs → Args F σ (v :: vs) (r :: rs)
abbrev rA : RR (List RV) (List V) := fun _ F _ _ σ vs rs => Args K mg F σ vs rs
abbrev cE (f : M RV) : TE := cG K mg W (rV K mg) f
abbrev cT (f : M Bool) : TT := cG K mg W rB f
abbrev cA (f : M (List RV)) : TA := cG K mg W (rA K mg) f
end
inductive Flo where
  | nx
  | bk
  | ct
  | rt (r : RV)
section
variable (K : PySem.W.Frag) (mg : Mg) (W : WX)
def postS (F H : Hp) (e : Sl) (σ : St) (r : Res Flo) (E : Ends) : Prop := match r with
  | .ok .nx e' => ∀ σ' F' H', Stp F H e σ F' H' e' σ' → Rel K mg F' e' σ' H' → E.nx σ' H'
  | .ok .bk e' => ∀ σ' F' H', Stp F H e σ F' H' e' σ' → Rel K mg F' e' σ' H' → E.bk σ' H'
  | .ok .ct e' => ∀ σ' F' H', Stp F H e σ F' H' e' σ' → Rel K mg F' e' σ' H' → E.ct σ' H'
  | .ok (.rt r) e' => ∀ v σ' F' H', Stp F H e σ F' H' e' σ' → Rel K mg F' e' σ' H' → RVOk K mg (NM H e σ) F' H' e' σ' v r → E.rt v H'
  | .ex x e' => ∀ cls d σ' F' H', Stp F H e σ F' H' e' σ' → Rel K mg F' e' σ' H' → XOk K mg F' cls d x → W cls d σ' H'
  | .bad => False
def cS (f : M Flo) : TS := fun E σ H => ∃ e F, Rel K mg F e σ H ∧ postS K mg W F H e σ (f e) E
end
abbrev DE (X : Cx) (W : WX) (e : Expr) (f : M RV) : Prop := PE X e (cE X.K X.mg W f)
abbrev DT (X : Cx) (W : WX) (e : Expr) (f : M Bool) : Prop := PT X e (cT X.K X.mg W f)
abbrev DW (X : Cx) (W : WX) (e : Expr) (f : M Bool) : Prop := PW X e (cT X.K X.mg W f)
abbrev DA (X : Cx) (W : WX) (es : List Expr) (f : M (List RV)) : Prop := PA X es (cA X.K X.mg W f)
abbrev DS (X : Cx) (W : WX) (st : Stmt) (f : M Flo) : Prop := PS X st (cS X.K X.mg W f)
abbrev DSs (X : Cx) (W : WX) (st : List Stmt) (f : M Flo) : Prop := PSs X st (cS X.K X.mg W f)
theorem peW {X : Cx} {e : Expr} {t t' : TE} (h : PE X e t) (i : ∀ σ H Q, t' σ H Q → t σ H Q) : PE X e t' := ⟨fun pins s σ H Q I q => h.run pins s σ H Q I (i σ H Q q)⟩
theorem ptW {X : Cx} {e : Expr} {t t' : TT} (h : PT X e t) (i : ∀ σ H Q, t' σ H Q → t σ H Q) : PT X e t' := ⟨fun pins s σ H Q I q => h.run pins s σ H Q I (i σ H Q q)⟩
theorem pwW {X : Cx} {e : Expr} {t t' : TT} (h : PW X e t) (i : ∀ σ H Q, t' σ H Q → t σ H Q) : PW X e t' := ⟨fun wh pins s σ H Q I q => h.run wh pins s σ H Q I (i σ H Q q)⟩
theorem paW {X : Cx} {e : List Expr} {t t' : TA} (h : PA X e t) (i : ∀ σ H Q, t' σ H Q → t σ H Q) : PA X e t' := ⟨fun pos pins s σ H Q I q => h.run pos pins s σ H Q I (i σ H Q q)⟩
theorem psW {X : Cx} {e : Stmt} {t t' : TS} (h : PS X e t) (i : ∀ E σ H, t' E σ H → t E σ H) : PS X e t' := ⟨fun pins s σ H E I q => h.run pins s σ H E I (i E σ H q)⟩
theorem pssW {X : Cx} {e : List Stmt} {t t' : TS} (h : PSs X e t) (i : ∀ E σ H, t' E σ H → t E σ H) : PSs X e t' := ⟨fun pins s σ H E I q => h.run pins s σ H E I (i E σ H q)⟩
section
variable {K : PySem.W.Frag} {mg : Mg} {W : WX} {F F1 H H1 : Hp} {e e1 : Sl} {σ : St} {α β γ δ : Type} {R1 : RR α β} {R2 : RR γ δ}
theorem post_imp {R : RR α β} {r : Res α} {Q Q' : β → Hp → Prop} (h : post K mg W R F H e σ r Q) (i : ∀ b H', Q b H' → Q' b H') : post K mg W R F H e σ r Q' := by
  cases r with
  | ok a e' => exact fun b F' H' s q w => i _ _ (h b F' H' s q w)
  | ex x e' => exact h
  | bad => exact h
/-- a relation that only grows with what is new or mine -/
def Up (R : RR α β) : Prop := ∀ (N N' : Addr → Prop) F H e σ b a, (∀ x, N x → N' x) → R N F H e σ b a → R N' F H e σ b a
theorem up_V : Up (rV K mg) := fun _ _ _ _ _ _ _ _ i h => h.imp i
theorem up_B : Up rB := fun _ _ _ _ _ _ _ _ _ h => h
theorem up_A : Up (rA K mg) := fun _ _ _ _ _ _ _ _ _ h => h
theorem post_from {R : RR α β} (u : Up R) {r : Res α} {Q : β → Hp → Prop} (s : Stp F H e σ F1 H1 e1 σ) (h : post K mg W R F H e σ r Q) : post K mg W R F1 H1 e1 σ r Q := by
  cases r with
  | ok a e' => exact fun b F' H' s' q w => h b F' H' (s.trans s') q (u _ _ _ _ _ _ _ _ (fun x z => s.nm z) w)
  | ex x e' => exact fun cls d F' H' s' q w => h cls d F' H' (s.trans s') q w
  | bad => exact h
/-- THE SEQUENCE -/
theorem post_seq (u : Up R2) {f : M α} {k : α → M γ} {Q : δ → Hp → Prop} (h : post K mg W R2 F H e σ (M.bind f k e) Q) :
    post K mg W R1 F H e σ (f e) (fun b H1 => ∃ a e1 F1, R1 (NM H e σ) F1 H1 e1 σ b a ∧ Rel K mg F1 e1 σ H1 ∧ Stp F H e σ F1 H1 e1 σ ∧ post K mg W R2 F1 H1 e1 σ (k a e1) Q) := by
  unfold M.bind at h
  cases q : f e with
  | ok a e' =>
    rw [q] at h
    exact fun b F' H' s r w => ⟨a, e', F', w, r, s, post_from u s h⟩
  | ex x e' => rw [q] at h; exact h
  | bad => rw [q] at h; exact h
theorem post_seq0 {f : M α} {k : α → M γ} {Q : δ → Hp → Prop} (h : post K mg W R2 F H e σ (M.bind f k e) Q) :
    post K mg W R1 F H e σ (f e) (fun b H1 => ∃ a e1 F1, R1 (NM H e σ) F1 H1 e1 σ b a ∧ Rel K mg F1 e1 σ H1 ∧ Stp F H e σ F1 H1 e1 σ ∧ post K mg W R2 F H e σ (k a e1) Q) := by
  unfold M.bind at h
  cases q : f e with
  | ok a e' =>
    rw [q] at h
    exact fun b F' H' s r w => ⟨a, e', F', w, r, s, h⟩
  | ex x e' => rw [q] at h; exact h
  | bad => rw [q] at h; exact h
theorem bind_assoc {α β γ : Type} (f : M α) (g : α → M β) (k : β → M γ) : M.bind (M.bind f g) k = M.bind f fun a => M.bind (g a) k := by
  funext e
  unfold M.bind
  cases f e <;> rfl
theorem ret_bind {α β : Type} (a : α) (k : α → M β) : M.bind (M.ret a) k = k a := rfl
theorem post_ret {R : RR α β} {a : α} {Q : β → Hp → Prop} {b : β} (r : Rel K mg F e σ H) (h : post K mg W R F H e σ (.ok a e) Q) (w : R (NM H e σ) F H e σ b a) : Q b H := h b F H Stp.refl r w
end
/-! freezing -/
def frz (r : RV) : M D := fun e => match r with
  | .val d => .ok d e
  | .own c => .ok c.dat e
  | .pk i => match e[i]? with
    | some (.val d) => .ok d e
    | some (.own false c) => .ok c.dat (e.set i (.val c.dat))
    | _ => .bad
theorem ContOk.rep {K : PySem.W.Frag} {mg : Mg} {F : Hp} {a : Addr} {h : HO} {c : Cont} (hc : ContOk K mg F c h) (hF : F a = none) : Rep K mg (upd F a h) (.ref a) c.dat := by
  have sm := same_upd' (o := h) hF
  cases c with
  | lst xs => obtain ⟨vs, rfl, r⟩ := hc; exact .lst (SqL.of upd_same) (r.mono sm)
  | ins c fs => obtain ⟨C, dx, gs, rfl, m, r⟩ := hc; exact .ins m upd_same (r.mono sm)
  | dK ks => obtain ⟨gs, rfl, r⟩ := hc; exact .dK upd_same (r.mono sm)
  | dT ks => obtain ⟨gs, rfl, r⟩ := hc; exact .dT upd_same (r.mono sm)
section
variable {K : PySem.W.Frag} {mg : Mg} {F F0 H H0 : Hp} {e e0 e' : Sl} {σ : St} {v : V} {r : RV} {d : D}
theorem get_set_ne {α : Type} {l : List α} {i j : Nat} {x : α} (h : i ≠ j) : (l.set i x)[j]? = l[j]? := List.getElem?_set_ne h
/-- a slot that was own is told as data -/
theorem Rel.setVal (R : Rel K mg F e σ H) {i : Nat} {a : Addr} (ho : σ[i]? = some (some (.ref a))) (hr : Rep K mg F (.ref a) d) : Rel K mg F (e.set i (.val d)) σ H where
  sub := R.sub
  len := by rw [List.length_set]; exact R.len
  ok := fun j s x es ex => by
    by_cases z : i = j
    · subst z
      rw [List.getElem?_set] at es
      split at es
      · split at es
        · cases es
          rw [ho] at ex; cases ex
          exact ⟨_, rfl, hr⟩
        · cases es
      · exact absurd rfl (by assumption)
    · rw [get_set_ne z] at es
      exact R.ok j s x es ex
  inj := fun j k f g c d' b ej ek sj sk => by
    have nj : i ≠ j := fun z => by
      subst z
      rw [List.getElem?_set] at ej
      split at ej
      · split at ej <;> cases ej
      · exact absurd rfl (by assumption)
    have nk : i ≠ k := fun z => by
      subst z
      rw [List.getElem?_set] at ek
      split at ek
      · split at ek <;> cases ek
      · exact absurd rfl (by assumption)
    rw [get_set_ne nj] at ej
    rw [get_set_ne nk] at ek
    exact R.inj j k f g c d' b ej ek sj sk
  tab := R.tab
  ftb := R.ftb
theorem own_set {i : Nat} {d : D} {b : Addr} (h : Own (e.set i (.val d)) σ b) : Own e σ b ∧ (σ[i]? = some (some (.ref b)) → ∃ j, i ≠ j ∧ σ[j]? = some (some (.ref b)) ∧ ∃ f c, e[j]? = some (.own f c)) := by
  obtain ⟨j, f, c, h1, h2⟩ := h
  have nj : i ≠ j := fun z => by
    subst z
    rw [List.getElem?_set] at h1
    split at h1
    · split at h1 <;> cases h1
    · exact absurd rfl (by assumption)
  rw [get_set_ne nj] at h1
  exact ⟨⟨j, f, c, h1, h2⟩, fun _ => ⟨j, nj, h2, f, c, h1⟩⟩
/-- the slot's own thing is frozen -/
theorem frz_own (R : Rel K mg F e σ H) {i : Nat} {c : Cont} (es : e[i]? = some (.own false c)) (ex : σ[i]? = some (some v)) {σ0 : St} (s : Stp F0 H0 e0 σ0 F H e σ) :
    ∃ F', Stp F0 H0 e0 σ0 F' H (e.set i (.val c.dat)) σ ∧ Rel K mg F' (e.set i (.val c.dat)) σ H ∧ Rep K mg F' v c.dat := by
  obtain ⟨a, o, h1, hf, hh, hc⟩ := R.ok i _ _ es ex
  cases h1
  have rp := hc.rep hf
  have sm := same_upd' (o := o) hf
  refine ⟨upd F a o, ?_, ?_, rp⟩
  · refine ⟨s.fro.trans sm, s.kept, s.dom, fun b h h' => ?_, fun b h => s.newO b (own_set h).1, fun j c' h => ?_, by rw [List.length_set]; exact s.len⟩
    · by_cases z : b = a
      · rw [z]; exact s.newO a ⟨i, false, c, es, ex⟩
      · rw [upd_ne z] at h'; exact s.newF b h h'
    · obtain ⟨⟨c1, q1⟩, q2⟩ := s.fix j c' h
      refine ⟨⟨c1, ?_⟩, q2⟩
      rw [get_set_ne]
      · exact q1
      · rintro rfl; rw [q1] at es; cases es
  · refine ⟨fun b u q => ?_, by rw [List.length_set]; exact R.len, fun j t x ej exj => ?_, fun j k f g c1 d1 b ej ek sj sk => ?_, R.tab, fun b u q => ?_⟩
    · by_cases z : b = a
      · subst z; rw [upd_same] at q; rw [← q]; exact hh
      · rw [upd_ne z] at q; exact R.sub b u q
    · by_cases z : i = j
      · subst z
        rw [List.getElem?_set] at ej
        split at ej
        · split at ej
          · cases ej
            rw [ex] at exj; cases exj
            exact ⟨_, rfl, rp⟩
          · cases ej
        · exact absurd rfl (by assumption)
      · rw [get_set_ne z] at ej
        have q := R.ok j t x ej exj
        cases t with
        | no => trivial
        | val d => obtain ⟨w, h1, h2⟩ := q; exact ⟨w, h1, h2.mono sm⟩
        | own f c2 =>
          obtain ⟨b, o', h1, hf', hh', hc'⟩ := q
          refine ⟨b, o', h1, ?_, hh', hc'.mono sm⟩
          rw [upd_ne]
          · exact hf'
          · rintro rfl
            rw [h1] at exj
            exact z (R.inj i j _ _ _ _ _ es ej ex exj)
    · have nj : i ≠ j := fun z => by
        subst z
        rw [List.getElem?_set] at ej
        split at ej
        · split at ej <;> cases ej
        · exact absurd rfl (by assumption)
      have nk : i ≠ k := fun z => by
        subst z
        rw [List.getElem?_set] at ek
        split at ek
        · split at ek <;> cases ek
        · exact absurd rfl (by assumption)
      rw [get_set_ne nj] at ej
      rw [get_set_ne nk] at ek
      exact R.inj j k f g c1 d1 b ej ek sj sk
    · by_cases z : b = a
      · subst z; rw [upd_same] at q; cases q; exact hc.notbl
      · rw [upd_ne z] at q; exact R.ftb b u q
theorem frz_ok (R : Rel K mg F e σ H) {σ0 : St} (q : RVOk K mg (NM H0 e0 σ0) F H e σ v r) (w : frz r e = .ok d e') (s : Stp F0 H0 e0 σ0 F H e σ) :
    ∃ F', Stp F0 H0 e0 σ0 F' H e' σ ∧ Rel K mg F' e' σ H ∧ Rep K mg F' v d := by
  cases r with
  | val x => cases w; exact ⟨F, s, R, q⟩
  | own c =>
    cases w
    obtain ⟨a, o, rfl, hf, hh, hc, hn, hN⟩ := q
    exact ⟨upd F a o, Stp.freeze R hh hf s hN, R.freeze hh hn hf hc.notbl, hc.rep hf⟩
  | pk i =>
    have q : σ[i]? = some (some v) := q
    unfold frz at w
    dsimp only at w
    split at w
    · rename_i x es
      cases w
      obtain ⟨u, h1, h2⟩ := R.ok i _ _ es q
      cases h1
      exact ⟨F, s, R, h2⟩
    · rename_i c es
      cases w
      exact frz_own R es q s
    · cases w
theorem frz_noex {x : Xn} (w : frz r e = .ex x e') : False := by
  unfold frz at w
  cases r with
  | val x => cases w
  | own c => cases w
  | pk i =>
    dsimp only at w
    split at w <;> cases w
end
end Y

set_option Elab.async false
set_option linter.all false
set_option maxRecDepth 100000
set_option maxHeartbeats 4000000
namespace Y
open PySem PySem.Spec L2
set_option autoImplicit false
variable [TB]
section
variable {K : PySem.W.Frag} {mg : Mg} {W : WX} {F H : Hp} {e : Sl} {σ : St} {Q : VK} {d : D} {v : V} {ds : List D} {vs : List V}
theorem post_val (R : Rel K mg F e σ H) (h : post K mg W (rV K mg) F H e σ (.ok (.val d) e) Q) (r : Rep K mg F v d) : Q v H := post_ret R h r
theorem post_newL (R : Rel K mg F e σ H) (h : post K mg W (rV K mg) F H e σ (.ok (.own (.lst ds)) e) Q) (r : Reps K mg F vs ds) {p : Addr} (hp : H p = none) : Q (.ref p) (upd H p (.lst vs)) :=
  h _ F _ (Stp.new R hp) (R.new hp) ⟨p, _, rfl, R.free hp, upd_same, ⟨vs, rfl, r⟩, R.notOwn hp, .inl hp⟩
theorem post_newT (R : Rel K mg F e σ H) (h : post K mg W (rV K mg) F H e σ (.ok (.val (.tup ds)) e) Q) (r : Reps K mg F vs ds) {p : Addr} (hp : H p = none) : Q (.ref p) (upd H p (.tup vs)) :=
  h _ (upd F p (.tup vs)) _ (Stp.freeze (R.new hp) upd_same (R.free hp) (Stp.new R hp) (.inl hp)) ((R.new hp).freeze upd_same (R.notOwn hp) (R.free hp) (fun ps z => by cases z)) (.tup (SqT.of upd_same) (r.mono (same_upd' (R.free hp))))
end
/-! reading one or two values -/
def rd1 (f : M RV) (k : D → M RV) : M RV := M.bind f fun r => fun e => match rdat e r with
  | some d => k d e
  | none => .bad
def rd2 (f g : M RV) (k : D → D → M RV) : M RV := M.bind f fun r => M.bind g fun r' => fun e => match rdat e r, rdat e r' with
  | some d, some d' => k d d' e
  | _, _ => .bad
def K1 (K : PySem.W.Frag) (mg : Mg) (W : WX) (r : V → Hp → VK → Prop) (k : D → M RV) : Prop := ∀ (F H : Hp) (e : Sl) (σ : St) (x : V) (d : D) (Q : VK), Rel K mg F e σ H → RdOk K mg F H x d → post K mg W (rV K mg) F H e σ (k d e) Q → r x H Q
def K2 (K : PySem.W.Frag) (mg : Mg) (W : WX) (r : R2) (k : D → D → M RV) : Prop := ∀ (F H : Hp) (e : Sl) (σ : St) (x y : V) (d d' : D) (Q : VK), Rel K mg F e σ H → RdOk K mg F H x d → RdOk K mg F H y d' → post K mg W (rV K mg) F H e σ (k d d' e) Q → r x y H Q
section
variable {K : PySem.W.Frag} {mg : Mg} {W : WX} {f g : M RV} {σ : St} {H : Hp} {Q : VK}
theorem rd1_ok {r : V → Hp → VK → Prop} {k : D → M RV} (hk : K1 K mg W r k) (h : cE K mg W (rd1 f k) σ H Q) : cE K mg W f σ H fun x H1 => r x H1 Q := by
  obtain ⟨e, F, R, h⟩ := h
  refine ⟨e, F, R, post_imp (post_seq up_V h) ?_⟩
  rintro x H1 ⟨r1, e1, F1, q1, R1, s1, h1⟩
  cases w : rdat e1 r1 with
  | none => rw [w] at h1; exact h1.elim
  | some d => rw [w] at h1; exact hk F1 H1 e1 σ x d Q R1 (R1.rd q1 w) h1
theorem rd2_ok {r : R2} {k : D → D → M RV} (hk : K2 K mg W r k) (h : cE K mg W (rd2 f g k) σ H Q) : cE K mg W f σ H fun x H1 => cE K mg W g σ H1 fun y H2 => r x y H2 Q := by
  obtain ⟨e, F, R, h⟩ := h
  refine ⟨e, F, R, post_imp (post_seq up_V h) ?_⟩
  rintro x H1 ⟨r1, e1, F1, q1, R1, s1, h1⟩
  refine ⟨e1, F1, R1, post_imp (post_seq up_V h1) ?_⟩
  rintro y H2 ⟨r2, e2, F2, q2, R2, s2, h2⟩
  have q1 := q1.step s2
  cases w : rdat e2 r1 with
  | none => rw [w] at h2; exact h2.elim
  | some d =>
    cases w' : rdat e2 r2 with
    | none => rw [w, w'] at h2; exact h2.elim
    | some d' => rw [w, w'] at h2; exact hk F2 H2 e2 σ x y d d' Q R2 (R2.rd q1 w) (R2.rd q2 w') h2
end
/-! names and constants -/
def eVar (i : Nat) : M RV := fun e => match e[i]? with
  | some (.val d) => .ok (.val d) e
  | some (.own _ _) => .ok (.pk i) e
  | _ => .bad
def eC (d : D) : M RV := M.ret (.val d)
section
variable {X : Cx} {W : WX} {a b : Expr} {f g : M RV} {pos : Pos}
theorem de_var (i : Nat) {x : Str} (hN : X.N[i]? = some x := by rfl) (hv : Vis X.env.scope x := by first | exact Or.inl rfl | exact Or.inr (Or.inl rfl) | exact Or.inr (Or.inr rfl)) (hd : (x == ("__debug__" : Str)) = false := by decide)
    (hcd : (x == ("__classdict__" : Str)) = false := by decide) : DE X W (.Name x pos) (eVar i) := peW (pe_var hN hv hd hcd) fun σ H Q ⟨e, F, R, h⟩ => by
  unfold eVar at h
  cases es : e[i]? with
  | none => rw [es] at h; exact h.elim
  | some s =>
    rw [es] at h
    have hl : i < σ.length := by rw [← R.len]; exact (List.getElem?_eq_some_iff.mp es).1
    have ok := R.ok i s _ es (List.getElem?_eq_getElem hl)
    cases s with
    | no => exact h.elim
    | val d =>
      obtain ⟨v, h1, h2⟩ := ok
      exact ⟨v, by rw [List.getElem?_eq_getElem hl, h1], post_val R h h2⟩
    | own fx c =>
      obtain ⟨p, o, h1, _⟩ := ok
      have hs : σ[i]? = some (some (.ref p)) := by rw [List.getElem?_eq_getElem hl, h1]
      exact ⟨_, hs, post_ret R h hs⟩
theorem cE_c {d : D} {v : V} (hr : ∀ F, Rep X.K X.mg F v d) {σ : St} {H : Hp} {Q : VK} (h : cE X.K X.mg W (eC d) σ H Q) : Q v H := by
  obtain ⟨e, F, R, h⟩ := h
  exact post_val R h (hr F)
theorem de_int {i : Int} {j : Nat} : DE X W (.Constant (.int i) j pos) (eC (.int i)) := peW pe_int fun _ _ _ h => cE_c (fun _ => .int i) h
theorem de_bl {i : Bool} {j : Nat} : DE X W (.Constant (.bool i) j pos) (eC (.bl i)) := peW pe_bl fun _ _ _ h => cE_c (fun _ => .bl i) h
theorem de_str {i : Str} {j : Nat} : DE X W (.Constant (.str i) j pos) (eC (.str i)) := peW pe_str fun _ _ _ h => cE_c (fun _ => .str i) h
theorem de_non {j : Nat} : DE X W (.Constant .none j pos) (eC .non) := peW pe_non fun _ _ _ h => cE_c (fun _ => .non) h
/-- a module's name -/
theorem de_glob {x : Str} {v : V} {u : Value} {d : D} (hg : Gl X x) (hm : X.mg x = some u) (r : RelV v u) (hr : ∀ F, Rep X.K X.mg F v d) (hd : (x == ("__debug__" : Str)) = false := by decide) : DE X W (.Name x pos) (eC d) :=
  peW (pe_glob hg hm r hd) fun _ _ _ h => cE_c hr h
theorem de_globI {x : Str} {i : Int} {t : Tok} (hg : Gl X x) (hm : X.mg x = some (.int i t)) (hd : (x == ("__debug__" : Str)) = false := by decide) : DE X W (.Name x pos) (eC (.int i)) := de_glob (v := .int i) hg hm ⟨t, rfl⟩ (fun _ => .int i) hd
/-- a built-in class, as a value -/
theorem de_bltn {x : Str} {v : V} {u : Value} (hg : Gl X x) (hm : X.mg x = none) (hv : bootBuiltins x = some u) (r : RelV v u) (hn : x ≠ "__name__" := by decide) (hd : (x == ("__debug__" : Str)) = false := by decide) : DE X W (.Name x pos) (eC (.raw v)) :=
  peW (pe_bltn hg hm hv r hn hd) fun _ _ _ h => cE_c (fun _ => .raw v) h
/-! operators -/
theorem de_bin {op : Operator} {r : R2} {k : D → D → M RV} (ho : OpR X (binaryOp op) r) (hk : K2 X.K X.mg W r k) (ha : DE X W a f) (hb : DE X W b g) : DE X W (.BinOp a op b pos) (rd2 f g k) := peW (pe_op ho ha hb) fun _ _ _ h => rd2_ok hk h
theorem de_un {op : UnaryOp} {r : V → Hp → VK → Prop} {k : D → M RV} (ho : UnR X (unaryOp op) r) (hk : K1 X.K X.mg W r k) (ha : DE X W a f) : DE X W (.UnaryOp op a pos) (rd1 f k) := peW (pe_un ho ha) fun _ _ _ h => rd1_ok hk h
theorem de_cmp {op : CmpOp} {r : R2} {k : D → D → M RV} (ho : OpR X (compareOp op) r) (hk : K2 X.K X.mg W r k) (ha : DE X W a f) (hb : DE X W b g) (hm : behindInMarks op b = false) : DE X W (.Compare a [op] [b] pos) (rd2 f g k) := peW (pe_cmpR ho ha hb hm) fun _ _ _ h => rd2_ok hk h
def asB (f : M RV) : M Bool := M.bind f fun r => fun e => match rdat e r with
  | some (.bl b) => .ok b e
  | _ => .bad
theorem asB_ok {K : PySem.W.Frag} {mg : Mg} {σ : St} {H : Hp} {Q : Bool → Hp → Prop} (h : cT K mg W (asB f) σ H Q) : cE K mg W f σ H fun x H1 => ∃ k, x = .bl k ∧ Q k H1 := by
  obtain ⟨e, F, R, h⟩ := h
  refine ⟨e, F, R, post_imp (post_seq up_B h) ?_⟩
  rintro x H1 ⟨r1, e1, F1, q1, R1, s1, h1⟩
  split at h1
  · rename_i b w
    exact ⟨b, R1.rd q1 w, post_ret R1 h1 rfl⟩
  · exact h1.elim
theorem dt_cmp {op : CmpOp} {r : R2} {k : D → D → M RV} (ho : OpR X (compareOp op) r) (hk : K2 X.K X.mg W r k) (ha : DE X W a f) (hb : DE X W b g) (hm : behindInMarks op b = false) : DT X W (.Compare a [op] [b] pos) (asB (rd2 f g k)) :=
  ptW (pt_cmpR ho ha hb hm) fun σ H Q h => rd2_ok hk (asB_ok h)
/-- an expression whose test is its truth (here: a bool) -/
theorem dt_val (ha : DE X W a f) (he : ∀ whole, isTrue a X.env whole = (do let v ← whole; standAt a.pos; holding [v] (truthy v)) := by intro _; rfl) : DT X W a (asB f) :=
  ptW (pt_val ha he) fun _ _ _ h => asB_ok h
def mNot (f : M Bool) : M Bool := M.bind f fun c => M.ret (!c)
def mAnd (f g : M Bool) : M Bool := M.bind f fun c => if c then g else M.ret false
def mOr (f g : M Bool) : M Bool := M.bind f fun c => if c then M.ret true else g
variable {p q : M Bool} {rest : List Expr}
theorem dt_not (ha : DT X W a p) : DT X W (.UnaryOp .Not a pos) (mNot p) := ptW (pt_not ha) fun σ H Q ⟨e, F, R, h⟩ => by
  refine ⟨e, F, R, post_imp (post_seq up_B h) ?_⟩
  rintro c H1 ⟨c', e1, F1, q1, R1, s1, h1⟩
  cases q1
  exact post_ret R1 h1 rfl
theorem dw_and1 (ha : DT X W a p) : DW X W (.BoolOp .And [a] pos) p := pw_and1 ha
theorem dw_or1 (ha : DT X W a p) : DW X W (.BoolOp .Or [a] pos) p := pw_or1 ha
theorem dw_and (ha : DT X W a p) (hb : DW X W (.BoolOp .And (b :: rest) pos) q) : DW X W (.BoolOp .And (a :: b :: rest) pos) (mAnd p q) := pwW (pw_and ha hb) fun σ H Q ⟨e, F, R, h⟩ => by
  refine ⟨e, F, R, post_imp (post_seq up_B h) ?_⟩
  rintro c H1 ⟨c', e1, F1, q1, R1, s1, h1⟩
  cases q1
  cases c with
  | true => exact iteT ⟨e1, F1, R1, h1⟩
  | false => exact iteF (post_ret R1 h1 rfl)
theorem dw_or (ha : DT X W a p) (hb : DW X W (.BoolOp .Or (b :: rest) pos) q) : DW X W (.BoolOp .Or (a :: b :: rest) pos) (mOr p q) := pwW (pw_or ha hb) fun σ H Q ⟨e, F, R, h⟩ => by
  refine ⟨e, F, R, post_imp (post_seq up_B h) ?_⟩
  rintro c H1 ⟨c', e1, F1, q1, R1, s1, h1⟩
  cases q1
  cases c with
  | true => exact iteT (post_ret R1 h1 rfl)
  | false => exact iteF ⟨e1, F1, R1, h1⟩
theorem DW.dt (h : DW X W a p) : DT X W a p := PW.pt h
/-- .. as values -/
def eAnd (f g : M RV) : M RV := M.bind f fun r => fun e => match rdat e r with
  | some (.bl true) => g e
  | some (.bl false) => .ok (.val (.bl false)) e
  | _ => .bad
def eOr (f g : M RV) : M RV := M.bind f fun r => fun e => match rdat e r with
  | some (.bl false) => g e
  | some (.bl true) => .ok (.val (.bl true)) e
  | _ => .bad
def eNot (f : M RV) : M RV := M.bind f fun r => fun e => match rdat e r with
  | some (.bl b) => .ok (.val (.bl (!b))) e
  | _ => .bad
theorem de_one {op : BoolOp} (ha : DE X W a f) : DE X W (.BoolOp op [a] pos) f := pe_one ha
theorem de_and (ha : DE X W a f) (hb : DE X W (.BoolOp .And (b :: rest) pos) g) : DE X W (.BoolOp .And (a :: b :: rest) pos) (eAnd f g) := peW (pe_and ha hb) fun σ H Q ⟨e, F, R, h⟩ => by
  refine ⟨e, F, R, post_imp (post_seq up_V h) ?_⟩
  rintro x H1 ⟨r1, e1, F1, q1, R1, s1, h1⟩
  split at h1
  · rename_i w; exact ⟨true, R1.rd q1 w, iteT ⟨e1, F1, R1, h1⟩⟩
  · rename_i w; exact ⟨false, R1.rd q1 w, iteF (post_val R1 h1 (.bl false))⟩
  · exact h1.elim
theorem de_or (ha : DE X W a f) (hb : DE X W (.BoolOp .Or (b :: rest) pos) g) : DE X W (.BoolOp .Or (a :: b :: rest) pos) (eOr f g) := peW (pe_or ha hb) fun σ H Q ⟨e, F, R, h⟩ => by
  refine ⟨e, F, R, post_imp (post_seq up_V h) ?_⟩
  rintro x H1 ⟨r1, e1, F1, q1, R1, s1, h1⟩
  split at h1
  · rename_i w; exact ⟨false, R1.rd q1 w, iteF ⟨e1, F1, R1, h1⟩⟩
  · rename_i w; exact ⟨true, R1.rd q1 w, iteT (post_val R1 h1 (.bl true))⟩
  · exact h1.elim
theorem de_not (ha : DE X W a f) : DE X W (.UnaryOp .Not a pos) (eNot f) := peW (pe_not ha) fun σ H Q ⟨e, F, R, h⟩ => by
  refine ⟨e, F, R, post_imp (post_seq up_V h) ?_⟩
  rintro x H1 ⟨r1, e1, F1, q1, R1, s1, h1⟩
  split at h1
  · rename_i b w; exact ⟨b, R1.rd q1 w, post_val R1 h1 (.bl _)⟩
  · exact h1.elim
def eIf (p : M Bool) (f g : M RV) : M RV := M.bind p fun c => if c then f else g
theorem de_ifExp {c : Expr} (hc : DT X W c p) (ha : DE X W a f) (hb : DE X W b g) : DE X W (.IfExp c a b pos) (eIf p f g) := peW (pe_ifExp hc ha hb) fun σ H Q ⟨e, F, R, h⟩ => by
  refine ⟨e, F, R, post_imp (post_seq up_V h) ?_⟩
  rintro c H1 ⟨c', e1, F1, q1, R1, s1, h1⟩
  cases q1
  cases c with
  | true => exact iteT ⟨e1, F1, R1, h1⟩
  | false => exact iteF ⟨e1, F1, R1, h1⟩
end
/-! ### ints -/
def kI2 (g : Int → Int → Option D) : D → D → M RV
  | .int i, .int j => match g i j with
    | some d => M.ret (.val d)
    | none => M.bad
  | _, _ => M.bad
def kI1 (g : Int → D) : D → M RV
  | .int i => M.ret (.val (g i))
  | _ => M.bad
section
variable {K : PySem.W.Frag} {mg : Mg} {W : WX}
theorem k2_I {C : Int → Int → Prop} {g : Int → Int → Option D} {h : Int → Int → V} (hg : ∀ i j d, g i j = some d → C i j ∧ ∀ F, Rep K mg F (h i j) d) : K2 K mg W (rI C h) (kI2 g) := fun F H e σ x y d d' Q R rx ry h => by
  unfold kI2 at h
  split at h
  · rename_i i j
    cases q : g i j with
    | none => rw [q] at h; exact h.elim
    | some d => rw [q] at h; exact ⟨i, j, rx, ry, (hg i j d q).1, post_val R h ((hg i j d q).2 F)⟩
  · exact h.elim
theorem k2_I0 {g : Int → Int → D} {h : Int → Int → V} (hg : ∀ i j F, Rep K mg F (h i j) (g i j)) : K2 K mg W (rI0 h) (kI2 fun i j => some (g i j)) := fun F H e σ x y d d' Q R rx ry h => by
  unfold kI2 at h
  split at h
  · rename_i i j
    exact ⟨i, j, rx, ry, post_val R h (hg i j F)⟩
  · exact h.elim
theorem k1_I {g : Int → D} {h : Int → V} (hg : ∀ i F, Rep K mg F (h i) (g i)) : K1 K mg W (rU h) (kI1 g) := fun F H e σ x d Q R rx h => by
  unfold kI1 at h
  split at h
  · rename_i i
    exact ⟨i, rx, post_val R h (hg i F)⟩
  · exact h.elim
end
def subI : D → D → M RV := kI2 fun i j => some (.int (i - j))
def mulI : D → D → M RV := kI2 fun i j => if (-(2 ^ 64) < i ∧ i < 2 ^ 64) ∨ (-(2 ^ 64) < j ∧ j < 2 ^ 64) then some (.int (i * j)) else none
def fdivI : D → D → M RV := kI2 fun i j => if 0 < j ∧ j < 1073741824 then some (.int (i / j)) else none
def modI : D → D → M RV := kI2 fun i j => if 0 < j then some (.int (i % j)) else none
def powI : D → D → M RV := kI2 fun i j => if 0 ≤ j ∧ j ≤ 1000000 ∧ i.natAbs < 2 ^ 64 then some (.int (i ^ j.toNat)) else none
def ltI : D → D → M RV := kI2 fun i j => some (.bl (decide (i < j)))
def leI : D → D → M RV := kI2 fun i j => some (.bl (decide (i ≤ j)))
def gtI : D → D → M RV := kI2 fun i j => some (.bl (decide (j < i)))
def geI : D → D → M RV := kI2 fun i j => some (.bl (decide (j ≤ i)))
def negI : D → M RV := kI1 fun i => .int (-i)
section
variable {X : Cx} {W : WX} {a b : Expr} {f g : M RV} {pos : Pos}
theorem de_sub (ha : DE X W a f) (hb : DE X W b g) : DE X W (.BinOp a .Sub b pos) (rd2 f g subI) := de_bin op_sub (k2_I0 fun _ _ _ => .int _) ha hb
theorem de_mulI (ha : DE X W a f) (hb : DE X W b g) : DE X W (.BinOp a .Mult b pos) (rd2 f g mulI) := de_bin op_mul (k2_I fun i j d h => by
  split at h
  · rename_i c; cases h; exact ⟨c, fun _ => .int _⟩
  · cases h) ha hb
theorem de_fdiv (ha : DE X W a f) (hb : DE X W b g) : DE X W (.BinOp a .FloorDiv b pos) (rd2 f g fdivI) := de_bin op_fdiv (k2_I fun i j d h => by
  split at h
  · rename_i c; cases h; exact ⟨c, fun _ => .int _⟩
  · cases h) ha hb
theorem de_mod (ha : DE X W a f) (hb : DE X W b g) : DE X W (.BinOp a .Mod b pos) (rd2 f g modI) := de_bin op_mod (k2_I fun i j d h => by
  split at h
  · rename_i c; cases h; exact ⟨c, fun _ => .int _⟩
  · cases h) ha hb
theorem de_pow (ha : DE X W a f) (hb : DE X W b g) : DE X W (.BinOp a .Pow b pos) (rd2 f g powI) := de_bin op_pow (k2_I fun i j d h => by
  split at h
  · rename_i c; cases h; exact ⟨c, fun _ => .int _⟩
  · cases h) ha hb
theorem de_neg (ha : DE X W a f) : DE X W (.UnaryOp .USub a pos) (rd1 f negI) := de_un un_neg (k1_I fun _ _ => .int _) ha
theorem de_lt (ha : DE X W a f) (hb : DE X W b g) : DE X W (.Compare a [.Lt] [b] pos) (rd2 f g ltI) := de_cmp op_lt (k2_I0 fun _ _ _ => .bl _) ha hb (nomark _)
theorem de_le (ha : DE X W a f) (hb : DE X W b g) : DE X W (.Compare a [.LtE] [b] pos) (rd2 f g leI) := de_cmp op_le (k2_I0 fun _ _ _ => .bl _) ha hb (nomark _)
theorem de_gt (ha : DE X W a f) (hb : DE X W b g) : DE X W (.Compare a [.Gt] [b] pos) (rd2 f g gtI) := de_cmp op_gt (k2_I0 fun _ _ _ => .bl _) ha hb (nomark _)
theorem de_ge (ha : DE X W a f) (hb : DE X W b g) : DE X W (.Compare a [.GtE] [b] pos) (rd2 f g geI) := de_cmp op_ge (k2_I0 fun _ _ _ => .bl _) ha hb (nomark _)
theorem dt_lt (ha : DE X W a f) (hb : DE X W b g) : DT X W (.Compare a [.Lt] [b] pos) (asB (rd2 f g ltI)) := dt_cmp op_lt (k2_I0 fun _ _ _ => .bl _) ha hb (nomark _)
theorem dt_le (ha : DE X W a f) (hb : DE X W b g) : DT X W (.Compare a [.LtE] [b] pos) (asB (rd2 f g leI)) := dt_cmp op_le (k2_I0 fun _ _ _ => .bl _) ha hb (nomark _)
theorem dt_gt (ha : DE X W a f) (hb : DE X W b g) : DT X W (.Compare a [.Gt] [b] pos) (asB (rd2 f g gtI)) := dt_cmp op_gt (k2_I0 fun _ _ _ => .bl _) ha hb (nomark _)
theorem dt_ge (ha : DE X W a f) (hb : DE X W b g) : DT X W (.Compare a [.GtE] [b] pos) (asB (rd2 f g geI)) := dt_cmp op_ge (k2_I0 fun _ _ _ => .bl _) ha hb (nomark _)
end
end Y

set_option Elab.async false
set_option linter.all false
set_option maxRecDepth 100000
set_option maxHeartbeats 4000000
namespace Y
open PySem PySem.Spec L2
set_option autoImplicit false
variable [TB]
/-! ### data as the model's own -/
mutual
def toPy : D → Option PyData
  | .non => some .none
  | .bl b => some (.bool b)
  | .int i => some (.int i)
  | .str x => some (.str x)
  | .lst xs => (toPys xs).map .list
  | .tup xs => (toPys xs).map .tuple
  | .ins _ _ => none
  | .raw _ => none
  | .dK _ => none
  | .dT _ => none
  | .exc _ _ => none
def toPys : List D → Option (List PyData)
  | [] => some []
  | d :: ds => match toPy d, toPys ds with
    | some a, some b => some (a :: b)
    | _, _ => none
end
mutual
theorem Rep.dp {K : PySem.W.Frag} {mg : Mg} {H : Hp} {v : V} {d : D} {p : PyData} : Rep K mg H v d → toPy d = some p → Dp K H v p
  | .non, e => by cases e; exact .non
  | .bl b, e => by cases e; exact .bl b
  | .int i, e => by cases e; exact .int i
  | .str x, e => by cases e; exact .str x
  | .raw v, e => by cases e
  | .ins _ _ _, e => by cases e
  | .dK _ _, e => by cases e
  | .dT _ _, e => by cases e
  | .exc _ _ _ _, e => by cases e
  | .lst (ds := ds) a b, e => by
    unfold toPy at e
    cases q : toPys ds with
    | none => rw [q] at e; cases e
    | some xs => rw [q] at e; cases e; exact .lst a (Reps.dp b q)
  | .tup (ds := ds) a b, e => by
    unfold toPy at e
    cases q : toPys ds with
    | none => rw [q] at e; cases e
    | some xs => rw [q] at e; cases e; exact .tup a (Reps.dp b q)
theorem Reps.dp {K : PySem.W.Frag} {mg : Mg} {H : Hp} {vs : List V} {ds : List D} {ps : List PyData} : Reps K mg H vs ds → toPys ds = some ps → DpAll K H vs ps
  | .nil, e => by cases e; exact .nil
  | .cons (d := d) (ds := ds) a b, e => by
    unfold toPys at e
    cases q : toPy d with
    | none => rw [q] at e; cases e
    | some x =>
      cases q' : toPys ds with
      | none => rw [q, q'] at e; cases e
      | some xs => rw [q, q'] at e; cases e; exact .cons (Rep.dp a q) (Reps.dp b q')
end
def eqD (a b : D) : Option Bool := match toPy a, toPy b with
  | some x, some y => if SeqAt.shaped x = true ∧ SeqAt.shaped y = true then some (PyData.eqv x y) else none
  | _, _ => none
def kOB (g : D → D → Option Bool) : D → D → M RV := fun a b e => match g a b with
  | some c => .ok (.val (.bl c)) e
  | none => .bad
theorem kOB_some {K : PySem.W.Frag} {mg : Mg} {W : WX} {F H : Hp} {e : Sl} {σ : St} {Q : VK} {g : D → D → Option Bool} {a b : D} (h : post K mg W (rV K mg) F H e σ (kOB g a b e) Q) : ∃ c, g a b = some c ∧ post K mg W (rV K mg) F H e σ (.ok (.val (.bl c)) e) Q := by
  unfold kOB at h
  cases w : g a b with
  | none => rw [w] at h; exact h.elim
  | some c => rw [w] at h; exact ⟨c, rfl, h⟩
def eqK : D → D → M RV := kOB eqD
def neK : D → D → M RV := kOB fun a b => (eqD a b).map not
def inL (a b : D) : Option Bool := match toPy a, toPy b with
  | some x, some (.list ys) => if SeqAt.shaped x = true ∧ SeqAt.shaped (.list ys) = true then some (ys.any fun z => PyData.eqv z x) else none
  | some x, some (.tuple ys) => if SeqAt.shaped x = true ∧ SeqAt.shaped (.tuple ys) = true then some (ys.any fun z => PyData.eqv z x) else none
  | _, _ => none
def inK : D → D → M RV := kOB inL
def ninK : D → D → M RV := kOB fun a b => (inL a b).map not
section
variable {X : Cx} {W : WX} {a b : Expr} {f g : M RV} {pos : Pos}
def rInA (K : PySem.W.Frag) (neg : Bool) : R2 := fun x y H Q => ∃ d ds, Dp K H x d ∧ (Dp K H y (.list ds) ∨ Dp K H y (.tuple ds)) ∧ SeqAt.shaped d = true ∧ PyData.canLayAll0 ds = true ∧ Q (.bl (if neg then !ds.any (fun z => PyData.eqv z d) else ds.any fun z => PyData.eqv z d)) H
theorem op_inA (hu : X.A.units + 65 < cLine) : OpR X (compareOp .In) (rInA X.K false) := by
  intro pins s σ H x y v u Q I rx ry h
  obtain ⟨d, ds, hd, he, sd, se, q⟩ := h
  obtain ⟨as, r1⟩ := Dp.reads I d x v hd rx
  rcases he with he | he
  · obtain ⟨bs, r2⟩ := Dp.reads I _ y u he ry
    exact SeqAt.in_list_reads r2 r1 se (SeqAt.canLay_of_shaped sd) (PyProof.Rows.room_in_shaped sd hu) ⟨V.bl _, H, I, rfl, q⟩
  · obtain ⟨bs, r2⟩ := Dp.reads I _ y u he ry
    exact SeqAt.in_tuple_reads r2 r1 se (SeqAt.canLay_of_shaped sd) (PyProof.Rows.room_in_shaped sd hu) ⟨V.bl _, H, I, rfl, q⟩
theorem op_notInA (hu : X.A.units + 65 < cLine) : OpR X (compareOp .NotIn) (rInA X.K true) := by
  intro pins s σ H x y v u Q I rx ry h
  obtain ⟨d, ds, hd, he, sd, se, q⟩ := h
  obtain ⟨as, r1⟩ := Dp.reads I d x v hd rx
  rcases he with he | he
  · obtain ⟨bs, r2⟩ := Dp.reads I _ y u he ry
    exact SeqAt.notIn_list_reads r2 r1 se (SeqAt.canLay_of_shaped sd) (PyProof.Rows.room_in_shaped sd hu) ⟨V.bl _, H, I, rfl, q⟩
  · obtain ⟨bs, r2⟩ := Dp.reads I _ y u he ry
    exact SeqAt.notIn_tuple_reads r2 r1 se (SeqAt.canLay_of_shaped sd) (PyProof.Rows.room_in_shaped sd hu) ⟨V.bl _, H, I, rfl, q⟩
theorem eqD_some {K : PySem.W.Frag} {mg : Mg} {F H : Hp} {x y : V} {d d' : D} {c : Bool} (s : Same F H) (rx : RdOk K mg F H x d) (ry : RdOk K mg F H y d') (h : eqD d d' = some c) :
    ∃ p q, Dp K H x p ∧ Dp K H y q ∧ SeqAt.shaped p = true ∧ SeqAt.shaped q = true ∧ c = PyData.eqv p q := by
  unfold eqD at h
  split at h
  · rename_i p q ep eq
    split at h
    · rename_i c
      cases h
      exact ⟨p, q, (rx.rep s).dp ep, (ry.rep s).dp eq, c.1, c.2, rfl⟩
    · cases h
  · cases h
theorem k2_eq {K : PySem.W.Frag} {mg : Mg} : K2 K mg W (rEqD K) eqK := fun F H e σ x y d d' Q R rx ry h => by
  obtain ⟨c, w, h⟩ := kOB_some h
  obtain ⟨p, q, h1, h2, h3, h4, rfl⟩ := eqD_some R.sub rx ry w
  exact ⟨p, q, h1, h2, h3, h4, post_val R h (.bl _)⟩
theorem k2_ne {K : PySem.W.Frag} {mg : Mg} : K2 K mg W (rNeD K) neK := fun F H e σ x y d d' Q R rx ry h => by
  obtain ⟨c, w, h⟩ := kOB_some h
  obtain ⟨c', w', rfl⟩ := Option.map_eq_some_iff.mp w
  obtain ⟨p, q, h1, h2, h3, h4, rfl⟩ := eqD_some R.sub rx ry w'
  exact ⟨p, q, h1, h2, h3, h4, post_val R h (.bl _)⟩
theorem toPy_lst {b : D} {ys : List PyData} (h : toPy b = some (.list ys)) : ∃ ds, b = .lst ds ∧ toPys ds = some ys := by
  cases b with
  | lst ds =>
    unfold toPy at h
    obtain ⟨zs, q, e⟩ := Option.map_eq_some_iff.mp h
    cases e
    exact ⟨ds, rfl, q⟩
  | tup ds =>
    unfold toPy at h
    obtain ⟨zs, q, e⟩ := Option.map_eq_some_iff.mp h
    cases e
  | _ => simp [toPy] at h
theorem inL_some {K : PySem.W.Frag} {mg : Mg} {F H : Hp} {x y : V} {d d' : D} {c : Bool} (s : Same F H) (rx : RdOk K mg F H x d) (ry : RdOk K mg F H y d') (h : inL d d' = some c) :
    ∃ p ds, Dp K H x p ∧ (Dp K H y (.list ds) ∨ Dp K H y (.tuple ds)) ∧ SeqAt.shaped p = true ∧ PyData.canLayAll0 ds = true ∧ c = ds.any (fun z => PyData.eqv z p) := by
  unfold inL at h
  split at h
  · rename_i p ys ep eq
    split at h
    · rename_i c
      cases h
      exact ⟨p, ys, (rx.rep s).dp ep, .inl ((ry.rep s).dp eq), c.1, SeqAt.canLay_of_shaped c.2, rfl⟩
    · cases h
  · rename_i p ys ep eq
    split at h
    · rename_i c
      cases h
      exact ⟨p, ys, (rx.rep s).dp ep, .inr ((ry.rep s).dp eq), c.1, SeqAt.canLay_of_shaped c.2, rfl⟩
    · cases h
  · cases h
theorem k2_in {K : PySem.W.Frag} {mg : Mg} : K2 K mg W (rInA K false) inK := fun F H e σ x y d d' Q R rx ry h => by
  obtain ⟨c, w, h⟩ := kOB_some h
  obtain ⟨p, q, h1, h2, h3, h4, rfl⟩ := inL_some R.sub rx ry w
  exact ⟨p, q, h1, h2, h3, h4, post_val R h (.bl _)⟩
theorem k2_nin {K : PySem.W.Frag} {mg : Mg} : K2 K mg W (rInA K true) ninK := fun F H e σ x y d d' Q R rx ry h => by
  obtain ⟨c, w, h⟩ := kOB_some h
  obtain ⟨c', w', rfl⟩ := Option.map_eq_some_iff.mp w
  obtain ⟨p, q, h1, h2, h3, h4, rfl⟩ := inL_some R.sub rx ry w'
  exact ⟨p, q, h1, h2, h3, h4, post_val R h (.bl _)⟩
variable {k : Nat}
theorem de_eq (hr : Room k X.A) (ha : DE X W a f) (hb : DE X W b g) : DE X W (.Compare a [.Eq] [b] pos) (rd2 f g eqK) := de_cmp (op_eqD hr.units) k2_eq ha hb (nomark _)
theorem de_ne (hr : Room k X.A) (ha : DE X W a f) (hb : DE X W b g) : DE X W (.Compare a [.NotEq] [b] pos) (rd2 f g neK) := de_cmp (op_neD hr.units) k2_ne ha hb (nomark _)
theorem dt_eq (hr : Room k X.A) (ha : DE X W a f) (hb : DE X W b g) : DT X W (.Compare a [.Eq] [b] pos) (asB (rd2 f g eqK)) := dt_cmp (op_eqD hr.units) k2_eq ha hb (nomark _)
theorem dt_ne (hr : Room k X.A) (ha : DE X W a f) (hb : DE X W b g) : DT X W (.Compare a [.NotEq] [b] pos) (asB (rd2 f g neK)) := dt_cmp (op_neD hr.units) k2_ne ha hb (nomark _)
theorem room65 {A : Around} (hr : Room k A) : A.units + 65 < cLine := by have := hr.un; omega
theorem de_in (hr : Room k X.A) (ha : DE X W a f) (hb : DE X W b g) (hm : behindInMarks .In b = false := by rfl) : DE X W (.Compare a [.In] [b] pos) (rd2 f g inK) := de_cmp (op_inA (room65 hr)) k2_in ha hb hm
theorem de_nin (hr : Room k X.A) (ha : DE X W a f) (hb : DE X W b g) (hm : behindInMarks .NotIn b = false := by rfl) : DE X W (.Compare a [.NotIn] [b] pos) (rd2 f g ninK) := de_cmp (op_notInA (room65 hr)) k2_nin ha hb hm
theorem dt_in (hr : Room k X.A) (ha : DE X W a f) (hb : DE X W b g) (hm : behindInMarks .In b = false := by rfl) : DT X W (.Compare a [.In] [b] pos) (asB (rd2 f g inK)) := dt_cmp (op_inA (room65 hr)) k2_in ha hb hm
theorem dt_nin (hr : Room k X.A) (ha : DE X W a f) (hb : DE X W b g) (hm : behindInMarks .NotIn b = false := by rfl) : DT X W (.Compare a [.NotIn] [b] pos) (asB (rd2 f g ninK)) := dt_cmp (op_notInA (room65 hr)) k2_nin ha hb hm
/-! ### is None -/
def isN : D → M RV
  | .non => M.ret (.val (.bl true))
  | .raw _ => M.bad
  | _ => M.ret (.val (.bl false))
def notN : D → M RV
  | .non => M.ret (.val (.bl false))
  | .raw _ => M.bad
  | _ => M.ret (.val (.bl true))
theorem rd_non {K : PySem.W.Frag} {mg : Mg} {F H : Hp} {x : V} {d : D} (rx : RdOk K mg F H x d) (hr : ∀ v, d ≠ .raw v) : x = .non ↔ d = .non := by
  cases d with
  | non => exact ⟨fun _ => rfl, fun _ => rx⟩
  | raw v => exact absurd rfl (hr v)
  | bl b => cases rx; exact ⟨fun z => (by cases z), fun z => (by cases z)⟩
  | int b => cases rx; exact ⟨fun z => (by cases z), fun z => (by cases z)⟩
  | str b => cases rx; exact ⟨fun z => (by cases z), fun z => (by cases z)⟩
  | lst b => obtain ⟨_, _, rfl, _⟩ := rx; exact ⟨fun z => (by cases z), fun z => (by cases z)⟩
  | tup b => obtain ⟨_, _, rfl, _⟩ := rx; exact ⟨fun z => (by cases z), fun z => (by cases z)⟩
  | ins b c => obtain ⟨_, _, _, _, rfl, _⟩ := rx; exact ⟨fun z => (by cases z), fun z => (by cases z)⟩
  | dK b => obtain ⟨_, _, rfl, _⟩ := rx; exact ⟨fun z => (by cases z), fun z => (by cases z)⟩
  | dT b => obtain ⟨_, _, rfl, _⟩ := rx; exact ⟨fun z => (by cases z), fun z => (by cases z)⟩
  | exc b c => obtain ⟨_, _, _, _, rfl, _⟩ := rx; exact ⟨fun z => (by cases z), fun z => (by cases z)⟩
theorem isN_ok {σ : St} {H : Hp} {Q : VK} (h : cE X.K X.mg W (rd1 f isN) σ H Q) : cE X.K X.mg W f σ H fun x H1 => Q (.bl (decide (x = .non))) H1 :=
  rd1_ok (r := fun x H Q => Q (.bl (decide (x = .non))) H) (fun F H e σ x d Q R rx h => by
    cases d with
    | raw v => exact h.elim
    | non => cases rx; exact post_val R h (.bl true)
    | _ =>
      have z : ¬ x = .non := fun y => by have := (rd_non rx (by intro v q; cases q)).mp y; cases this
      rw [decide_eq_false z]
      exact post_val R h (.bl false)) h
theorem notN_ok {σ : St} {H : Hp} {Q : VK} (h : cE X.K X.mg W (rd1 f notN) σ H Q) : cE X.K X.mg W f σ H fun x H1 => Q (.bl (!decide (x = .non))) H1 :=
  rd1_ok (r := fun x H Q => Q (.bl (!decide (x = .non))) H) (fun F H e σ x d Q R rx h => by
    cases d with
    | raw v => exact h.elim
    | non => cases rx; exact post_val R h (.bl false)
    | _ =>
      have z : ¬ x = .non := fun y => by have := (rd_non rx (by intro v q; cases q)).mp y; cases this
      rw [decide_eq_false z]
      exact post_val R h (.bl true)) h
variable {j : Nat} {pos' : Pos}
theorem de_isN (ha : DE X W a f) : DE X W (.Compare a [.Is] [.Constant .none j pos'] pos) (rd1 f isN) := peW (pe_cmp (pc_isN ha)) fun _ _ _ h => isN_ok h
theorem de_notN (ha : DE X W a f) : DE X W (.Compare a [.IsNot] [.Constant .none j pos'] pos) (rd1 f notN) := peW (pe_cmp (pc_notN ha)) fun _ _ _ h => notN_ok h
theorem dt_isN (ha : DE X W a f) : DT X W (.Compare a [.Is] [.Constant .none j pos'] pos) (asB (rd1 f isN)) := ptW (pt_cmp (pc_isN ha)) fun _ _ _ h => isN_ok (asB_ok h)
theorem dt_notN (ha : DE X W a f) : DT X W (.Compare a [.IsNot] [.Constant .none j pos'] pos) (asB (rd1 f notN)) := ptW (pt_cmp (pc_notN ha)) fun _ _ _ h => notN_ok (asB_ok h)
/-! ### chains of ints: a <= b <= c -/
def chI (p q : Int → Int → Bool) (f g h : M RV) : M RV := M.bind f fun r => M.bind g fun r' => fun e => match rdat e r, rdat e r' with
  | some (.int i), some (.int j) => if p i j then (M.bind h fun r'' => fun e => match rdat e r'' with
    | some (.int l) => .ok (.val (.bl (q j l))) e
    | _ => .bad) e else .ok (.val (.bl false)) e
  | _, _ => .bad
theorem chI_ok {K : PySem.W.Frag} {mg : Mg} {p q : Int → Int → Bool} {h : M RV} {σ : St} {H : Hp} {Q : VK} (z : cE K mg W (chI p q f g h) σ H Q) :
    tChain (rI0 fun i j => .bl (p i j)) (rI0 fun i j => .bl (q i j)) (cE K mg W f) (cE K mg W g) (cE K mg W h) σ H Q := by
  obtain ⟨e, F, R, z⟩ := z
  refine ⟨e, F, R, post_imp (post_seq up_V z) ?_⟩
  rintro x H1 ⟨r1, e1, F1, q1, R1, s1, z1⟩
  refine ⟨e1, F1, R1, post_imp (post_seq up_V z1) ?_⟩
  rintro y H2 ⟨r2, e2, F2, q2, R2, s2, z2⟩
  have q1 := q1.step s2
  split at z2
  · rename_i i j wi wj
    refine ⟨i, j, R2.rd q1 wi, R2.rd q2 wj, p i j, rfl, ?_⟩
    cases c : p i j with
    | true =>
      rw [c] at z2
      refine iteT ⟨e2, F2, R2, post_imp (post_seq up_V z2) ?_⟩
      rintro w H3 ⟨r3, e3, F3, q3, R3, s3, z3⟩
      split at z3
      · rename_i l wl
        have q2' := q2.step s3
        exact ⟨j, l, R2.rd q2 wj, R3.rd q3 wl, post_val R3 z3 (.bl _)⟩
      · exact z3.elim
    | false =>
      rw [c] at z2
      exact iteF (post_val R2 z2 (.bl false))
  · exact z2.elim
end
end Y

set_option Elab.async false
set_option linter.all false
set_option maxRecDepth 100000
set_option maxHeartbeats 4000000
namespace Y
open PySem PySem.Spec L2
set_option autoImplicit false
variable [TB]
/-! ### arguments -/
def aV (f : M RV) : M RV := M.bind f fun r => M.bind (frz r) fun d => M.ret (.val d)
def aIO (i : Nat) : M RV := fun e => match e[i]? with
  | some (.own _ _) => .ok (.pk i) e
  | _ => .bad
def aNil : M (List RV) := M.ret []
def aCons (f : M RV) (g : M (List RV)) : M (List RV) := M.bind f fun r => M.bind g fun rs => M.ret (r :: rs)
section
variable {X : Cx} {W : WX} {a b : Expr} {es : List Expr} {f g : M RV} {fs : M (List RV)} {pos : Pos} {K : PySem.W.Frag} {mg : Mg}
theorem Args.mono {F F' : Hp} {σ : St} (s : Same F F') : ∀ {vs : List V} {rs : List RV}, Args K mg F σ vs rs → Args K mg F' σ vs rs
  | _, _, .nil => .nil
  | _, _, .cons (r := .val d) a b => .cons (show ArgOk K mg F' σ _ (.val d) from Rep.mono s a) (Args.mono s b)
  | _, _, .cons (r := .pk i) a b => .cons (show ArgOk K mg F' σ _ (.pk i) from a) (Args.mono s b)
  | _, _, .cons (r := .own c) a b => a.elim
/-- one more argument, by its canonical reading -/
theorem aCons_ok {σ : St} {H : Hp} {Q : List V → Hp → Prop} (h : cA K mg W (aCons (aV f) fs) σ H Q) : cE K mg W f σ H fun x H1 => cA K mg W fs σ H1 fun xs H2 => Q (x :: xs) H2 := by
  obtain ⟨e, F, R, h⟩ := h
  unfold aCons aV at h
  rw [bind_assoc] at h
  refine ⟨e, F, R, post_imp (post_seq0 h) ?_⟩
  rintro x H1 ⟨r1, e1, F1, q1, R1, s1, h1⟩
  rw [bind_assoc] at h1
  cases w : frz r1 e1 with
  | bad => unfold M.bind at h1; rw [w] at h1; exact h1.elim
  | ex x e' => exact (frz_noex w).elim
  | ok d e2 =>
    obtain ⟨F2, s2, R2, q2⟩ := frz_ok R1 q1 w s1
    have h2 : post K mg W (rA K mg) F H e σ ((M.bind fs fun rs => M.ret (RV.val d :: rs)) e2) Q := by
      have z := h1
      unfold M.bind at z
      rw [w] at z
      exact z
    refine ⟨e2, F2, R2, post_imp (post_seq up_A (post_from up_A s2 h2)) ?_⟩
    rintro xs H3 ⟨rs, e3, F3, q3, R3, s3, h3⟩
    exact post_ret R3 h3 (.cons (show ArgOk K mg F3 σ x (.val d) from q2.mono s3.fro) q3)
theorem da_nil : DA X W [] aNil := paW pa_nil fun σ H Q ⟨e, F, R, h⟩ => post_ret R h .nil
theorem da_cons (ha : DE X W a f) (hr : DA X W es fs) (hs : starEach (a :: es) X.env = (false, eval a X.env) :: starEach es X.env := by rfl) : DA X W (a :: es) (aCons (aV f) fs) :=
  paW (pa_cons ha hr hs) fun _ _ _ h => aCons_ok h
/-- a slot is lent -/
theorem da_lend (i : Nat) {x : Str} (hr : DA X W es fs) (hN : X.N[i]? = some x := by rfl) (hv : Vis X.env.scope x := by first | exact Or.inl rfl | exact Or.inr (Or.inl rfl) | exact Or.inr (Or.inr rfl)) (hd : (x == ("__debug__" : Str)) = false := by decide)
    (hcd : (x == ("__classdict__" : Str)) = false := by decide) (hs : starEach (.Name x pos :: es) X.env = (false, eval (.Name x pos) X.env) :: starEach es X.env := by rfl) : DA X W (.Name x pos :: es) (aCons (aIO i) fs) :=
  paW (pa_cons (pe_var hN hv hd hcd) hr hs) fun σ H Q ⟨e, F, R, h⟩ => by
    unfold aCons M.bind aIO at h
    cases es : e[i]? with
    | none => rw [es] at h; exact h.elim
    | some s =>
      cases s with
      | no => rw [es] at h; exact h.elim
      | val d => rw [es] at h; exact h.elim
      | own fx c =>
        rw [es] at h
        have hl : i < σ.length := by rw [← R.len]; exact (List.getElem?_eq_some_iff.mp es).1
        obtain ⟨p, o, h1, _⟩ := R.ok i _ _ es (List.getElem?_eq_getElem hl)
        have hs : σ[i]? = some (some (.ref p)) := by rw [List.getElem?_eq_getElem hl, h1]
        refine ⟨_, hs, e, F, R, post_imp (post_seq (k := fun rs => M.ret (RV.pk i :: rs)) up_A h) ?_⟩
        rintro xs H3 ⟨rs, e3, F3, q3, R3, s3, h3⟩
        exact post_ret R3 h3 (.cons (show ArgOk X.K X.mg F3 σ _ (.pk i) from hs) q3)
end
/-! ### displays -/
def valsOf : List RV → Option (List D)
  | [] => some []
  | .val d :: rs => (valsOf rs).map (d :: ·)
  | _ => none
theorem Args.reps {K : PySem.W.Frag} {mg : Mg} {F : Hp} {σ : St} : ∀ {vs : List V} {rs : List RV} {ds : List D}, Args K mg F σ vs rs → valsOf rs = some ds → Reps K mg F vs ds
  | _, _, _, .nil, e => by cases e; exact .nil
  | _, _, _, .cons (r := .val d) (rs := rs) a b, e => by
    unfold valsOf at e
    obtain ⟨zs, q, e⟩ := Option.map_eq_some_iff.mp e
    subst e
    exact .cons a (Args.reps b q)
  | _, _, _, .cons (r := .pk i) a b, e => by cases e
  | _, _, _, .cons (r := .own c) a b, e => a.elim
def eTup (g : M (List RV)) : M RV := M.bind g fun rs => fun e => match valsOf rs with
  | some ds => if ds.length ≤ sizeLine then .ok (.val (.tup ds)) e else .bad
  | none => .bad
def eLst (g : M (List RV)) : M RV := M.bind g fun rs => fun e => match valsOf rs with
  | some ds => if ds.length ≤ sizeLine then .ok (.own (.lst ds)) e else .bad
  | none => .bad
section
variable {X : Cx} {W : WX} {a b c : Expr} {es : List Expr} {f g h : M RV} {fs : M (List RV)} {pos : Pos}
theorem de_tup {j : Nat} (h : DA X W es fs) : DE X W (.Tuple es j pos) (eTup fs) := peW (pe_tup h) fun σ H Q ⟨e, F, R, h⟩ => by
  refine ⟨e, F, R, post_imp (post_seq up_V h) ?_⟩
  rintro xs H1 ⟨rs, e1, F1, q1, R1, s1, h1⟩
  cases w : valsOf rs with
  | none => rw [w] at h1; exact h1.elim
  | some ds =>
    rw [w] at h1
    dsimp only at h1
    split at h1
    · have rp := q1.reps w
      exact ⟨by rw [rp.length]; assumption, fun p hp => post_newT R1 h1 rp hp⟩
    · exact h1.elim
theorem de_lst (h : DA X W es fs) : DE X W (.List es pos) (eLst fs) := peW (pe_lst h) fun σ H Q ⟨e, F, R, h⟩ => by
  refine ⟨e, F, R, post_imp (post_seq up_V h) ?_⟩
  rintro xs H1 ⟨rs, e1, F1, q1, R1, s1, h1⟩
  cases w : valsOf rs with
  | none => rw [w] at h1; exact h1.elim
  | some ds =>
    rw [w] at h1
    dsimp only at h1
    split at h1
    · have rp := q1.reps w
      exact ⟨by rw [rp.length]; assumption, fun p hp => post_newL R1 h1 rp hp⟩
    · exact h1.elim
/-! ### + -/
def rCatS (K : PySem.W.Frag) : R2 := fun x y H Q => ∃ l b xs zs, x = .ref l ∧ y = .ref b ∧ SqL K H l xs ∧ SqL K H b zs ∧ xs.length + zs.length ≤ sizeLine ∧ ∀ p, H p = none → Q (.ref p) (upd H p (.lst (xs ++ zs)))
theorem op_catS : OpR X (binaryOp .Add) (rCatS X.K) := by
  intro pins s σ H x y v u Q I rx ry h
  obtain ⟨l, b, xs, zs, rfl, rfl, hH, hB, hz, q⟩ := h
  cases rx
  cases ry
  obtain ⟨its, r, pl, _⟩ := I.list hH
  obtain ⟨its2, r2, pl2, _⟩ := I.list hB
  obtain ⟨⟨cls, dd, data, sl⟩, ho, hc, n, hd⟩ := pl.isList
  obtain ⟨⟨cls2, dd2, data2, sl2⟩, ho2, hc2, n2, hd2⟩ := pl2.isList
  simp only at hc hd hc2 hd2
  subst hc hd hc2 hd2
  have hl := r.length
  have hl2 := r2.length
  have ea : its.toArray ++ its2.toArray = (its ++ its2).toArray := by simp
  refine PySem.concat_meets ⟨_, ho, rfl⟩ ⟨_, ho2, rfl⟩ PySem.noFill_list_add PySem.seq_list_add PySem.F.slot_list_add PySem.F.entry_list_add (PySem.F.args_list_add_2 _ _)
    (PyProof.Rows.list_addW l b its.toArray its2.toArray n n2 dd dd2 sl sl2 (by rw [List.size_toArray, List.size_toArray]; omega)) ⟨ho, ho2, ?_⟩
  rw [ea]
  exact ⟨V.ref _, _, I.lnew (t' := s.toks) (r.append r2) (by rw [List.length_append]; omega), rfl, q _ I.fresh⟩
def addK : D → D → M RV
  | .int i, .int j => fun e => .ok (.val (.int (i + j))) e
  | .lst xs, .lst ys => fun e => if xs.length + ys.length ≤ sizeLine then .ok (.own (.lst (xs ++ ys))) e else .bad
  | .tup xs, .tup ys => fun e => if xs.length + ys.length ≤ sizeLine then .ok (.val (.tup (xs ++ ys))) e else .bad
  | .str x, .str y => fun e => if x.length + y.length ≤ sizeLine then .ok (.val (.str (x ++ y))) e else .bad
  | _, _ => M.bad
theorem rd_tup {K : PySem.W.Frag} {mg : Mg} {F H : Hp} {x : V} {ds : List D} (r : RdOk K mg F H x (.tup ds)) : Rep K mg F x (.tup ds) := by
  obtain ⟨a, vs, rfl, q, p⟩ := r
  exact .tup q p
theorem k2_add {K : PySem.W.Frag} {mg : Mg} : K2 K mg W (fun x y H Q => (rI0 fun i j => .int (i + j)) x y H Q ∨ rCatS K x y H Q ∨ rCatA K x y H Q ∨ ∃ i j, x = .str i ∧ y = .str j ∧ i.length + j.length ≤ sizeLine ∧ Q (.str (i ++ j)) H) addK := fun F H e σ x y d d' Q R rx ry h => by
  unfold addK at h
  split at h
  · rename_i i j
    exact .inl ⟨i, j, rx, ry, post_val R h (.int _)⟩
  · rename_i xs ys
    split at h
    · rename_i c
      obtain ⟨l, vs, rfl, q1, p1⟩ := rx
      obtain ⟨b, ws, rfl, q2, p2⟩ := ry
      exact .inr (.inl ⟨l, b, vs, ws, rfl, rfl, q1, q2, by rw [p1.length, p2.length]; exact c, fun p hp => post_newL R h (p1.append p2) hp⟩)
    · exact h.elim
  · rename_i xs ys
    split at h
    · rename_i c
      have tx := rd_tup rx
      have ty := rd_tup ry
      obtain ⟨l, vs, rfl, q1, p1⟩ := rx
      obtain ⟨b, ws, rfl, q2, p2⟩ := ry
      refine .inr (.inr (.inl ⟨l, b, vs, ws, rfl, rfl, sqT_mono R.sub q1, sqT_mono R.sub q2, by rw [p1.length, p2.length]; exact c, fun z => ?_, fun z z' => ?_, fun z z' p hp => post_newT R h (p1.append p2) hp⟩))
      · subst z
        cases p1
        exact post_val R h ty
      · subst z'
        cases p2
        rw [List.append_nil] at h
        exact post_val R h tx
    · exact h.elim
  · rename_i i j
    split at h
    · rename_i c
      exact .inr (.inr (.inr ⟨i, j, rx, ry, c, post_val R h (.str _)⟩))
    · exact h.elim
  · exact h.elim
theorem de_add (ha : DE X W a f) (hb : DE X W b g) : DE X W (.BinOp a .Add b pos) (rd2 f g addK) := de_bin (op_add.or (op_catS.or (op_catA.or op_add_str))) k2_add ha hb
/-! ### subscripts and slices -/
def ixK : D → D → M RV
  | .lst xs, .int i => fun e => match atI xs i with
    | some d => .ok (.val d) e
    | none => .bad
  | .tup xs, .int i => fun e => match atI xs i with
    | some d => .ok (.val d) e
    | none => .bad
  | _, _ => M.bad
theorem Reps.atI {K : PySem.W.Frag} {mg : Mg} {F : Hp} {vs : List V} {ds : List D} {i : Int} {d : D} (r : Reps K mg F vs ds) (h : atI ds i = some d) : ∃ v, atI vs i = some v ∧ Rep K mg F v d := by
  unfold L2.atI at h ⊢
  rw [r.length]
  cases q : ixN ds.length i with
  | none => rw [q] at h; cases h
  | some j => rw [q] at h; exact Reps.get r h
theorem k2_ix {K : PySem.W.Frag} {mg : Mg} : K2 K mg W (rIx K) ixK := fun F H e σ x y d d' Q R rx ry h => by
  unfold ixK at h
  split at h
  · rename_i xs i
    obtain ⟨l, vs, rfl, q1, p1⟩ := rx
    cases w : atI xs i with
    | none => rw [w] at h; exact h.elim
    | some d =>
      rw [w] at h
      obtain ⟨v, h1, h2⟩ := p1.atI w
      exact .inl ⟨l, vs, i, v, rfl, ry, q1, h1, post_val R h h2⟩
  · rename_i xs i
    obtain ⟨l, vs, rfl, q1, p1⟩ := rx
    cases w : atI xs i with
    | none => rw [w] at h; exact h.elim
    | some d =>
      rw [w] at h
      obtain ⟨v, h1, h2⟩ := p1.atI w
      exact .inr (.inl ⟨l, vs, i, v, rfl, ry, sqT_mono R.sub q1, h1, post_val R h h2⟩)
  · exact h.elim
theorem de_ix (ha : DE X W a f) (hb : DE X W b g) (hs : PlainIx b := by exact fun _ _ => rfl) : DE X W (.Subscript a b pos) (rd2 f g ixK) := peW (pe_ix ix_seq ha hb hs) fun _ _ _ h => rd2_ok k2_ix h
def cutD {α : Type} (xs : List α) (lo hi : Option Int) : List α := (xs.drop (HT.sIx xs.length 0 lo)).take (HT.sIx xs.length xs.length hi - HT.sIx xs.length 0 lo)
def slK : D → Option Int → Option Int → M RV
  | .lst xs, lo, hi => fun e => .ok (.own (.lst (cutD xs lo hi))) e
  | .tup xs, lo, hi => fun e => .ok (.val (.tup (cutD xs lo hi))) e
  | _, _, _ => M.bad
def oNo : M (Option Int) := M.ret none
def oSome (f : M RV) : M (Option Int) := M.bind f fun r => fun e => match rdat e r with
  | some (.int i) => .ok (some i) e
  | _ => .bad
def eSl (f : M RV) (l u : M (Option Int)) : M RV := M.bind f fun r => M.bind l fun lo => M.bind u fun hi => fun e => match rdat e r with
  | some d => slK d lo hi e
  | none => .bad
abbrev rO : RR (Option Int) (Option Int) := fun _ _ _ _ _ b a => b = a
theorem up_O : Up rO := fun _ _ _ _ _ _ _ _ _ h => h
abbrev DO (X : Cx) (W : WX) (e : Option Expr) (f : M (Option Int)) : Prop := PO X e (cG X.K X.mg W rO f)
theorem poW {e : Option Expr} {t t' : TO} (h : PO X e t) (i : ∀ σ H Q, t' σ H Q → t σ H Q) : PO X e t' := ⟨fun pins s σ H Q I q => h.run pins s σ H Q I (i σ H Q q)⟩
theorem do_no : DO X W none oNo := poW po_none fun σ H Q ⟨e, F, R, h⟩ => post_ret R h rfl
theorem do_some (ha : DE X W a f) : DO X W (some a) (oSome f) := poW (po_some ha) fun σ H Q ⟨e, F, R, h⟩ => by
  refine ⟨e, F, R, post_imp (post_seq up_O h) ?_⟩
  rintro x H1 ⟨r1, e1, F1, q1, R1, s1, h1⟩
  split at h1
  · rename_i i w
    exact ⟨i, R1.rd q1 w, post_ret R1 h1 rfl⟩
  · exact h1.elim
theorem cut_reps {K : PySem.W.Frag} {mg : Mg} {F : Hp} {vs : List V} {ds : List D} {lo hi : Option Int} (r : Reps K mg F vs ds) : Reps K mg F (cutV vs lo hi) (cutD ds lo hi) := by
  unfold cutV cutD
  rw [r.length]
  exact (r.drop _).take _
theorem de_slice {lo hi : Option Expr} {l u : M (Option Int)} {p2 : Pos} (ha : DE X W a f) (hl : DO X W lo l) (hu : DO X W hi u) : DE X W (.Subscript a (.Slice lo hi none p2) pos) (eSl f l u) := peW (pe_slice (sl_list.or sl_tupA) ha hl hu) fun σ H Q ⟨e, F, R, h⟩ => by
  refine ⟨e, F, R, post_imp (post_seq up_V h) ?_⟩
  rintro x H1 ⟨r1, e1, F1, q1, R1, s1, h1⟩
  refine ⟨e1, F1, R1, post_imp (post_seq up_V h1) ?_⟩
  rintro lo H2 ⟨lo', e2, F2, q2, R2, s2, h2⟩
  cases q2
  refine ⟨e2, F2, R2, post_imp (post_seq up_V h2) ?_⟩
  rintro hi H3 ⟨hi', e3, F3, q3, R3, s3, h3⟩
  cases q3
  have q1 := (q1.step s2).step s3
  cases w : rdat e3 r1 with
  | none => rw [w] at h3; exact h3.elim
  | some d =>
    rw [w] at h3
    have rx := R3.rd q1 w
    unfold slK at h3
    dsimp only at h3
    split at h3
    · rename_i xs
      obtain ⟨p, vs, rfl, q1, p1⟩ := rx
      exact .inl ⟨p, vs, rfl, q1, fun z hz => post_newL R3 h3 (cut_reps p1) hz⟩
    · rename_i xs
      have tx := rd_tup rx
      obtain ⟨p, vs, rfl, q1, p1⟩ := rx
      refine .inr ⟨p, vs, rfl, sqT_mono R3.sub q1, fun ⟨z1, z2⟩ => ?_, fun _ z hz => post_newT R3 h3 (cut_reps p1) hz⟩
      rw [p1.length] at z1 z2
      have e : cutD xs lo hi = xs := by
        unfold cutD
        rw [z1, z2, List.drop_zero, Nat.sub_zero, List.take_length]
      rw [e] at h3
      exact post_val R3 h3 tx
    · exact h3.elim
/-! ### built-ins of one and two values -/
theorem de_b1 {id : String} {x : Str} {r : List V → Hp → VK → Prop} {k : D → M RV} {p : Pos} (hc : CallR X (.builtin id) r) (hk : K1 X.K X.mg W (fun x => r [x]) k) (hg : Gl X x) (hm : X.mg x = none) (hv : bootBuiltins x = some (.builtin id)) (ha : DE X W a f)
    (hn : x ≠ "__name__" := by decide) (hdb : (x == ("__debug__" : Str)) = false := by decide) (he : starEach [a] X.env = (false, eval a X.env) :: starEach [] X.env := by rfl) (hpl : (backTo pos (starEach [] X.env)).any (·.1) = false := by rfl) :
    DE X W (.Call (.Name x p) [a] [] pos) (rd1 f k) := peW (pe_callB hc hg hm hv (pa_cons ha pa_nil he) hn hdb he hpl) fun _ _ _ h => rd1_ok hk h
theorem de_t1 {T : String} {x : Str} {r : List V → Hp → VK → Prop} {k : D → M RV} {p : Pos} (hc : CallR X (.type T) r) (hk : K1 X.K X.mg W (fun x => r [x]) k) (hg : Gl X x) (hm : X.mg x = none) (hv : bootBuiltins x = some (.type T)) (ha : DE X W a f)
    (hn : x ≠ "__name__" := by decide) (hdb : (x == ("__debug__" : Str)) = false := by decide) (he : starEach [a] X.env = (false, eval a X.env) :: starEach [] X.env := by rfl) (hpl : (backTo pos (starEach [] X.env)).any (·.1) = false := by rfl) :
    DE X W (.Call (.Name x p) [a] [] pos) (rd1 f k) := peW (pe_callTy hc hg hm hv (pa_cons ha pa_nil he) hn hdb he hpl) fun _ _ _ h => rd1_ok hk h
theorem de_b2 {id : String} {x : Str} {r : List V → Hp → VK → Prop} {k : D → D → M RV} {p : Pos} (hc : CallR X (.builtin id) r) (hk : K2 X.K X.mg W (fun x y => r [x, y]) k) (hg : Gl X x) (hm : X.mg x = none) (hv : bootBuiltins x = some (.builtin id)) (ha : DE X W a f) (hb : DE X W b g)
    (hn : x ≠ "__name__" := by decide) (hdb : (x == ("__debug__" : Str)) = false := by decide) (he : starEach [a, b] X.env = (false, eval a X.env) :: starEach [b] X.env := by rfl) (he2 : starEach [b] X.env = (false, eval b X.env) :: starEach [] X.env := by rfl)
    (hpl : (backTo pos (starEach [b] X.env)).any (·.1) = false := by rfl) :
    DE X W (.Call (.Name x p) [a, b] [] pos) (rd2 f g k) := peW (pe_callB hc hg hm hv (pa_cons ha (pa_cons hb pa_nil he2) he) hn hdb he hpl) fun _ _ _ h => rd2_ok hk h
def lenK : D → M RV
  | .lst xs => fun e => .ok (.val (.int xs.length)) e
  | .tup xs => fun e => .ok (.val (.int xs.length)) e
  | _ => M.bad
theorem de_len {p : Pos} (hg : Gl X "len") (hm : X.mg "len" = none) (ha : DE X W a f) (he : starEach [a] X.env = (false, eval a X.env) :: starEach [] X.env := by rfl) (hpl : (backTo pos (starEach [] X.env)).any (·.1) = false := by rfl) :
    DE X W (.Call (.Name "len" p) [a] [] pos) (rd1 f lenK) := de_b1 call_len_seq (fun F H e σ x d Q R rx h => by
  unfold lenK at h
  split at h
  · obtain ⟨l, vs, rfl, q1, p1⟩ := rx
    exact ⟨l, vs, rfl, .inl q1, by rw [p1.length]; exact post_val R h (.int _)⟩
  · obtain ⟨l, vs, rfl, q1, p1⟩ := rx
    exact ⟨l, vs, rfl, .inr (sqT_mono R.sub q1), by rw [p1.length]; exact post_val R h (.int _)⟩
  · exact h.elim) hg hm PySem.boot_len ha (he := he) (hpl := hpl)
def intK : D → M RV
  | .int i => fun e => .ok (.val (.int i)) e
  | .bl b => fun e => .ok (.val (.int (if b then 1 else 0))) e
  | _ => M.bad
theorem de_intOf {p : Pos} (hg : Gl X "int") (hm : X.mg "int" = none) (ha : DE X W a f) (he : starEach [a] X.env = (false, eval a X.env) :: starEach [] X.env := by rfl) (hpl : (backTo pos (starEach [] X.env)).any (·.1) = false := by rfl) :
    DE X W (.Call (.Name "int" p) [a] [] pos) (rd1 f intK) := de_t1 call_int1 (fun F H e σ x d Q R rx h => by
  unfold intK at h
  split at h
  · rename_i i
    cases rx
    exact .inl ⟨i, rfl, post_val R h (.int _)⟩
  · rename_i b
    cases rx
    exact .inr ⟨b, rfl, post_val R h (.int _)⟩
  · exact h.elim) hg hm (by decide +kernel) ha (he := he) (hpl := hpl)
def tupK : D → M RV
  | .lst xs => fun e => .ok (.val (.tup xs)) e
  | .tup xs => fun e => .ok (.val (.tup xs)) e
  | _ => M.bad
theorem de_tupleOf {p : Pos} (hg : Gl X "tuple") (hm : X.mg "tuple" = none) (ha : DE X W a f) (he : starEach [a] X.env = (false, eval a X.env) :: starEach [] X.env := by rfl) (hpl : (backTo pos (starEach [] X.env)).any (·.1) = false := by rfl) :
    DE X W (.Call (.Name "tuple" p) [a] [] pos) (rd1 f tupK) := de_t1 call_tuple_of (fun F H e σ x d Q R rx h => by
  unfold tupK at h
  split at h
  · obtain ⟨l, vs, rfl, q1, p1⟩ := rx
    exact ⟨l, vs, rfl, .inl ⟨q1, fun p hp => post_newT R h p1 hp⟩⟩
  · have tx := rd_tup rx
    obtain ⟨l, vs, rfl, q1, p1⟩ := rx
    exact ⟨l, vs, rfl, .inr ⟨sqT_mono R.sub q1, post_val R h tx⟩⟩
  · exact h.elim) hg hm (by decide +kernel) ha (he := he) (hpl := hpl)
def lstK : D → M RV
  | .lst xs => fun e => .ok (.own (.lst xs)) e
  | .tup xs => fun e => .ok (.own (.lst xs)) e
  | _ => M.bad
theorem de_listOf {p : Pos} (hg : Gl X "list") (hm : X.mg "list" = none) (ha : DE X W a f) (he : starEach [a] X.env = (false, eval a X.env) :: starEach [] X.env := by rfl) (hpl : (backTo pos (starEach [] X.env)).any (·.1) = false := by rfl) :
    DE X W (.Call (.Name "list" p) [a] [] pos) (rd1 f lstK) := de_t1 call_list_of (fun F H e σ x d Q R rx h => by
  unfold lstK at h
  split at h
  · obtain ⟨l, vs, rfl, q1, p1⟩ := rx
    exact ⟨l, vs, rfl, .inl q1, fun p hp => post_newL R h p1 hp⟩
  · obtain ⟨l, vs, rfl, q1, p1⟩ := rx
    exact ⟨l, vs, rfl, .inr (sqT_mono R.sub q1), fun p hp => post_newL R h p1 hp⟩
  · exact h.elim) hg hm (by decide +kernel) ha (he := he) (hpl := hpl)
def intsOf : List D → Option (List Int)
  | [] => some []
  | .int i :: r => (intsOf r).map (i :: ·)
  | _ => none
theorem Reps.ints {K : PySem.W.Frag} {mg : Mg} {F : Hp} : ∀ {vs : List V} {ds : List D} {ns : List Int}, Reps K mg F vs ds → intsOf ds = some ns → vs = ns.map V.int
  | _, _, _, .nil, e => by cases e; rfl
  | _, _, _, .cons (.int i) b, e => by
    unfold intsOf at e
    obtain ⟨zs, q, e⟩ := Option.map_eq_some_iff.mp e
    subst e
    rw [Reps.ints b q]
    rfl
  | _, _, _, .cons .non b, e => by cases e
  | _, _, _, .cons (.bl _) b, e => by cases e
  | _, _, _, .cons (.str _) b, e => by cases e
  | _, _, _, .cons (.raw _) b, e => by cases e
  | _, _, _, .cons (.lst _ _) b, e => by cases e
  | _, _, _, .cons (.tup _ _) b, e => by cases e
  | _, _, _, .cons (.ins _ _ _) b, e => by cases e
def sumK : D → M RV
  | .lst xs => fun e => match intsOf xs with
    | some ns => .ok (.val (.int ns.sum)) e
    | none => .bad
  | _ => M.bad
theorem de_sum {p : Pos} (hc : X.calm = true) (hg : Gl X "sum") (hm : X.mg "sum" = none) (ha : DE X W a f) (he : starEach [a] X.env = (false, eval a X.env) :: starEach [] X.env := by rfl) (hpl : (backTo pos (starEach [] X.env)).any (·.1) = false := by rfl) :
    DE X W (.Call (.Name "sum" p) [a] [] pos) (rd1 f sumK) := de_b1 (cr_sum hc) (fun F H e σ x d Q R rx h => by
  unfold sumK at h
  split at h
  · rename_i xs
    cases w : intsOf xs with
    | none => rw [w] at h; exact h.elim
    | some ns =>
      rw [w] at h
      obtain ⟨l, vs, rfl, q1, p1⟩ := rx
      exact ⟨l, ns, rfl, by rw [← p1.ints w]; exact q1, post_val R h (.int _)⟩
  · exact h.elim) hg hm (by decide +kernel) ha (he := he) (hpl := hpl)
def max2 : D → D → M RV := kI2 fun i j => some (.int (if j > i then j else i))
def min2 : D → D → M RV := kI2 fun i j => some (.int (if j < i then j else i))
theorem k2_call {K : PySem.W.Frag} {mg : Mg} {h : Int → Int → V} {g : Int → Int → D} (hg : ∀ i j F, Rep K mg F (h i j) (g i j)) : K2 K mg W (fun x y H Q => ∃ i j, [x, y] = [V.int i, V.int j] ∧ Q (h i j) H) (kI2 fun i j => some (g i j)) := fun F H e σ x y d d' Q R rx ry h => by
  unfold kI2 at h
  split at h
  · rename_i i j
    cases rx
    cases ry
    exact ⟨i, j, rfl, post_val R h (hg i j F)⟩
  · exact h.elim
theorem de_max2 {p : Pos} (hc : X.calm = true) (hg : Gl X "max") (hm : X.mg "max" = none) (ha : DE X W a f) (hb : DE X W b g) (he : starEach [a, b] X.env = (false, eval a X.env) :: starEach [b] X.env := by rfl) (he2 : starEach [b] X.env = (false, eval b X.env) :: starEach [] X.env := by rfl)
    (hpl : (backTo pos (starEach [b] X.env)).any (·.1) = false := by rfl) : DE X W (.Call (.Name "max" p) [a, b] [] pos) (rd2 f g max2) := de_b2 (call_max2 hc) (k2_call fun _ _ _ => .int _) hg hm (by decide +kernel) ha hb (he := he) (he2 := he2) (hpl := hpl)
theorem de_min2 {p : Pos} (hc : X.calm = true) (hg : Gl X "min") (hm : X.mg "min" = none) (ha : DE X W a f) (hb : DE X W b g) (he : starEach [a, b] X.env = (false, eval a X.env) :: starEach [b] X.env := by rfl) (he2 : starEach [b] X.env = (false, eval b X.env) :: starEach [] X.env := by rfl)
    (hpl : (backTo pos (starEach [b] X.env)).any (·.1) = false := by rfl) : DE X W (.Call (.Name "min" p) [a, b] [] pos) (rd2 f g min2) := de_b2 (call_min2 hc) (k2_call fun _ _ _ => .int _) hg hm (by decide +kernel) ha hb (he := he) (he2 := he2) (hpl := hpl)
def dmK : D → D → M RV := kI2 fun i j => if 0 < j ∧ j < 1073741824 then some (.tup [.int (i / j), .int (i % j)]) else none
theorem de_divmod {p : Pos} (hg : Gl X "divmod") (hm : X.mg "divmod" = none) (ha : DE X W a f) (hb : DE X W b g) (he : starEach [a, b] X.env = (false, eval a X.env) :: starEach [b] X.env := by rfl) (he2 : starEach [b] X.env = (false, eval b X.env) :: starEach [] X.env := by rfl)
    (hpl : (backTo pos (starEach [b] X.env)).any (·.1) = false := by rfl) : DE X W (.Call (.Name "divmod" p) [a, b] [] pos) (rd2 f g dmK) := de_b2 call_divmod (fun F H e σ x y d d' Q R rx ry h => by
  unfold dmK kI2 at h
  split at h
  · rename_i i j
    cases rx
    cases ry
    dsimp only at h
    by_cases c : 0 < j ∧ j < 1073741824
    · rw [if_pos c] at h
      exact ⟨i, j, rfl, c, fun p hp => post_newT R h (.cons (.int _) (.cons (.int _) .nil)) hp⟩
    · rw [if_neg c] at h; exact h.elim
  · exact h.elim) hg hm (by decide +kernel) ha hb (he := he) (he2 := he2) (hpl := hpl)
end
end Y

set_option Elab.async false
set_option linter.all false
set_option maxRecDepth 100000
set_option maxHeartbeats 4000000
namespace Y
open PySem PySem.Spec L2
set_option autoImplicit false
variable [TB]
/-! ### storing into slots -/
section
variable {K : PySem.W.Frag} {mg : Mg} {F H F0 H0 : Hp} {e e0 : Sl} {σ σ0 : St} {v : V} {d : D} {i : Nat}
theorem get_set_of {α : Type} {l : List α} {i j : Nat} {x y : α} (h : (l.set i x)[j]? = some y) : (i = j ∧ y = x) ∨ (i ≠ j ∧ l[j]? = some y) := by
  by_cases z : i = j
  · subst z
    rw [List.getElem?_set] at h
    split at h
    · split at h
      · cases h; exact .inl ⟨rfl, rfl⟩
      · cases h
    · exact absurd rfl (by assumption)
  · rw [List.getElem?_set_ne z] at h
    exact .inr ⟨z, h⟩
theorem Rel.put (R : Rel K mg F e σ H) (r : Rep K mg F v d) (hl : i < e.length) : Rel K mg F (e.set i (.val d)) (σ.set i (some v)) H where
  tab := R.tab
  ftb := R.ftb
  sub := R.sub
  len := by rw [List.length_set, List.length_set]; exact R.len
  ok := fun j s x es ex => by
    rcases get_set_of es with ⟨rfl, rfl⟩ | ⟨n, es⟩
    · rw [List.getElem?_set_self (by rw [← R.len]; exact hl)] at ex
      cases ex
      exact ⟨v, rfl, r⟩
    · rw [List.getElem?_set_ne n] at ex
      exact R.ok j s x es ex
  inj := fun j k f g c c' b ej ek sj sk => by
    rcases get_set_of ej with ⟨_, z⟩ | ⟨n, ej⟩
    · cases z
    · rcases get_set_of ek with ⟨_, z⟩ | ⟨n', ek⟩
      · cases z
      · rw [List.getElem?_set_ne n] at sj
        rw [List.getElem?_set_ne n'] at sk
        exact R.inj j k f g c c' b ej ek sj sk
theorem own_put {o : Option V} {b : Addr} (h : Own (e.set i (.val d)) (σ.set i o) b) : Own e σ b := by
  obtain ⟨j, f, c, h1, h2⟩ := h
  rcases get_set_of h1 with ⟨_, z⟩ | ⟨n, h1⟩
  · cases z
  · rw [List.getElem?_set_ne n] at h2
    exact ⟨j, f, c, h1, h2⟩
/-- slot i may be stored to -/
def Sto (e : Sl) (i : Nat) : Prop := i < e.length ∧ ∀ c, e[i]? ≠ some (.own true c)
def sto (e : Sl) (i : Nat) : Bool := match e[i]? with
  | none => false
  | some (.own true _) => false
  | _ => true
theorem sto_ok (h : sto e i = true) : Sto e i := by
  unfold sto at h
  split at h
  · cases h
  · cases h
  · rename_i h1 h2
    refine ⟨?_, fun c q => h2 c q⟩
    cases q : e[i]? with
    | none => exact absurd q h1
    | some s => exact (List.getElem?_eq_some_iff.mp q).1
theorem Stp.put (s : Stp F0 H0 e0 σ0 F H e σ) (h : Sto e i) {o : Option V} : Stp F0 H0 e0 σ0 F H (e.set i (.val d)) (σ.set i o) where
  fro := s.fro
  kept := s.kept
  dom := s.dom
  newF := s.newF
  newO := fun b q => s.newO b (own_put q)
  fix := fun j c q => by
    obtain ⟨⟨c', q1⟩, q2⟩ := s.fix j c q
    have n : i ≠ j := fun z => by subst z; exact h.2 _ q1
    exact ⟨⟨c', by rw [List.getElem?_set_ne n]; exact q1⟩, by rw [List.getElem?_set_ne n]; exact q2⟩
  len := by rw [List.length_set]; exact s.len
theorem Rel.putOwn (R : Rel K mg F e σ H) {a : Addr} {o : HO} {c : Cont} (hF : F a = none) (hH : H a = some o) (hc : ContOk K mg F c o) (hn : ¬ Own e σ a) (hl : i < e.length) : Rel K mg F (e.set i (.own false c)) (σ.set i (some (.ref a))) H where
  tab := R.tab
  ftb := R.ftb
  sub := R.sub
  len := by rw [List.length_set, List.length_set]; exact R.len
  ok := fun j s x es ex => by
    rcases get_set_of es with ⟨rfl, rfl⟩ | ⟨n, es⟩
    · rw [List.getElem?_set_self (by rw [← R.len]; exact hl)] at ex
      cases ex
      exact ⟨a, o, rfl, hF, hH, hc⟩
    · rw [List.getElem?_set_ne n] at ex
      exact R.ok j s x es ex
  inj := fun j k f g c1 c2 b ej ek sj sk => by
    have hs : i < σ.length := by rw [← R.len]; exact hl
    rcases get_set_of ej with ⟨rfl, z⟩ | ⟨n, ej⟩
    · rcases get_set_of ek with ⟨rfl, z'⟩ | ⟨n', ek⟩
      · rfl
      · rw [List.getElem?_set_self hs] at sj
        cases sj
        rw [List.getElem?_set_ne n'] at sk
        exact absurd ⟨k, g, c2, ek, sk⟩ hn
    · rw [List.getElem?_set_ne n] at sj
      rcases get_set_of ek with ⟨rfl, z'⟩ | ⟨n', ek⟩
      · rw [List.getElem?_set_self hs] at sk
        cases sk
        exact absurd ⟨j, f, c1, ej, sj⟩ hn
      · rw [List.getElem?_set_ne n'] at sk
        exact R.inj j k f g c1 c2 b ej ek sj sk
theorem Stp.putOwn (s : Stp F0 H0 e0 σ0 F H e σ) (h : Sto e i) (hl : e.length = σ.length) {a : Addr} {c : Cont} (hN : NM H0 e0 σ0 a) : Stp F0 H0 e0 σ0 F H (e.set i (.own false c)) (σ.set i (some (.ref a))) where
  fro := s.fro
  kept := s.kept
  dom := s.dom
  newF := s.newF
  newO := fun b ⟨j, f, c', h1, h2⟩ => by
    rcases get_set_of h1 with ⟨rfl, z⟩ | ⟨n, h1⟩
    · rw [List.getElem?_set_self (by rw [← hl]; exact h.1)] at h2
      cases h2
      exact hN
    · rw [List.getElem?_set_ne n] at h2
      exact s.newO b ⟨j, f, c', h1, h2⟩
  fix := fun j c' q => by
    obtain ⟨⟨c1, q1⟩, q2⟩ := s.fix j c' q
    have n : i ≠ j := fun z => by subst z; exact h.2 _ q1
    exact ⟨⟨c1, by rw [List.getElem?_set_ne n]; exact q1⟩, by rw [List.getElem?_set_ne n]; exact q2⟩
  len := by rw [List.length_set]; exact s.len
/-- the own thing of slot i changes -/
theorem Rel.change (R : Rel K mg F e σ H) {fx : Bool} {c c' : Cont} {a : Addr} {o' : HO} (es : e[i]? = some (.own fx c)) (ex : σ[i]? = some (some (.ref a))) (hc : ContOk K mg F c' o') : Rel K mg F (e.set i (.own fx c')) σ (upd H a o') := by
  obtain ⟨a', o, h1, hF, hH, hco⟩ := R.ok i _ _ es ex
  cases h1
  refine ⟨fun b u q => ?_, by rw [List.length_set]; exact R.len, fun j s x ej exj => ?_, fun j k f g c1 c2 b ej ek sj sk => ?_, R.tab.chg hH hco.notbl hco.nocode, R.ftb⟩
  · rw [upd_ne (ne_of_none q hF)]; exact R.sub b u q
  · rcases get_set_of ej with ⟨rfl, rfl⟩ | ⟨n, ej⟩
    · rw [ex] at exj; cases exj
      exact ⟨a, o', rfl, hF, upd_same, hc⟩
    · have q := R.ok j s x ej exj
      cases s with
      | no => trivial
      | val d => exact q
      | own f c2 =>
        obtain ⟨b, o2, h1, hf', hh', hc'⟩ := q
        refine ⟨b, o2, h1, hf', ?_, hc'⟩
        rw [upd_ne]
        · exact hh'
        · rintro rfl
          rw [h1] at exj
          exact n (R.inj i j _ _ _ _ _ es ej ex exj)
  · have hj : ∃ f' c'', e[j]? = some (.own f' c'') := by
      rcases get_set_of ej with ⟨rfl, z⟩ | ⟨n, ej⟩
      · exact ⟨_, _, es⟩
      · exact ⟨_, _, ej⟩
    have hk : ∃ f' c'', e[k]? = some (.own f' c'') := by
      rcases get_set_of ek with ⟨rfl, z⟩ | ⟨n, ek⟩
      · exact ⟨_, _, es⟩
      · exact ⟨_, _, ek⟩
    obtain ⟨_, _, hj⟩ := hj
    obtain ⟨_, _, hk⟩ := hk
    exact R.inj j k _ _ _ _ b hj hk sj sk
theorem Stp.change (R : Rel K mg F e σ H) (s : Stp F0 H0 e0 σ0 F H e σ) {fx : Bool} {c c' : Cont} {a : Addr} {o' : HO} (es : e[i]? = some (.own fx c)) (ex : σ[i]? = some (some (.ref a))) : Stp F0 H0 e0 σ0 F (upd H a o') (e.set i (.own fx c')) σ where
  fro := s.fro
  kept := fun b o h n m => by
    have h1 := s.kept b o h n m
    rw [upd_ne]
    · exact h1
    · rintro rfl
      rcases s.newO b ⟨i, fx, c, es, ex⟩ with z | z
      · rw [h] at z; cases z
      · exact n z
  dom := fun b h => by
    by_cases z : b = a
    · subst z; rw [upd_same] at h; cases h
    · rw [upd_ne z] at h; exact s.dom b h
  newF := s.newF
  newO := fun b ⟨j, f, c1, h1, h2⟩ => by
    rcases get_set_of h1 with ⟨rfl, z⟩ | ⟨n, h1⟩
    · exact s.newO b ⟨i, fx, c, es, h2⟩
    · exact s.newO b ⟨j, f, c1, h1, h2⟩
  fix := fun j c1 q => by
    obtain ⟨⟨c2, q1⟩, q2⟩ := s.fix j c1 q
    by_cases n : i = j
    · subst n
      rw [es] at q1; cases q1
      exact ⟨⟨c', by rw [List.getElem?_set_self (List.getElem?_eq_some_iff.mp es).1]⟩, q2⟩
    · exact ⟨⟨c2, by rw [List.getElem?_set_ne n]; exact q1⟩, q2⟩
  len := by rw [List.length_set]; exact s.len
theorem Rel.drop (R : Rel K mg F e σ H) : Rel K mg F (e.set i .no) σ H where
  tab := R.tab
  ftb := R.ftb
  sub := R.sub
  len := by rw [List.length_set]; exact R.len
  ok := fun j s x es ex => by
    rcases get_set_of es with ⟨rfl, rfl⟩ | ⟨n, es⟩
    · trivial
    · exact R.ok j s x es ex
  inj := fun j k f g c c' b ej ek sj sk => by
    rcases get_set_of ej with ⟨_, z⟩ | ⟨n, ej⟩
    · cases z
    · rcases get_set_of ek with ⟨_, z⟩ | ⟨n', ek⟩
      · cases z
      · exact R.inj j k f g c c' b ej ek sj sk
theorem Stp.drop (s : Stp F0 H0 e0 σ0 F H e σ) (h : ∀ c, e[i]? ≠ some (.own true c)) : Stp F0 H0 e0 σ0 F H (e.set i .no) σ where
  fro := s.fro
  kept := s.kept
  dom := s.dom
  newF := s.newF
  newO := fun b ⟨j, f, c, h1, h2⟩ => by
    rcases get_set_of h1 with ⟨_, z⟩ | ⟨n, h1⟩
    · cases z
    · exact s.newO b ⟨j, f, c, h1, h2⟩
  fix := fun j c q => by
    obtain ⟨⟨c', q1⟩, q2⟩ := s.fix j c q
    have n : i ≠ j := fun z => by subst z; exact h _ q1
    exact ⟨⟨c', by rw [List.getElem?_set_ne n]; exact q1⟩, q2⟩
  len := by rw [List.length_set]; exact s.len
end
/-! ### statements -/
def sSeq (f g : M Flo) : M Flo := fun e => match f e with
  | .ok .nx e' => g e'
  | r => r
def sNil : M Flo := M.ret .nx
def sBad : M Flo := M.bad
def sExpr (f : M RV) : M Flo := M.bind f fun _ => M.ret .nx
def sRetN : M Flo := M.ret (.rt (.val .non))
def retR (r : RV) : M Flo := fun e => match r with
  | .pk i => match e[i]? with
    | some (.val d) => .ok (.rt (.val d)) e
    | some (.own false c) => .ok (.rt (.own c)) (e.set i .no)
    | _ => .bad
  | r => .ok (.rt r) e
def sRet (f : M RV) : M Flo := M.bind f retR
def sIf (p : M Bool) (f g : M Flo) : M Flo := M.bind p fun c => if c then f else g
def stoV (i : Nat) (d : D) : M Flo := fun e => if sto e i then .ok .nx (e.set i (.val d)) else .bad
def stor (i : Nat) (r : RV) : M Flo := match r with
  | .own c => fun e => if sto e i then .ok .nx (e.set i (.own false c)) else .bad
  | r => M.bind (frz r) (stoV i)
def sSet (i : Nat) (f : M RV) : M Flo := M.bind f (stor i)
section
variable {K : PySem.W.Frag} {mg : Mg} {W : WX} {F H F1 H1 : Hp} {e e1 : Sl} {σ σ1 : St} {E E' : Ends} {α β : Type}
theorem postS_from {r : Res Flo} (s : Stp F H e σ F1 H1 e1 σ1) (h : postS K mg W F H e σ r E) : postS K mg W F1 H1 e1 σ1 r E := by
  cases r with
  | ok a e' =>
    cases a with
    | nx => exact fun σ' F' H' s' q => h σ' F' H' (s.trans s') q
    | bk => exact fun σ' F' H' s' q => h σ' F' H' (s.trans s') q
    | ct => exact fun σ' F' H' s' q => h σ' F' H' (s.trans s') q
    | rt r => exact fun v σ' F' H' s' q w => h v σ' F' H' (s.trans s') q (w.imp fun x z => s.nm z)
  | ex x e' => exact fun cls d σ' F' H' s' q w => h cls d σ' F' H' (s.trans s') q w
  | bad => exact h
theorem postS_imp {r : Res Flo} (h : postS K mg W F H e σ r E) (i1 : ∀ σ H, E.nx σ H → E'.nx σ H) (i2 : ∀ v H, E.rt v H → E'.rt v H) (i3 : ∀ σ H, E.bk σ H → E'.bk σ H) (i4 : ∀ σ H, E.ct σ H → E'.ct σ H) : postS K mg W F H e σ r E' := by
  cases r with
  | ok a e' =>
    cases a with
    | nx => exact fun σ' F' H' s' q => i1 _ _ (h σ' F' H' s' q)
    | bk => exact fun σ' F' H' s' q => i3 _ _ (h σ' F' H' s' q)
    | ct => exact fun σ' F' H' s' q => i4 _ _ (h σ' F' H' s' q)
    | rt r => exact fun v σ' F' H' s' q w => i2 _ _ (h v σ' F' H' s' q w)
  | ex x e' => exact h
  | bad => exact h
/-- an expression, then what is done with its value; told from the start -/
theorem postS_seq {R1 : RR α β} {f : M α} {k : α → M Flo} (h : postS K mg W F H e σ (M.bind f k e) E) :
    post K mg W R1 F H e σ (f e) (fun b H1 => ∃ a e1 F1, R1 (NM H e σ) F1 H1 e1 σ b a ∧ Rel K mg F1 e1 σ H1 ∧ Stp F H e σ F1 H1 e1 σ ∧ postS K mg W F H e σ (k a e1) E) := by
  unfold M.bind at h
  cases q : f e with
  | ok a e' =>
    rw [q] at h
    exact fun b F' H' s r w => ⟨a, e', F', w, r, s, h⟩
  | ex x e' => rw [q] at h; exact fun cls d F' H' s r w => h cls d σ F' H' s r w
  | bad => rw [q] at h; exact h
theorem sSeq_ok {f g : M Flo} (h : cS K mg W (sSeq f g) E σ H) : cS K mg W f { E with nx := cS K mg W g E } σ H := by
  obtain ⟨e, F, R, h⟩ := h
  refine ⟨e, F, R, ?_⟩
  unfold sSeq at h
  cases q : f e with
  | ok a e' =>
    rw [q] at h
    cases a with
    | nx => exact fun σ' F' H' s r => ⟨e', F', r, postS_from s h⟩
    | bk => exact h
    | ct => exact h
    | rt r => exact h
  | ex x e' => rw [q] at h; exact h
  | bad => rw [q] at h; exact h
end
section
variable {X : Cx} {W : WX} {a b c : Expr} {st : Stmt} {sts sts' : List Stmt} {f g : M RV} {p : M Bool} {s t : M Flo} {pos pos' : Pos}
theorem dss_nil : DSs X W [] sNil := pssW pss_nil fun E σ H ⟨e, F, R, h⟩ => h σ F H Stp.refl R
theorem dss_cons (h1 : DS X W st s) (h2 : DSs X W sts t) : DSs X W (st :: sts) (sSeq s t) := pssW (pss_cons h1 h2) fun _ _ _ h => sSeq_ok h
theorem dss_one (h1 : DS X W st s) : DSs X W [st] s := pss_one h1
theorem ds_bad : DS X W st sBad := psW ps_never fun _ _ _ ⟨_, _, _, h⟩ => h
theorem ds_pass : DS X W (.Pass pos) sNil := psW ps_pass fun E σ H ⟨e, F, R, h⟩ => h σ F H Stp.refl R
theorem ds_break : DS X W (.Break pos) (M.ret .bk) := psW ps_break fun E σ H ⟨e, F, R, h⟩ => h σ F H Stp.refl R
theorem ds_continue : DS X W (.Continue pos) (M.ret .ct) := psW ps_continue fun E σ H ⟨e, F, R, h⟩ => h σ F H Stp.refl R
theorem ds_retN : DS X W (.Return none pos) sRetN := psW ps_retN fun E σ H ⟨e, F, R, h⟩ => h .non σ F H Stp.refl R .non
theorem ds_expr (ha : DE X W a f) (hs : swapsWith a none pos.line X.env = pure false := by rfl) : DS X W (.Expr a pos) (sExpr f) := psW (ps_expr ha hs) fun E σ H ⟨e, F, R, h⟩ => by
  refine ⟨e, F, R, post_imp (postS_seq h) ?_⟩
  rintro v H1 ⟨r, e1, F1, q1, R1, s1, h1⟩
  exact h1 σ F1 H1 s1 R1
theorem ds_ret (ha : DE X W a f) : DS X W (.Return (some a) pos) (sRet f) := psW (ps_ret ha) fun E σ H ⟨e, F, R, h⟩ => by
  refine ⟨e, F, R, post_imp (postS_seq h) ?_⟩
  rintro v H1 ⟨r, e1, F1, q1, R1, s1, h1⟩
  cases r with
  | val d => exact h1 v σ F1 H1 s1 R1 q1
  | own c => exact h1 v σ F1 H1 s1 R1 q1
  | pk i =>
    unfold retR at h1
    dsimp only at h1
    have q1 : σ[i]? = some (some v) := q1
    split at h1
    · rename_i d es
      obtain ⟨u, h2, h3⟩ := R1.ok i _ _ es q1
      cases h2
      exact h1 v σ F1 H1 s1 R1 h3
    · rename_i c es
      obtain ⟨p, o, h2, hF, hH, hc⟩ := R1.ok i _ _ es q1
      cases h2
      refine h1 _ σ F1 H1 (s1.drop fun c' z => by rw [es] at z; cases z) R1.drop ⟨p, o, rfl, hF, hH, hc, ?_, s1.newO p ⟨i, false, c, es, q1⟩⟩
      rintro ⟨j, f, c', h3, h4⟩
      rcases get_set_of h3 with ⟨_, z⟩ | ⟨n, h3⟩
      · cases z
      · exact n (R1.inj i j _ _ _ _ _ es h3 q1 h4)
    · exact h1.elim
theorem ds_if (hc : DT X W c p) (ha : DSs X W sts s) (hb : DSs X W sts' t) : DS X W (.If c sts sts' pos) (sIf p s t) := psW (ps_if hc ha hb) fun E σ H ⟨e, F, R, h⟩ => by
  refine ⟨e, F, R, post_imp (postS_seq h) ?_⟩
  rintro b H1 ⟨b', e1, F1, q1, R1, s1, h1⟩
  cases q1
  cases b with
  | true => exact iteT ⟨e1, F1, R1, postS_from s1 h1⟩
  | false => exact iteF ⟨e1, F1, R1, postS_from s1 h1⟩
/-- what stor does -/
theorem stor_ok {K : PySem.W.Frag} {mg : Mg} {F H F0 H0 : Hp} {e e0 : Sl} {σ σ0 : St} {E : Ends} {i : Nat} {r : RV} {v : V} (R : Rel K mg F e σ H) (q : RVOk K mg (NM H0 e0 σ0) F H e σ v r) (s0 : Stp F0 H0 e0 σ0 F H e σ)
    (h : postS K mg W F0 H0 e0 σ0 (stor i r e) E) : E.nx (σ.set i (some v)) H := by
  have val : ∀ d e', frz r e = .ok d e' → postS K mg W F0 H0 e0 σ0 (stoV i d e') E → E.nx (σ.set i (some v)) H := fun d e' w h => by
    obtain ⟨F2, s2, R2, q2⟩ := frz_ok R q w s0
    unfold stoV at h
    split at h
    · rename_i z
      exact h _ F2 H (s2.put (sto_ok z)) (R2.put q2 (sto_ok z).1)
    · exact h.elim
  cases r with
  | own c =>
    unfold stor at h
    dsimp only at h
    obtain ⟨a, o, rfl, hF, hH, hc, hn, hN⟩ := q
    split at h
    · rename_i z
      exact h _ F H (s0.putOwn (sto_ok z) R.len hN) (R.putOwn hF hH hc hn (sto_ok z).1)
    · exact h.elim
  | val d => exact val d e rfl h
  | pk j =>
    unfold stor M.bind at h
    dsimp only at h
    cases w : frz (.pk j) e with
    | ok d e' => rw [w] at h; exact val d e' w h
    | ex x e' => exact (frz_noex w).elim
    | bad => rw [w] at h; exact h.elim
theorem ds_set (i : Nat) {x : Str} (ha : DE X W a f) (hN : X.N.Nodup) (hi : X.N[i]? = some x := by rfl) (hx : Loc X.env.scope x := by first | exact Or.inl rfl | exact Or.inr rfl) (hs : swapsWith a (some (.Name x pos')) pos.line X.env = pure false := by rfl)
    (hf : X.fn x = true ∨ X.env.scope.names.lookup x = some .local := by first | exact .inl rfl | exact .inr rfl) : DS X W (.Assign [.Name x pos'] a pos) (sSet i f) := psW (ps_set hN hi hx ha hs hf) fun E σ H ⟨e, F, R, h⟩ => by
  refine ⟨e, F, R, post_imp (postS_seq h) ?_⟩
  rintro v H1 ⟨r, e1, F1, q1, R1, s1, h1⟩
  exact stor_ok R1 q1 s1 h1
end
end Y

set_option Elab.async false
set_option linter.all false
set_option maxRecDepth 100000
set_option maxHeartbeats 4000000
namespace Y
open PySem PySem.Spec L2
set_option autoImplicit false
variable [TB]
/-! ### several values at once, new things kept -/
def aO (f : M RV) : M RV := M.bind f fun r => match r with
  | .own c => M.ret (.own c)
  | r => M.bind (frz r) fun d => M.ret (.val d)
def Fr1 (r : RV) (v : V) (a : Addr) : Prop := (∃ c, r = .own c) ∧ v = .ref a
inductive Args2 (K : PySem.W.Frag) (mg : Mg) (N : Addr → Prop) (F H : Hp) (e : Sl) (σ : St) : List V → List RV → Prop
  | nil : Args2 K mg N F H e σ [] []
  | cons {v : V} {vs : List V} {r : RV} {rs : List RV} : RVOk K mg N F H e σ v r → (∀ i, r ≠ .pk i) → Args2 K mg N F H e σ vs rs →
      (∀ (a : Addr) (j : Nat) (w : V) (s : RV), Fr1 r v a → vs[j]? = some w → rs[j]? = some s → ¬ Fr1 s w a) → Args2 K mg N F H e σ (v :: vs) (r :: rs)
/-- the new things among the values -/
def NewIn (vs : List V) (rs : List RV) (a : Addr) : Prop := ∃ (j : Nat) (w : V) (s : RV), vs[j]? = some w ∧ rs[j]? = some s ∧ Fr1 s w a
section
variable {K : PySem.W.Frag} {mg : Mg} {N N' : Addr → Prop} {F F1 H H1 : Hp} {e e1 : Sl} {σ : St}
theorem Args2.step (s : Stp F H e σ F1 H1 e1 σ) : ∀ {vs : List V} {rs : List RV}, Args2 K mg N F H e σ vs rs → Args2 K mg N F1 H1 e1 σ vs rs
  | _, _, .nil => .nil
  | _, _, .cons a b c d => .cons (a.step s) b (Args2.step s c) d
theorem Args2.imp (g : ∀ a, N a → N' a) : ∀ {vs : List V} {rs : List RV}, Args2 K mg N F H e σ vs rs → Args2 K mg N' F H e σ vs rs
  | _, _, .nil => .nil
  | _, _, .cons a b c d => .cons (a.imp g) b (Args2.imp g c) d
theorem Args2.new {a : Addr} : ∀ {vs : List V} {rs : List RV}, Args2 K mg N F H e σ vs rs → NewIn vs rs a → N a
  | _, _, .nil, ⟨j, w, s, h1, _⟩ => by simp at h1
  | _, _, .cons p b c d, ⟨0, w, s, h1, h2, ⟨⟨c', hc⟩, hv⟩⟩ => by
    simp at h1 h2
    subst h1 h2 hc hv
    obtain ⟨a', o, e, _, _, _, _, hN⟩ := p
    cases e
    exact hN
  | _, _, .cons p b c d, ⟨j + 1, w, s, h1, h2, h3⟩ => Args2.new c ⟨j, w, s, by simpa using h1, by simpa using h2, h3⟩
abbrev rA2 (K : PySem.W.Frag) (mg : Mg) : RR (List RV) (List V) := fun N F H e σ vs rs => Args2 K mg N F H e σ vs rs
theorem up_A2 : Up (rA2 K mg) := fun _ _ _ _ _ _ _ _ i h => h.imp i
end
abbrev DA2 (X : Cx) (W : WX) (es : List Expr) (f : M (List RV)) : Prop := PA X es (cG X.K X.mg W (rA2 X.K X.mg) f)
section
variable {K : PySem.W.Frag} {mg : Mg} {W : WX} {F F2 H H2 : Hp} {e e2 : Sl} {σ σ2 : St} {α β γ δ : Type} {R1 : RR α β} {R2 : RR γ δ}
/-- one more step, all told from the first start -/
theorem post_seqG {f : M α} {k : α → M γ} {Q : δ → Hp → Prop} (s : Stp F H e σ F2 H2 e2 σ) (h : post K mg W R2 F H e σ (M.bind f k e2) Q) :
    post K mg W R1 F2 H2 e2 σ (f e2) (fun b H1 => ∃ a e1 F1, R1 (NM H2 e2 σ) F1 H1 e1 σ b a ∧ Rel K mg F1 e1 σ H1 ∧ Stp F2 H2 e2 σ F1 H1 e1 σ ∧ post K mg W R2 F H e σ (k a e1) Q) := by
  unfold M.bind at h
  cases q : f e2 with
  | ok a e' =>
    rw [q] at h
    exact fun b F' H' s r w => ⟨a, e', F', w, r, s, h⟩
  | ex x e' => rw [q] at h; exact fun cls d F' H' s' r w => h cls d F' H' (s.trans s') r w
  | bad => rw [q] at h; exact h
theorem postS_seqG {f : M α} {k : α → M Flo} {E : Ends} (s : Stp F H e σ F2 H2 e2 σ2) (h : postS K mg W F H e σ (M.bind f k e2) E) :
    post K mg W R1 F2 H2 e2 σ2 (f e2) (fun b H1 => ∃ a e1 F1, R1 (NM H2 e2 σ2) F1 H1 e1 σ2 b a ∧ Rel K mg F1 e1 σ2 H1 ∧ Stp F2 H2 e2 σ2 F1 H1 e1 σ2 ∧ postS K mg W F H e σ (k a e1) E) := by
  unfold M.bind at h
  cases q : f e2 with
  | ok a e' =>
    rw [q] at h
    exact fun b F' H' s r w => ⟨a, e', F', w, r, s, h⟩
  | ex x e' => rw [q] at h; exact fun cls d F' H' s' r w => h cls d σ2 F' H' (s.trans s') r w
  | bad => rw [q] at h; exact h
end
section
variable {X : Cx} {W : WX} {a b c : Expr} {es : List Expr} {f g h : M RV} {fs : M (List RV)} {pos pos' : Pos}
theorem da2_nil : DA2 X W [] aNil := paW pa_nil fun σ H Q ⟨e, F, R, h⟩ => post_ret R h .nil
theorem da2_cons (ha : DE X W a f) (hr : DA2 X W es fs) (hs : starEach (a :: es) X.env = (false, eval a X.env) :: starEach es X.env := by rfl) : DA2 X W (a :: es) (aCons (aO f) fs) :=
  paW (pa_cons ha hr hs) fun σ H Q ⟨e, F, R, h⟩ => by
    unfold aCons aO at h
    rw [bind_assoc] at h
    refine ⟨e, F, R, post_imp (post_seq0 h) ?_⟩
    rintro x H1 ⟨r1, e1, F1, q1, R1, s1, h1⟩
    have fin : ∀ (r : RV) (e2 : Sl) (F2 : Hp), (∀ i, r ≠ .pk i) → Rel X.K X.mg F2 e2 σ H1 → Stp F H e σ F2 H1 e2 σ → RVOk X.K X.mg (NM H e σ) F2 H1 e2 σ x r → post X.K X.mg W (rA2 X.K X.mg) F H e σ ((M.bind fs fun rs => M.ret (r :: rs)) e2) Q →
        cG X.K X.mg W (rA2 X.K X.mg) fs σ H1 fun xs H2 => Q (x :: xs) H2 := fun r e2 F2 hr R2 s2 q2 h2 => by
      refine ⟨e2, F2, R2, post_imp (post_seqG (R1 := rA2 X.K X.mg) s2 h2) ?_⟩
      rintro xs H3 ⟨rs, e3, F3, q3, R3, s3, h3⟩
      refine h3 (x :: xs) F3 H3 (s2.trans s3) R3 (.cons (q2.step s3) hr (q3.imp fun a z => s2.nm z) ?_)
      rintro a j w s ⟨⟨c, rfl⟩, rfl⟩ hw hs hf
      obtain ⟨a', o, e', _, hH, _, hn, _⟩ := q2
      cases e'
      rcases q3.new ⟨j, w, s, hw, hs, hf⟩ with z | z
      · rw [hH] at z; cases z
      · exact hn z
    have val : ∀ d e', frz r1 e1 = .ok d e' → post X.K X.mg W (rA2 X.K X.mg) F H e σ ((M.bind fs fun rs => M.ret (RV.val d :: rs)) e') Q → cG X.K X.mg W (rA2 X.K X.mg) fs σ H1 fun xs H2 => Q (x :: xs) H2 := fun d e' w h2 => by
      obtain ⟨F2, s2, R2, q2⟩ := frz_ok R1 q1 w s1
      exact fin (.val d) e' F2 (fun i z => by cases z) R2 s2 q2 h2
    cases r1 with
    | own c => exact fin (.own c) e1 F1 (fun i z => by cases z) R1 s1 q1 h1
    | val d => exact val d e1 rfl h1
    | pk i =>
      have z := h1
      unfold M.bind at z
      cases w : frz (.pk i) e1 with
      | ok d e' =>
        refine val d e' w ?_
        dsimp only at z
        rw [w] at z
        exact z
      | ex x e' => exact (frz_noex w).elim
      | bad => dsimp only at z; rw [w] at z; exact z.elim
/-! storing all of them -/
def storAll : List Nat → List RV → M Flo
  | [], [] => sNil
  | i :: is, r :: rs => sSeq (stor i r) (storAll is rs)
  | _, _ => sBad
def setAll (σ : St) : List Nat → List V → St
  | i :: is, v :: vs => setAll (σ.set i (some v)) is vs
  | _, _ => σ
/-- stor, told as a step -/
theorem stor_step {K : PySem.W.Frag} {mg : Mg} {F H F0 H0 : Hp} {e e0 e' : Sl} {σ σ0 : St} {i : Nat} {r : RV} {v : V} (R : Rel K mg F e σ H) (q : RVOk K mg (NM H0 e0 σ0) F H e σ v r) (s0 : Stp F0 H0 e0 σ0 F H e σ) (w : stor i r e = .ok .nx e') :
    ∃ F', Stp F0 H0 e0 σ0 F' H e' (σ.set i (some v)) ∧ Rel K mg F' e' (σ.set i (some v)) H ∧ Same F F' ∧ (∀ b, Own e' (σ.set i (some v)) b → Own e σ b ∨ Fr1 r v b) ∧ (∀ b, F b = none → F' b ≠ none → Own e σ b ∨ Fr1 r v b) := by
  have val : ∀ d e2, frz r e = .ok d e2 → stoV i d e2 = .ok .nx e' → (∀ c, r ≠ .own c) → ∃ F', Stp F0 H0 e0 σ0 F' H e' (σ.set i (some v)) ∧ Rel K mg F' e' (σ.set i (some v)) H ∧ Same F F' ∧ (∀ b, Own e' (σ.set i (some v)) b → Own e σ b ∨ Fr1 r v b) ∧ (∀ b, F b = none → F' b ≠ none → Own e σ b ∨ Fr1 r v b) := fun d e2 w h hr => by
    have q' : RVOk K mg (NM H e σ) F H e σ v r := by
      cases r with
      | val d => exact q
      | pk j => exact q
      | own c => exact absurd rfl (hr c)
    obtain ⟨F3, s3, R3, q3⟩ := frz_ok R q' w Stp.refl
    unfold stoV at h
    split at h
    · rename_i z
      cases h
      refine ⟨F3, (s0.trans s3).put (sto_ok z), R3.put q3 (sto_ok z).1, s3.fro, fun b hb => .inl ?_, fun b h1 h2 => .inl ?_⟩
      · rcases s3.newO b (own_put hb) with y | y
        · obtain ⟨j, f, c, h3, h4⟩ := own_put hb
          obtain ⟨a', o, e'', _, hH, _⟩ := R3.ok j _ _ h3 h4
          cases e''
          rw [y] at hH; cases hH
        · exact y
      · rcases s3.newF b h1 h2 with y | y
        · cases z3 : F3 b with
          | none => exact absurd z3 h2
          | some u => have := R3.sub b u z3; rw [y] at this; cases this
        · exact y
    · cases h
  cases r with
  | own c =>
    unfold stor at w
    dsimp only at w
    obtain ⟨a, o, rfl, hF, hH, hc, hn, hN⟩ := q
    split at w
    · rename_i z
      cases w
      refine ⟨F, s0.putOwn (sto_ok z) R.len hN, R.putOwn hF hH hc hn (sto_ok z).1, Same.refl _, ?_, fun b h1 h2 => absurd h1 h2⟩
      rintro b ⟨j, f, c', h1, h2⟩
      rcases get_set_of h1 with ⟨rfl, y⟩ | ⟨n, h1⟩
      · rw [List.getElem?_set_self (by rw [← R.len]; exact (sto_ok z).1)] at h2
        cases h2
        exact .inr ⟨⟨c, rfl⟩, rfl⟩
      · rw [List.getElem?_set_ne n] at h2
        exact .inl ⟨j, f, c', h1, h2⟩
    · cases w
  | val d => exact val d e rfl w (fun c z => by cases z)
  | pk j =>
    unfold stor M.bind at w
    dsimp only at w
    cases y : frz (.pk j) e with
    | ok d e2 => rw [y] at w; exact val d e2 y w (fun c z => by cases z)
    | ex x e' => exact (frz_noex y).elim
    | bad => rw [y] at w; cases w
theorem stor_nx {e : Sl} {i : Nat} {r : RV} : stor i r e = .bad ∨ ∃ e', stor i r e = .ok .nx e' := by
  have val : ∀ d e2, stoV i d e2 = .bad ∨ ∃ e', stoV i d e2 = .ok .nx e' := fun d e2 => by
    unfold stoV
    split
    · exact .inr ⟨_, rfl⟩
    · exact .inl rfl
  cases r with
  | own c =>
    unfold stor
    dsimp only
    split
    · exact .inr ⟨_, rfl⟩
    · exact .inl rfl
  | val d => exact val d e
  | pk j =>
    unfold stor M.bind
    dsimp only
    cases y : frz (.pk j) e with
    | ok d e2 => exact val d e2
    | ex x e' => exact (frz_noex y).elim
    | bad => exact .inl rfl
theorem storAll_ok {K : PySem.W.Frag} {mg : Mg} {F0 H0 H : Hp} {e0 : Sl} {σ0 : St} {E : Ends} : ∀ {is : List Nat} {rs : List RV} {vs : List V} {F : Hp} {e : Sl} {σ : St}, Rel K mg F e σ H → Args2 K mg (NM H0 e0 σ0) F H e σ vs rs → Stp F0 H0 e0 σ0 F H e σ →
    postS K mg W F0 H0 e0 σ0 (storAll is rs e) E → E.nx (setAll σ is vs) H
  | [], _, _, F, e, σ, R, .nil, s, h => h σ F H s R
  | [], _, _, F, e, σ, R, .cons _ _ _ _, s, h => h.elim
  | i :: is, _, _, F, e, σ, R, .nil, s, h => h.elim
  | i :: is, _, _, F, e, σ, R, .cons (v := v) (r := r) (vs := vs) (rs := rs) q hr t dd, s, h => by
    unfold storAll sSeq at h
    rcases stor_nx (e := e) (i := i) (r := r) with w | ⟨e', w⟩
    · rw [w] at h; exact h.elim
    · rw [w] at h
      obtain ⟨F', s', R', sm, nO, nF⟩ := stor_step R q s w
      refine storAll_ok (vs := vs) (rs := rs) R' ?_ s' h
      have hop : ∀ b, Own e σ b ∨ Fr1 r v b → ∀ j w s, vs[j]? = some w → rs[j]? = some s → Fr1 s w b → False := fun b hb j w s h1 h2 h3 => by
        rcases hb with hb | hb
        · have ok : ∀ {vs : List V} {rs : List RV} {j : Nat}, Args2 K mg (NM H0 e0 σ0) F H e σ vs rs → vs[j]? = some w → rs[j]? = some s → RVOk K mg (NM H0 e0 σ0) F H e σ w s := by
            intro vs rs j A
            induction A generalizing j with
            | nil => intro z; simp at z
            | cons p _ _ _ ih =>
              cases j with
              | zero => intro z z'; simp at z z'; subst z z'; exact p
              | succ j => intro z z'; exact ih (by simpa using z) (by simpa using z')
          have z := ok t h1 h2
          obtain ⟨⟨c, rfl⟩, rfl⟩ := h3
          obtain ⟨a', o, e'', _, _, _, hn, _⟩ := z
          cases e''
          exact hn hb
        · exact dd b j w s hb h1 h2 h3
      have go : ∀ {vs : List V} {rs : List RV}, Args2 K mg (NM H0 e0 σ0) F H e σ vs rs → (∀ b, Own e σ b ∨ Fr1 r v b → ∀ (j : Nat) w s, vs[j]? = some w → rs[j]? = some s → Fr1 s w b → False) → Args2 K mg (NM H0 e0 σ0) F' H e' (σ.set i (some v)) vs rs := by
        intro vs rs A
        induction A with
        | nil => intro _; exact .nil
        | cons p1 p2 _ p4 ih =>
          rename_i v1 vs1 r1 rs1 _
          intro ho
          refine .cons ?_ p2 (ih fun b hb j w s h1 h2 h3 => ho b hb (j + 1) w s (by simpa using h1) (by simpa using h2) h3) p4
          cases r1 with
          | val d => exact Rep.mono sm p1
          | pk k => exact absurd rfl (p2 k)
          | own c =>
            obtain ⟨a', o, rfl, hF, hH, hc, hn, hN⟩ := p1
            have na : ¬ (Own e σ a' ∨ Fr1 r v a') := fun z => ho a' z 0 _ _ rfl rfl ⟨⟨c, rfl⟩, rfl⟩
            refine ⟨a', o, rfl, ?_, hH, hc.mono sm, fun z => na (nO a' z), hN⟩
            cases z : F' a' with
            | none => rfl
            | some u => exact absurd (nF a' hF (by rw [z]; exact fun y => nomatch y)) na
      exact go t hop
def sPar (is : List Nat) (fs : M (List RV)) : M Flo := M.bind fs (storAll is)
theorem sPar_ok {K : PySem.W.Frag} {mg : Mg} {is : List Nat} {E : Ends} {σ : St} {H : Hp} (h : cS K mg W (sPar is fs) E σ H) : cG K mg W (rA2 K mg) fs σ H fun vs H1 => E.nx (setAll σ is vs) H1 := by
  obtain ⟨e, F, R, h⟩ := h
  refine ⟨e, F, R, post_imp (postS_seq h) ?_⟩
  rintro vs H1 ⟨rs, e1, F1, q1, R1, s1, h1⟩
  exact storAll_ok R1 q1 s1 h1
theorem storAll_len {is : List Nat} : ∀ {rs : List RV} {e : Sl}, storAll is rs e ≠ .bad → is.length = rs.length := by
  induction is with
  | nil => intro rs e h; cases rs with
    | nil => rfl
    | cons r rs => exact absurd rfl h
  | cons i is ih => intro rs e h; cases rs with
    | nil => exact absurd rfl h
    | cons r rs =>
      unfold storAll sSeq at h
      rcases stor_nx (e := e) (i := i) (r := r) with w | ⟨e', w⟩
      · rw [w] at h; exact absurd rfl h
      · rw [w] at h; rw [List.length_cons, List.length_cons, ih h]
theorem Args2.len {K : PySem.W.Frag} {mg : Mg} {N : Addr → Prop} {F H : Hp} {e : Sl} {σ : St} : ∀ {vs : List V} {rs : List RV}, Args2 K mg N F H e σ vs rs → vs.length = rs.length
  | _, _, .nil => rfl
  | _, _, .cons _ _ t _ => congrArg (· + 1) t.len
theorem sPar_len {K : PySem.W.Frag} {mg : Mg} {is : List Nat} {E : Ends} {σ : St} {H : Hp} (h : cS K mg W (sPar is fs) E σ H) : cG K mg W (rA2 K mg) fs σ H fun vs H1 => vs.length = is.length ∧ E.nx (setAll σ is vs) H1 := by
  obtain ⟨e, F, R, h⟩ := h
  refine ⟨e, F, R, post_imp (postS_seq h) ?_⟩
  rintro vs H1 ⟨rs, e1, F1, q1, R1, s1, h1⟩
  refine ⟨?_, storAll_ok R1 q1 s1 h1⟩
  rw [q1.len]
  exact (storAll_len fun z => by rw [z] at h1; exact h1).symm
theorem ds_par2 (i j : Nat) {x y : Str} {px py pt pt2 : Pos} {kt k2 : Nat} (hc : X.calm = true) (hN : X.N.Nodup) (ha : DA2 X W [a, b] fs) (hi : X.N[i]? = some x := by rfl) (hj : X.N[j]? = some y := by rfl) (hij : i ≠ j := by decide)
    (hx : X.env.scope.names.lookup x = some .local := by rfl) (hy : X.env.scope.names.lookup y = some .local := by rfl)
    (hw : swappedStores [.Tuple [.Name x px, .Name y py] kt pt] (.Tuple [a, b] k2 pt2) X.env = pure (some [x, y]) := by rfl) (hs : swapsWithSole [.Tuple [.Name x px, .Name y py] kt pt] (.Tuple [a, b] k2 pt2) pos.line X.env = pure false := by rfl) :
    DS X W (.Assign [.Tuple [.Name x px, .Name y py] kt pt] (.Tuple [a, b] k2 pt2) pos) (sPar [i, j] fs) := psW (ps_par hc hN hi hj hij hx hy ha hw hs) fun E σ H h => by
  obtain ⟨e, F, R, z⟩ := sPar_len h
  refine ⟨e, F, R, post_imp z ?_⟩
  rintro vs H1 ⟨hl, q⟩
  match vs, hl, q with
  | [v, w], _, q => exact ⟨v, w, rfl, q⟩
theorem ds_par3 (i j l : Nat) {x y z : Str} {px py pz pt pt2 : Pos} {kt k2 : Nat} (hc : X.calm = true) (hN : X.N.Nodup) (ha : DA2 X W [a, b, c] fs) (hi : X.N[i]? = some x := by rfl) (hj : X.N[j]? = some y := by rfl) (hl : X.N[l]? = some z := by rfl) (hij : i ≠ j := by decide) (hil : i ≠ l := by decide) (hjl : j ≠ l := by decide)
    (hx : X.env.scope.names.lookup x = some .local := by rfl) (hy : X.env.scope.names.lookup y = some .local := by rfl) (hz : X.env.scope.names.lookup z = some .local := by rfl)
    (hw : swappedStores [.Tuple [.Name x px, .Name y py, .Name z pz] kt pt] (.Tuple [a, b, c] k2 pt2) X.env = pure (some [x, y, z]) := by rfl) (hs : swapsWithSole [.Tuple [.Name x px, .Name y py, .Name z pz] kt pt] (.Tuple [a, b, c] k2 pt2) pos.line X.env = pure false := by rfl) :
    DS X W (.Assign [.Tuple [.Name x px, .Name y py, .Name z pz] kt pt] (.Tuple [a, b, c] k2 pt2) pos) (sPar [i, j, l] fs) := psW (ps_par3 hc hN hi hj hl hij hil hjl hx hy hz ha hw hs) fun E σ H h => by
  obtain ⟨e, F, R, z⟩ := sPar_len h
  refine ⟨e, F, R, post_imp z ?_⟩
  rintro vs H1 ⟨hl, q⟩
  match vs, hl, q with
  | [v, w, u], _, q => exact ⟨v, w, u, rfl, q⟩
end
end Y

set_option Elab.async false
set_option linter.all false
set_option maxRecDepth 100000
set_option maxHeartbeats 4000000
namespace Y
open PySem PySem.Spec L2
set_option autoImplicit false
variable [TB]
/-! ### lists that grow or change -/
def sApp (i : Nat) (f : M RV) : M Flo := fun e => match e[i]? with
  | some (.own _ (.lst _)) => (M.bind f fun r => M.bind (frz r) fun d => fun e => match e[i]? with
    | some (.own fx (.lst xs)) => if xs.length < sizeLine then .ok .nx (e.set i (.own fx (.lst (xs ++ [d])))) else .bad
    | _ => .bad) e
  | _ => .bad
/-- slot i [ index ] = value -/
def sSetIx (i : Nat) (fv fx : M RV) : M Flo := M.bind fv fun r => M.bind (frz r) fun d => fun e => match e[i]? with
  | some (.own _ (.lst _)) => (M.bind fx fun r' => fun e => match rdat e r', e[i]? with
    | some (.int k), some (.own b (.lst xs)) => (match ixN xs.length k with
      | some j => .ok .nx (e.set i (.own b (.lst (xs.set j d))))
      | none => .bad)
    | _, _ => .bad) e
  | _ => .bad
section
variable {X : Cx} {W : WX} {a b c : Expr} {es : List Expr} {f g h : M RV} {pos pos' pos'' apos cpos : Pos} {x : Str}
theorem own_at {K : PySem.W.Frag} {mg : Mg} {F H : Hp} {e : Sl} {σ : St} {i : Nat} {fx : Bool} {c : Cont} (R : Rel K mg F e σ H) (es : e[i]? = some (.own fx c)) : ∃ p o, σ[i]? = some (some (.ref p)) ∧ H p = some o ∧ ContOk K mg F c o := by
  have hl : i < σ.length := by rw [← R.len]; exact (List.getElem?_eq_some_iff.mp es).1
  obtain ⟨p, o, h1, _, hH, hc⟩ := R.ok i _ _ es (List.getElem?_eq_getElem hl)
  exact ⟨p, o, by rw [List.getElem?_eq_getElem hl, h1], hH, hc⟩
theorem ds_app (i : Nat) (ha : DE X W a f) (hN : X.N[i]? = some x := by rfl) (hv : Vis X.env.scope x := by first | exact Or.inl rfl | exact Or.inr (Or.inl rfl) | exact Or.inr (Or.inr rfl)) (hd : (x == ("__debug__" : Str)) = false := by decide)
    (hcd : (x == ("__classdict__" : Str)) = false := by decide) (hline : (apos.endLine == cpos.line) = true := by rfl) (hs : starEach [a] X.env = (false, eval a X.env) :: starEach [] X.env := by rfl)
    (hfew : ((backTo cpos (starEach [a] X.env)).all (fun x => !x.1) && (backToKw cpos (keywordEach [] X.env)).all (fun x => x.1.isSome) && decide ([a].length + ([] : List Keyword).length + (if ([] : List Keyword).isEmpty then 0 else 1) < 30)) = true := by rfl)
    (hsw : swapsWith (.Call (.Attribute (.Name x pos') "append" apos) [a] [] cpos) none pos.line X.env = pure false := by rfl) :
    DS X W (.Expr (.Call (.Attribute (.Name x pos') "append" apos) [a] [] cpos) pos) (sApp i f) :=
  psW (ps_expr (pe_bm PySem.F.plainAttrs_list PySem.F.slot_list_append PySem.F.type_list_append mt_append (pe_var hN hv hd hcd) (pa_cons ha pa_nil hs) rfl hfew hline hs rfl) hsw) fun E σ H ⟨e, F, R, h⟩ => by
    unfold sApp at h
    split at h
    · rename_i fx xs0 es
      obtain ⟨p, o, hp, hH, vs0, rfl, r0⟩ := own_at R es
      refine ⟨_, hp, .inl ⟨rfl, _, SqL.of hH⟩, e, F, R, post_imp (postS_seq h) ?_⟩
      rintro y H1 ⟨r, e1, F1, q1, R1, s1, h1⟩
      cases w : frz r e1 with
      | bad => unfold M.bind at h1; rw [w] at h1; exact h1.elim
      | ex x e' => exact (frz_noex w).elim
      | ok d e2 =>
        unfold M.bind at h1
        rw [w] at h1
        obtain ⟨F2, s2, R2, q2⟩ := frz_ok R1 q1 w s1
        dsimp only at h1
        split at h1
        · rename_i fx' xs es2
          obtain ⟨p', o', hp', hH', vs, rfl, rv⟩ := own_at R2 es2
          rw [hp] at hp'; cases hp'
          split at h1
          · rename_i hz
            refine ⟨p, vs, y, rfl, rfl, hH', by rw [rv.length]; exact hz, ?_⟩
            exact h1 σ F2 _ (s2.change R2 es2 hp) (R2.change es2 hp ⟨_, rfl, rv.append (.cons q2 .nil)⟩)
          · exact h1.elim
        · exact h1.elim
    · exact h.elim
theorem ds_setIx (i : Nat) (hf : DE X W a f) (hg : DE X W b g) (hN : X.N[i]? = some x := by rfl) (hv : Vis X.env.scope x := by first | exact Or.inl rfl | exact Or.inr (Or.inl rfl) | exact Or.inr (Or.inr rfl)) (hd : (x == ("__debug__" : Str)) = false := by decide)
    (hcd : (x == ("__classdict__" : Str)) = false := by decide)
    (ha : ∀ v, assign (.Subscript (.Name x pos') b pos'') X.env v = (do
      let ov ← holding [v] (eval (.Name x pos') X.env)
      let iv ← holding [v, ov] (eval b X.env)
      standAt pos''
      holding [v, ov, iv] (setItem ov iv v)
      release [v, ov, iv] []) := by intro _; rfl)
    (hs : swapsWithSole [.Subscript (.Name x pos') b pos''] a pos.line X.env = pure false := by rfl) (hw : swappedStores [.Subscript (.Name x pos') b pos''] a X.env = pure none := by rfl)
    (h1 : (assignEach [.Subscript (.Name x pos') b pos''] X.env).map (·.2) = [assign (.Subscript (.Name x pos') b pos'') X.env] := by rfl) :
    DS X W (.Assign [.Subscript (.Name x pos') b pos''] a pos) (sSetIx i f g) :=
  psW (ps_asg hf (pg_sub (pe_var hN hv hd hcd) hg set_list ha) hs hw h1) fun E σ H ⟨e, F, R, h⟩ => by
    refine ⟨e, F, R, post_imp (postS_seq h) ?_⟩
    rintro y H1 ⟨r, e1, F1, q1, R1, s1, h1⟩
    cases w : frz r e1 with
    | bad => unfold M.bind at h1; rw [w] at h1; exact h1.elim
    | ex x e' => exact (frz_noex w).elim
    | ok d e2 =>
      have h2 := h1
      unfold M.bind at h2
      rw [w] at h2
      obtain ⟨F2, s2, R2, q2⟩ := frz_ok R1 q1 w s1
      dsimp only at h2
      split at h2
      · rename_i fx0 xs0 es
        obtain ⟨p, o, hp, hH, vs0, rfl, r0⟩ := own_at R2 es
        refine ⟨_, hp, e2, F2, R2, post_imp (postS_seqG (f := g) (R1 := rV X.K X.mg) s2 h2) ?_⟩
        rintro z H3 ⟨r', e3, F3, q3, R3, s3, h3⟩
        split at h3
        · rename_i k fx xs wk es3
          split at h3
          · rename_i j hj
            obtain ⟨p', o', hp', hH', vs, rfl, rv⟩ := own_at R3 es3
            rw [hp] at hp'; cases hp'
            refine ⟨p, vs, k, j, rfl, R3.rd q3 wk, hH', by rw [rv.length]; exact hj, ?_⟩
            exact h3 σ F3 _ ((s2.trans s3).change R3 es3 hp) (R3.change es3 hp ⟨_, rfl, rv.set (q2.mono s3.fro) j⟩)
          · exact h3.elim
        · exact h3.elim
      · exact h2.elim
end
/-! ### targets -/
section
variable (K : PySem.W.Frag) (mg : Mg)
/-- the same slots but those of us -/
def But (us : List Nat) (σ σ' : St) : Prop := σ'.length = σ.length ∧ ∀ i, i ∉ us → σ'[i]? = σ[i]?
def postU (us : List Nat) (F H : Hp) (e : Sl) (σ : St) (r : Res Unit) (Q : St → Hp → Prop) : Prop := match r with
  | .ok _ e' => ∀ σ' F' H', Stp F H e σ F' H' e' σ' → Rel K mg F' e' σ' H' → But us σ σ' → Q σ' H'
  | _ => False
def cU (us : List Nat) (t : D → M Unit) : TG := fun v σ H Q => ∃ e F d, Rel K mg F e σ H ∧ Rep K mg F v d ∧ postU K mg us F H e σ (t d e) Q
def cUs (us : List Nat) (t : List D → M Unit) : TGs := fun vs σ H Q => ∃ e F ds, Rel K mg F e σ H ∧ Reps K mg F vs ds ∧ postU K mg us F H e σ (t ds e) Q
end
theorem But.refl (us : List Nat) (σ : St) : But us σ σ := ⟨rfl, fun _ _ => rfl⟩
theorem But.trans {us us' : List Nat} {σ σ1 σ2 : St} (a : But us σ σ1) (b : But us' σ1 σ2) : But (us ++ us') σ σ2 := ⟨b.1.trans a.1, fun i h => (b.2 i fun z => h (List.mem_append_right _ z)).trans (a.2 i fun z => h (List.mem_append_left _ z))⟩
theorem But.set (i : Nat) (σ : St) (o : Option V) : But [i] σ (σ.set i o) := ⟨List.length_set, fun j h => List.getElem?_set_ne fun z => h (by rw [z]; exact List.mem_cons_self)⟩
theorem postU_imp {K : PySem.W.Frag} {mg : Mg} {us : List Nat} {F H : Hp} {e : Sl} {σ : St} {r : Res Unit} {Q Q' : St → Hp → Prop} (h : postU K mg us F H e σ r Q) (i : ∀ σ H, Q σ H → Q' σ H) : postU K mg us F H e σ r Q' := by
  cases r with
  | ok a e' => exact fun σ' F' H' s q b => i _ _ (h σ' F' H' s q b)
  | ex x e' => exact h
  | bad => exact h
theorem postU_from {K : PySem.W.Frag} {mg : Mg} {us us' : List Nat} {F H F1 H1 : Hp} {e e1 : Sl} {σ σ1 : St} {r : Res Unit} {Q : St → Hp → Prop} (s : Stp F H e σ F1 H1 e1 σ1) (bt : But us σ σ1) (h : postU K mg (us ++ us') F H e σ r Q) : postU K mg us' F1 H1 e1 σ1 r Q := by
  cases r with
  | ok a e' => exact fun σ' F' H' s' q b => h _ _ _ (s.trans s') q (bt.trans b)
  | ex x e' => exact h
  | bad => exact h
abbrev DG (X : Cx) (tg : Expr) (us : List Nat) (t : D → M Unit) : Prop := PG X tg (cU X.K X.mg us t)
abbrev DGs (X : Cx) (tg : List Expr) (us : List Nat) (t : List D → M Unit) : Prop := PGs X tg (cUs X.K X.mg us t)
def tName (i : Nat) : D → M Unit := fun d e => if sto e i then .ok () (e.set i (.val d)) else .bad
def tTupD (n : Nat) (t : List D → M Unit) : D → M Unit
  | .tup ds => fun e => if ds.length = n then t ds e else .bad
  | _ => M.bad
def tsNil : List D → M Unit
  | [] => M.ret ()
  | _ => M.bad
def tsCons (t : D → M Unit) (ts : List D → M Unit) : List D → M Unit
  | d :: ds => fun e => match t d e with
    | .ok _ e' => ts ds e'
    | .ex x e' => .ex x e'
    | .bad => .bad
  | [] => M.bad
section
variable {X : Cx} {W : WX} {a b c tg : Expr} {es : List Expr} {f g h : M RV} {t : D → M Unit} {ts : List D → M Unit} {us us' : List Nat} {pos : Pos} {x : Str}
theorem pgW {X : Cx} {e : Expr} {t t' : TG} (h : PG X e t) (i : ∀ v σ H Q, t' v σ H Q → t v σ H Q) : PG X e t' := ⟨fun pins s σ H v u Q I r q => h.run pins s σ H v u Q I r (i v σ H Q q)⟩
theorem pgsW {X : Cx} {e : List Expr} {t t' : TGs} (h : PGs X e t) (i : ∀ v σ H Q, t' v σ H Q → t v σ H Q) : PGs X e t' := ⟨fun pins s σ H v u Q I r q => h.run pins s σ H v u Q I r (i v σ H Q q)⟩
theorem dg_name (i : Nat) (hN : X.N.Nodup) (hi : X.N[i]? = some x := by rfl) (hx : Loc X.env.scope x := by first | exact Or.inl rfl | exact Or.inr rfl) (hf : X.fn x = true ∨ X.env.scope.names.lookup x = some .local := by first | exact .inl rfl | exact .inr rfl) : DG X (.Name x pos) [i] (tName i) :=
  pgW (pg_name hN hi hx hf) fun v σ H Q ⟨e, F, d, R, q, h⟩ => by
    unfold tName at h
    split at h
    · rename_i z
      exact h _ F H (Stp.refl.put (sto_ok z)) (R.put q (sto_ok z).1) (But.set _ _ _)
    · exact h.elim
theorem dgs_nil : DGs X [] [] tsNil := pgsW pgs_nil fun vs σ H Q ⟨e, F, ds, R, q, h⟩ => by
  cases q with
  | nil => exact ⟨rfl, h σ F H Stp.refl R (But.refl _ _)⟩
  | cons _ _ => exact h.elim
theorem dgs_cons (h1 : DG X a us t) (h2 : DGs X es us' ts) (hs : (assignEach (a :: es) X.env).map (·.2) = assign a X.env :: (assignEach es X.env).map (·.2) := by rfl) : DGs X (a :: es) (us ++ us') (tsCons t ts) := pgsW (pgs_cons h1 h2 hs) fun vs σ H Q ⟨e, F, ds, R, q, h⟩ => by
  cases q with
  | nil => exact h.elim
  | cons q r =>
    refine ⟨_, _, rfl, e, F, _, R, q, ?_⟩
    unfold tsCons at h
    dsimp only at h
    cases w : t _ e with
    | bad => rw [w] at h; exact h.elim
    | ex x e' => rw [w] at h; exact h.elim
    | ok u e1 => rw [w] at h; exact fun σ' F' H' s q b => ⟨e1, F', _, q, r.mono s.fro, postU_from s b h⟩
theorem dg_tup {k n : Nat} (hc : X.calm = true) (h : DGs X es us ts) (hn : (assignEach es X.env).length = n := by rfl) (hst : (assignEach es X.env).findIdx? (·.1) = none := by rfl) : DG X (.Tuple es k pos) us (tTupD n ts) := pgW (pg_tup hc h hn hst) fun v σ H Q ⟨e, F, d, R, q, h⟩ => by
  unfold tTupD at h
  split at h
  · rename_i ds
    split at h
    · rename_i hl
      cases q with
      | tup q r => exact ⟨_, _, rfl, sqT_mono R.sub q, by rw [r.length]; exact hl, e, F, ds, R, r, h⟩
    · exact h.elim
  · exact h.elim
/-- target = value, frozen -/
def sAsg (f : M RV) (t : D → M Unit) : M Flo := M.bind f fun r => M.bind (frz r) fun d => fun e => match t d e with
  | .ok _ e' => .ok .nx e'
  | _ => .bad
theorem ds_asg (ha : DE X W a f) (hg : DG X tg us t) (hs : swapsWithSole [tg] a pos.line X.env = pure false := by rfl) (hw : swappedStores [tg] a X.env = pure none := by rfl) (h1 : (assignEach [tg] X.env).map (·.2) = [assign tg X.env] := by rfl) : DS X W (.Assign [tg] a pos) (sAsg f t) :=
  psW (ps_asg ha hg hs hw h1) fun E σ H ⟨e, F, R, h⟩ => by
    refine ⟨e, F, R, post_imp (postS_seq h) ?_⟩
    rintro y H1 ⟨r, e1, F1, q1, R1, s1, h1⟩
    cases w : frz r e1 with
    | bad => unfold M.bind at h1; rw [w] at h1; exact h1.elim
    | ex x e' => exact (frz_noex w).elim
    | ok d e2 =>
      unfold M.bind at h1
      rw [w] at h1
      obtain ⟨F2, s2, R2, q2⟩ := frz_ok R1 q1 w s1
      dsimp only at h1
      refine ⟨e2, F2, d, R2, q2, ?_⟩
      cases w2 : t d e2 with
      | bad => rw [w2] at h1; exact h1.elim
      | ex x e' => rw [w2] at h1; exact h1.elim
      | ok u e3 => rw [w2] at h1; exact fun σ' F' H' s q _ => h1 σ' F' H' (s2.trans s) q
end
end Y

set_option Elab.async false
set_option linter.all false
set_option maxRecDepth 100000
set_option maxHeartbeats 4000000
namespace Y
open PySem PySem.Spec L2
set_option autoImplicit false
variable [TB]
/-! ### what is walked, by the data that it gives -/
section
variable (K : PySem.W.Frag) (mg : Mg) (W : WX)
/-- what is given at a turn: an old thing, or a new pair of old ones -/
def Yld (F H : Hp) (x : V) (H' : Hp) (d : D) : Prop := (H' = H ∧ Rep K mg F x d) ∨ ∃ T a b da db, x = .ref T ∧ H T = none ∧ H' = upd H T (.tup [a, b]) ∧ d = .tup [da, db] ∧ Rep K mg F a da ∧ Rep K mg F b db
def WalkD (F : Hp) (J : It) (ds : List D) : Prop := Walk J ds.length (fun H => Same F H) (fun i H x H' => ∃ d, ds[i]? = some d ∧ Yld K mg F H x H' d)
def cI (it : M (List D)) : TI := fun σ H R => ∃ e F, Rel K mg F e σ H ∧ match it e with
  | .ok ds e' => ∀ J F' H', Stp F H e σ F' H' e' σ → Rel K mg F' e' σ H' → WalkD K mg F' J ds → R J H'
  | .ex x e' => ∀ cls d F' H', Stp F H e σ F' H' e' σ → Rel K mg F' e' σ H' → XOk K mg F' cls d x → W cls d σ H'
  | .bad => False
end
abbrev DI (X : Cx) (W : WX) (tg iter : Expr) (it : M (List D)) : Prop := PI X tg iter (cI X.K X.mg W it)
theorem piW {X : Cx} {tg e : Expr} {t t' : TI} (h : PI X tg e t) (i : ∀ σ H Q, t' σ H Q → t σ H Q) : PI X tg e t' := ⟨fun pins s σ H Q I q => h.run pins s σ H Q I (i σ H Q q)⟩
section
variable {K : PySem.W.Frag} {mg : Mg} {W : WX} {F H H' F0 H0 : Hp} {e e0 : Sl} {σ σ0 : St} {x : V} {d : D}
/-- the thing that a turn gives, frozen -/
theorem Yld.got {G : Hp} (R : Rel K mg F e σ H) (sm : Same G F) (y : Yld K mg G H x H' d) : ∃ F', Stp F H e σ F' H' e σ ∧ Rel K mg F' e σ H' ∧ Rep K mg F' x d := by
  rcases y with ⟨rfl, r⟩ | ⟨T, a, b, da, db, rfl, hT, rfl, rfl, ra, rb⟩
  · exact ⟨F, Stp.refl, R, r.mono sm⟩
  · refine ⟨upd F T (.tup [a, b]), Stp.freeze (R.new hT) upd_same (R.free hT) (Stp.new R hT) (.inl hT), (R.new hT).freeze upd_same (R.notOwn hT) (R.free hT) (fun ps z => by cases z), ?_⟩
    have sm' := sm.trans (same_upd' (o := .tup [a, b]) (R.free hT))
    exact .tup (SqT.of upd_same) (.cons (ra.mono sm') (.cons (rb.mono sm') .nil))
end
def itSeq (f : M RV) : M (List D) := M.bind f fun r => M.bind (frz r) fun d => match d with
  | .lst ds => M.ret ds
  | .tup ds => M.ret ds
  | _ => M.bad
def rangeD (lo : Int) (n : Nat) : List D := (List.range n).map fun i : Nat => D.int (lo + (i : Int))
def itR1 (f : M RV) : M (List D) := M.bind f fun r => fun e => match rdat e r with
  | some (.int j) => if -(2 ^ 62) ≤ j ∧ j < 2 ^ 62 then .ok (rangeD 0 j.toNat) e else .bad
  | _ => .bad
def itR2 (f g : M RV) : M (List D) := M.bind f fun r => M.bind g fun r' => fun e => match rdat e r, rdat e r' with
  | some (.int i), some (.int j) => if -(2 ^ 62) ≤ i ∧ i < 2 ^ 62 ∧ -(2 ^ 62) ≤ j ∧ j < 2 ^ 62 then .ok (rangeD i (j - i).toNat) e else .bad
  | _, _ => .bad
section
variable {X : Cx} {W : WX} {a b c tg : Expr} {f g : M RV} {pos p : Pos}
theorem walkD_range {K : PySem.W.Frag} {mg : Mg} {F : Hp} (lo : Int) (n : Nat) : WalkD K mg F (Itr lo n) (rangeD lo n) := by
  have hn : (rangeD lo n).length = n := by unfold rangeD; rw [List.length_map, List.length_range]
  unfold WalkD
  rw [hn]
  refine (walk_range (lo := lo) (n := n)).mono (fun _ _ => trivial) fun i H x H' hi _ y => ?_
  obtain ⟨rfl, rfl⟩ := y
  refine ⟨.int (lo + i), ?_, .inl ⟨rfl, .int _⟩⟩
  unfold rangeD
  rw [List.getElem?_map, List.getElem?_range hi]
  rfl
theorem walkD_list {K : PySem.W.Frag} {mg : Mg} {F : Hp} {a : Addr} {vs : List V} {ds : List D} (h : SqL K F a vs) (r : Reps K mg F vs ds) : WalkD K mg F (Itl K a) ds := by
  unfold WalkD
  rw [← r.length]
  refine (walk_list (K := K) (a := a) (xs := vs)).mono (fun H s => s.seq h) fun i H x H' hi s y => ?_
  obtain ⟨rfl, hx⟩ := y
  have hd : i < ds.length := by rw [← r.length]; exact hi
  obtain ⟨v, h1, h2⟩ := r.get (List.getElem?_eq_getElem hd)
  rw [hx] at h1; cases h1
  exact ⟨_, List.getElem?_eq_getElem hd, .inl ⟨rfl, h2⟩⟩
theorem walkD_tup {K : PySem.W.Frag} {mg : Mg} {F : Hp} {a : Addr} {vs : List V} {ds : List D} (h : SqT K F a vs) (r : Reps K mg F vs ds) : WalkD K mg F (Itt K a) ds := by
  unfold WalkD
  rw [← r.length]
  refine (walk_tup (K := K) (a := a) (xs := vs)).mono (fun H s => sqT_mono s h) fun i H x H' hi s y => ?_
  obtain ⟨rfl, hx⟩ := y
  have hd : i < ds.length := by rw [← r.length]; exact hi
  obtain ⟨v, h1, h2⟩ := r.get (List.getElem?_eq_getElem hd)
  rw [hx] at h1; cases h1
  exact ⟨_, List.getElem?_eq_getElem hd, .inl ⟨rfl, h2⟩⟩
theorem di_range1 (hg : Gl X "range") (hm : X.mg "range" = none) (ha : DE X W a f) (hs : starEach [a] X.env = [(false, eval a X.env)] := by rfl) (hs' : starEach [a] X.env = (false, eval a X.env) :: starEach [] X.env := by rfl) :
    DI X W tg (.Call (.Name "range" p) [a] [] pos) (itR1 f) := piW (pi_range1 hg hm (pa_cons ha pa_nil hs') hs) fun σ H Q ⟨e, F, R, h⟩ => by
  refine ⟨e, F, R, ?_⟩
  unfold itR1 M.bind at h
  cases w : f e with
  | bad => rw [w] at h; exact h.elim
  | ex x e' => rw [w] at h; exact h
  | ok r e1 =>
    rw [w] at h
    dsimp only at h
    intro x F1 H1 s1 R1 q1
    split at h
    · rename_i ds e2 w2
      split at w2
      · rename_i j wj
        split at w2
        · rename_i hj
          cases w2
          exact ⟨j, congrArg (· :: []) (R1.rd q1 wj), hj.1, hj.2, h _ F1 H1 s1 R1 (walkD_range 0 j.toNat)⟩
        · cases w2
      · cases w2
    · rename_i x e2 w2
      split at w2
      · split at w2 <;> cases w2
      · cases w2
    · exact h.elim
theorem di_range2 (hg : Gl X "range") (hm : X.mg "range" = none) (ha : DE X W a f) (hb : DE X W b g) (hs : starEach [a, b] X.env = [(false, eval a X.env), (false, eval b X.env)] := by rfl) (hs2 : starEach [b] X.env = [(false, eval b X.env)] := by rfl)
    (he : starEach [a, b] X.env = (false, eval a X.env) :: starEach [b] X.env := by rfl) (he2 : starEach [b] X.env = (false, eval b X.env) :: starEach [] X.env := by rfl) :
    DI X W tg (.Call (.Name "range" p) [a, b] [] pos) (itR2 f g) := piW (pi_range2 hg hm (pa_cons ha (pa_cons hb pa_nil he2) he) hs hs2) fun σ H Q ⟨e, F, R, h⟩ => by
  refine ⟨e, F, R, ?_⟩
  unfold itR2 M.bind at h
  cases w : f e with
  | bad => rw [w] at h; exact h.elim
  | ex x e' => rw [w] at h; exact h
  | ok r e1 =>
    rw [w] at h
    dsimp only at h
    intro x F1 H1 s1 R1 q1
    refine ⟨e1, F1, R1, ?_⟩
    cases w' : g e1 with
    | bad => rw [w'] at h; exact h.elim
    | ex x e' => rw [w'] at h; exact fun cls d F' H' s q z => h cls d F' H' (s1.trans s) q z
    | ok r' e2 =>
      rw [w'] at h
      dsimp only at h
      intro y F2 H2 s2 R2 q2
      have q1 := q1.step s2
      split at h
      · rename_i ds e3 w2
        split at w2
        · rename_i i j wi wj
          split at w2
          · rename_i hj
            cases w2
            have e1 := R2.rd q1 wi
            have e2 := R2.rd q2 wj
            exact ⟨i, j, by rw [e1, e2], hj, h _ F2 H2 (s1.trans s2) R2 (walkD_range i (j - i).toNat)⟩
          · cases w2
        · cases w2
      · rename_i x e3 w2
        split at w2
        · split at w2 <;> cases w2
        · cases w2
      · exact h.elim
/-- a list or a tuple, whichever it is -/
def iSeq (K : PySem.W.Frag) (tl : TE) : TI := fun σ H R => tl σ H fun x H1 => ∃ a, x = .ref a ∧ (((∃ xs, SqL K H1 a xs) ∧ R (Itl K a) H1) ∨ ((∃ xs, SqT K H1 a xs) ∧ R (Itt K a) H1))
theorem pi_seq {l : Expr} {tl : TE} (hl : PE X l tl) : PI X tg l (iSeq X.K tl) := by
  refine ⟨fun pins s σ H R I h => ?_⟩
  refine thn (hl.run pins s σ H _ I h) fun v s1 ⟨x, H1, I1, r1, a, e, q⟩ => ?_
  subst e
  cases r1
  have fp : ∀ b ∈ [s1.heap.objs.size], FpOk X pins H1 b := fun b hb => by
    have e : b = s1.heap.objs.size := by simpa using hb
    subst e
    exact I1.fpOk (Nat.le_refl _) (I1.hok.fresh (Nat.le_refl _))
  rcases q with ⟨⟨xs, hq⟩, q⟩ | ⟨⟨xs, hq⟩, q⟩
  · obtain ⟨its, rv, p, hz⟩ := I1.list hq
    exact wpAny_pyIter_list p.isList ⟨_, [s1.heap.objs.size], _, _, H1, rfl, I1.kept (t' := s1.toks) fun b o e => Heap.get?_push_of_some _ e, turn_list a _, ⟨_, Heap.get?_push_size _ rfl, rfl, rfl⟩, fp, q⟩
  · obtain ⟨its, rv, p, hz⟩ := I1.tuple hq
    exact wpAny_pyIter_tuple (show s1.heap.IsTuple a its.toArray from p) ⟨_, [s1.heap.objs.size], _, _, H1, rfl, I1.kept (t' := s1.toks) fun b o e => Heap.get?_push_of_some _ e, turn_tuple a _, ⟨_, Heap.get?_push_size _ rfl, rfl, rfl⟩, fp, q⟩
theorem di_seq (ha : DE X W a f) : DI X W tg a (itSeq f) := piW (pi_seq ha) fun σ H Q ⟨e, F, R, h⟩ => by
  refine ⟨e, F, R, ?_⟩
  unfold itSeq M.bind at h
  cases w : f e with
  | bad => rw [w] at h; exact h.elim
  | ex x e' => rw [w] at h; exact h
  | ok r e1 =>
    rw [w] at h
    dsimp only at h
    intro x F1 H1 s1 R1 q1
    cases w' : frz r e1 with
    | bad => rw [w'] at h; exact h.elim
    | ex x e' => exact (frz_noex w').elim
    | ok d e2 =>
      rw [w'] at h
      obtain ⟨F2, s2, R2, q2⟩ := frz_ok R1 q1 w' s1
      dsimp only at h
      cases d with
      | lst ds =>
        cases q2 with
        | lst q r => exact ⟨_, rfl, .inl ⟨⟨_, R2.sub.seq q⟩, h _ F2 H1 s2 R2 (walkD_list q r)⟩⟩
      | tup ds =>
        cases q2 with
        | tup q r => exact ⟨_, rfl, .inr ⟨⟨_, sqT_mono R2.sub q⟩, h _ F2 H1 s2 R2 (walkD_tup q r)⟩⟩
      | _ => exact h.elim
end
/-! ### for -/
def forRun (t : D → M Unit) (body : M Flo) : List D → M Flo
  | [] => sNil
  | d :: r => fun e => match t d e with
    | .ok _ e1 => (match body e1 with
      | .ok .nx e2 => forRun t body r e2
      | .ok .ct e2 => forRun t body r e2
      | .ok .bk e2 => .ok .nx e2
      | .ok (.rt v) e2 => .ok (.rt v) e2
      | .ex x e2 => .ex x e2
      | .bad => .bad)
    | _ => .bad
def sFor (it : M (List D)) (t : D → M Unit) (body : M Flo) : M Flo := M.bind it (forRun t body)
section
variable {X : Cx} {W : WX} {a b c tg iter : Expr} {sts : List Stmt} {it : M (List D)} {t : D → M Unit} {s : M Flo} {us : List Nat} {pos : Pos}
theorem ds_for (hp : PassesOwn (model X.prog X.w) X.A X.env X.xe) (hc : X.calm = true) (hi : DI X W tg iter it) (hg : DG X tg us t) (hb : DSs X W sts s) (hs : ∀ x, foldedSetIterable iter X.env x = pure x := by intro _; rfl) : DS X W (.For tg iter sts [] pos) (sFor it t s) :=
  psW (ps_for hp hc hi hg hb hs) fun E σ H ⟨e, F, R, h⟩ => by
    refine ⟨e, F, R, ?_⟩
    unfold sFor M.bind at h
    cases w : it e with
    | bad => rw [w] at h; exact h.elim
    | ex x e' => rw [w] at h; exact fun cls d F' H' s q z => h cls d σ F' H' s q z
    | ok ds e1 =>
      rw [w] at h
      intro J F1 H1 s1 R1 wd
      refine for_it wd (fun i σ' H' => ∃ e' F', Rel X.K X.mg F' e' σ' H' ∧ Stp F H e σ F' H' e' σ' ∧ Same F1 F' ∧ postS X.K X.mg W F H e σ (forRun t s (ds.drop i) e') E) ⟨e1, F1, R1, s1, Same.refl _, h⟩ (fun i σ' H' _ ⟨e', F', R', _, sm, _⟩ => sm.trans R'.sub) ?_ ?_
      · rintro i x σ2 H2 H3 hi ⟨e2, F2, R2, s2, sm2, h2⟩ ⟨d, hd, y⟩
        obtain ⟨F3, s3, R3, q3⟩ := y.got R2 sm2
        refine ⟨e2, F3, d, R3, q3, ?_⟩
        rw [show ds.drop i = d :: ds.drop (i + 1) from by
          have hl := (List.getElem?_eq_some_iff.mp hd)
          obtain ⟨hl, he⟩ := hl
          rw [List.drop_eq_getElem_cons hl, he]] at h2
        unfold forRun at h2
        cases w2 : t d e2 with
        | bad => rw [w2] at h2; exact h2.elim
        | ex x e' => rw [w2] at h2; exact h2.elim
        | ok u e3 =>
          rw [w2] at h2
          intro σ4 F4 H4 s4 R4 _
          refine ⟨e3, F4, R4, ?_⟩
          have s34 := (s2.trans s3).trans s4
          have sm4 := (sm2.trans s3.fro).trans s4.fro
          dsimp only at h2
          cases w3 : s e3 with
          | bad => rw [w3] at h2; exact h2.elim
          | ex x e' => rw [w3] at h2; exact fun cls dd σ5 F5 H5 s5 R5 z => h2 cls dd σ5 F5 H5 (s34.trans s5) R5 z
          | ok fl e4 =>
            rw [w3] at h2
            cases fl with
            | nx => exact fun σ5 F5 H5 s5 R5 => ⟨e4, F5, R5, s34.trans s5, sm4.trans s5.fro, h2⟩
            | ct => exact fun σ5 F5 H5 s5 R5 => ⟨e4, F5, R5, s34.trans s5, sm4.trans s5.fro, h2⟩
            | bk => exact fun σ5 F5 H5 s5 R5 => h2 σ5 F5 H5 (s34.trans s5) R5
            | rt r => exact fun v σ5 F5 H5 s5 R5 z => h2 v σ5 F5 H5 (s34.trans s5) R5 (z.imp fun x y => s34.nm y)
      · rintro σ2 H2 ⟨e2, F2, R2, s2, sm2, h2⟩
        rw [List.drop_length] at h2
        exact h2 σ2 F2 H2 s2 R2
end
/-! ### while, with the turns counted -/
def whRun (p : M Bool) (body : M Flo) : Nat → M Flo
  | 0 => M.bad
  | n + 1 => fun e => match p e with
    | .ok false e1 => .ok .nx e1
    | .ok true e1 => (match body e1 with
      | .ok .nx e2 => whRun p body n e2
      | .ok .ct e2 => whRun p body n e2
      | .ok .bk e2 => .ok .nx e2
      | .ok (.rt v) e2 => .ok (.rt v) e2
      | .ex x e2 => .ex x e2
      | .bad => .bad)
    | .ex x e1 => .ex x e1
    | .bad => .bad
open Classical in
noncomputable def sWhile (p : M Bool) (body : M Flo) : M Flo := fun e => if h : ∃ n, whRun p body n e ≠ .bad then whRun p body (choose h) e else .bad
theorem whRun_more {p : M Bool} {body : M Flo} : ∀ {n m : Nat} {e : Sl}, n ≤ m → whRun p body n e ≠ .bad → whRun p body m e = whRun p body n e := by
  intro n
  induction n with
  | zero => intro m e _ h; exact absurd rfl h
  | succ n ih =>
    intro m e hm h
    obtain ⟨m, rfl⟩ : ∃ k, m = k + 1 := ⟨m - 1, by omega⟩
    unfold whRun at h ⊢
    cases w : p e with
    | bad => rfl
    | ex x e1 => rfl
    | ok c e1 =>
      rw [w] at h
      cases c with
      | false => rfl
      | true =>
        dsimp only at h ⊢
        cases w2 : body e1 with
        | bad => rfl
        | ex x e2 => rfl
        | ok fl e2 =>
          rw [w2] at h
          cases fl with
          | nx => exact ih (by omega) h
          | ct => exact ih (by omega) h
          | bk => rfl
          | rt v => rfl
/-- the value of a while, once some number of turns is enough -/
theorem sWhile_eq {p : M Bool} {body : M Flo} {n : Nat} {e : Sl} (h : whRun p body n e ≠ .bad) : sWhile p body e = whRun p body n e := by
  unfold sWhile
  have hx : ∃ n, whRun p body n e ≠ .bad := ⟨n, h⟩
  rw [dif_pos hx]
  have hc := Classical.choose_spec hx
  rcases Nat.le_total n (Classical.choose hx) with z | z
  · exact whRun_more z h
  · exact (whRun_more z hc).symm
section
variable {X : Cx} {W : WX} {c : Expr} {sts : List Stmt} {p : M Bool} {s : M Flo} {pos : Pos}
theorem ds_while (hp : PassesOwn (model X.prog X.w) X.A X.env X.xe) (hc : DT X W c p) (hb : DSs X W sts s) : DS X W (.While c sts [] pos) (sWhile p s) := psW (ps_while hp hc hb) fun E σ H ⟨e, F, R, h⟩ => by
  have hx : ∃ n, whRun p s n e ≠ .bad := Classical.byContradiction fun z => by
    unfold sWhile at h
    rw [dif_neg z] at h
    exact h
  obtain ⟨n, hn⟩ := hx
  rw [sWhile_eq hn] at h
  refine ⟨fun m σ' H' => ∃ e' F', Rel X.K X.mg F' e' σ' H' ∧ Stp F H e σ F' H' e' σ' ∧ postS X.K X.mg W F H e σ (whRun p s m e') E, ⟨n, e, F, R, Stp.refl, h⟩, ?_⟩
  rintro m σ2 H2 ⟨e2, F2, R2, s2, h2⟩
  cases m with
  | zero => exact h2.elim
  | succ m =>
    unfold whRun at h2
    refine ⟨e2, F2, R2, ?_⟩
    cases w : p e2 with
    | bad => rw [w] at h2; exact h2.elim
    | ex x e3 => rw [w] at h2; exact fun cls d F' H' s' q z => h2 cls d σ2 F' H' (s2.trans s') q z
    | ok b e3 =>
      rw [w] at h2
      intro b' F3 H3 s3 R3 z
      cases z
      cases b with
      | false => exact iteF (h2 σ2 F3 H3 (s2.trans s3) R3)
      | true =>
        dsimp only at h2
        refine iteT ⟨fun σ' H' => ∃ e' F', Rel X.K X.mg F' e' σ' H' ∧ Stp F H e σ F' H' e' σ' ∧ postS X.K X.mg W F H e σ (whRun p s m e') E, fun σ' H' z => ⟨m, Nat.lt_succ_self m, z⟩, e3, F3, R3, ?_⟩
        have s23 := s2.trans s3
        cases w2 : s e3 with
        | bad => rw [w2] at h2; exact h2.elim
        | ex x e4 => rw [w2] at h2; exact fun cls d σ5 F5 H5 s5 q z => h2 cls d σ5 F5 H5 (s23.trans s5) q z
        | ok fl e4 =>
          rw [w2] at h2
          cases fl with
          | nx => exact fun σ5 F5 H5 s5 R5 => ⟨e4, F5, R5, s23.trans s5, h2⟩
          | ct => exact fun σ5 F5 H5 s5 R5 => ⟨e4, F5, R5, s23.trans s5, h2⟩
          | bk => exact fun σ5 F5 H5 s5 R5 => h2 σ5 F5 H5 (s23.trans s5) R5
          | rt r => exact fun v σ5 F5 H5 s5 R5 z => h2 v σ5 F5 H5 (s23.trans s5) R5 (z.imp fun x y => s23.nm y)
end
end Y

set_option Elab.async false
set_option linter.all false
set_option maxRecDepth 100000
set_option maxHeartbeats 4000000
namespace Y
open PySem PySem.Spec L2
set_option autoImplicit false
variable [TB]
/-! ### list comprehensions -/
/-- the comprehension's own slots, forgotten -/
def wip (e : Sl) : List Nat → Sl
  | [] => e
  | v :: vs => (wip e vs).set v .no
def noOwn (e : Sl) (vs : List Nat) : Bool := vs.all fun i => match e[i]? with
  | some (.own _ _) => false
  | _ => true
/-- .. and as they were -/
def unw (e0 e : Sl) : List Nat → Sl
  | [] => e
  | v :: vs => match e0[v]? with
    | some s => (unw e0 e vs).set v s
    | none => unw e0 e vs
def lcRun (t : D → M Unit) (p : M Bool) (f : M RV) (vs : List Nat) : List D → List D → M (List D)
  | [], acc => M.ret acc
  | d :: r, acc => fun e => match t d e with
    | .ok _ e1 => (match p e1 with
      | .ok true e2 => (match M.bind f frz e2 with
        | .ok y e3 => if acc.length < sizeLine then lcRun t p f vs r (acc ++ [y]) (wip e3 vs) else .bad
        | _ => .bad)
      | .ok false e2 => lcRun t p f vs r acc (wip e2 vs)
      | _ => .bad)
    | _ => .bad
def eLc (it : M (List D)) (t : D → M Unit) (p : M Bool) (f : M RV) (vs : List Nat) : M RV := M.bind it fun ds => fun e => if noOwn e vs then (match lcRun t p f vs ds [] (wip e vs) with
  | .ok acc e' => .ok (.own (.lst acc)) (unw e e' vs)
  | _ => .bad) else .bad
def tYesD : M Bool := M.ret true
section
variable {K : PySem.W.Frag} {mg : Mg} {F H F' H' : Hp} {e e' e0 : Sl} {σ : St}
theorem wip_len (e : Sl) : ∀ vs, (wip e vs).length = e.length
  | [] => rfl
  | v :: vs => by unfold wip; rw [List.length_set, wip_len e vs]
theorem wip_get {i : Nat} {s : Slot} : ∀ {vs : List Nat}, (wip e vs)[i]? = some s → (s = .no ∨ e[i]? = some s)
  | [], h => .inr h
  | v :: vs, h => by
    unfold wip at h
    rcases get_set_of h with ⟨_, rfl⟩ | ⟨_, h⟩
    · exact .inl rfl
    · exact wip_get h
theorem wip_at {i : Nat} : ∀ {vs : List Nat}, i ∉ vs → (wip e vs)[i]? = e[i]?
  | [], _ => rfl
  | v :: vs, h => by
    unfold wip
    rw [List.getElem?_set_ne (fun z => h (by rw [z]; exact List.mem_cons_self))]
    exact wip_at fun z => h (List.mem_cons_of_mem _ z)
theorem wip_mem {i : Nat} : ∀ {vs : List Nat}, i ∈ vs → i < e.length → (wip e vs)[i]? = some .no
  | v :: vs, h, hl => by
    unfold wip
    by_cases z : v = i
    · subst z; rw [List.getElem?_set_self (by rw [wip_len]; exact hl)]
    · rw [List.getElem?_set_ne z]
      rcases List.mem_cons.mp h with y | y
      · exact absurd y.symm z
      · exact wip_mem y hl
theorem wipe_at {i : Nat} : ∀ {vs : List Nat}, i ∉ vs → (wipe σ vs)[i]? = σ[i]?
  | [], _ => rfl
  | v :: vs, h => by
    unfold wipe
    rw [List.getElem?_set_ne (fun z => h (by rw [z]; exact List.mem_cons_self))]
    exact wipe_at fun z => h (List.mem_cons_of_mem _ z)
theorem Rel.wip (R : Rel K mg F e σ H) (vs : List Nat) : Rel K mg F (wip e vs) (wipe σ vs) H where
  tab := R.tab
  ftb := R.ftb
  sub := R.sub
  len := by rw [wip_len, wipe_length]; exact R.len
  ok := fun i s o es ex => by
    by_cases z : i ∈ vs
    · have hl : i < e.length := by rw [← wip_len e vs]; exact (List.getElem?_eq_some_iff.mp es).1
      rw [wip_mem z hl] at es
      cases es
      trivial
    · rw [wip_at z] at es
      rw [wipe_at z] at ex
      exact R.ok i s o es ex
  inj := fun i j f g c d a ei ej si sj => by
    have get : ∀ {k : Nat} {f c}, (Y.wip e vs)[k]? = some (.own f c) → k ∉ vs ∧ e[k]? = some (.own f c) := fun {k f c} h => by
      by_cases z : k ∈ vs
      · have hl : k < e.length := by rw [← wip_len e vs]; exact (List.getElem?_eq_some_iff.mp h).1
        rw [wip_mem z hl] at h; cases h
      · exact ⟨z, by rw [wip_at z] at h; exact h⟩
    obtain ⟨zi, ei⟩ := get ei
    obtain ⟨zj, ej⟩ := get ej
    rw [wipe_at zi] at si
    rw [wipe_at zj] at sj
    exact R.inj i j f g c d a ei ej si sj
theorem own_wip {vs : List Nat} {b : Addr} (h : Own (wip e vs) (wipe σ vs) b) : Own e σ b := by
  obtain ⟨i, f, c, h1, h2⟩ := h
  by_cases z : i ∈ vs
  · have hl : i < e.length := by rw [← wip_len e vs]; exact (List.getElem?_eq_some_iff.mp h1).1
    rw [wip_mem z hl] at h1; cases h1
  · rw [wip_at z] at h1
    rw [wipe_at z] at h2
    exact ⟨i, f, c, h1, h2⟩
theorem wip_own {vs : List Nat} {b : Addr} (hn : noOwn e vs = true) (h : Own e σ b) : Own (wip e vs) (wipe σ vs) b := by
  obtain ⟨i, f, c, h1, h2⟩ := h
  have z : i ∉ vs := fun z => by
    have q := List.all_eq_true.mp hn i z
    rw [h1] at q
    cases q
  exact ⟨i, f, c, by rw [wip_at z]; exact h1, by rw [wipe_at z]; exact h2⟩
theorem unw_at {i : Nat} : ∀ {vs : List Nat}, i ∉ vs → (unw e0 e vs)[i]? = e[i]?
  | [], _ => rfl
  | v :: vs, h => by
    have ih := unw_at (i := i) (vs := vs) fun z => h (List.mem_cons_of_mem _ z)
    unfold unw
    split
    · rw [List.getElem?_set_ne (fun z => h (by rw [z]; exact List.mem_cons_self))]
      exact ih
    · exact ih
theorem unw_len : ∀ vs : List Nat, (unw e0 e vs).length = e.length
  | [] => rfl
  | v :: vs => by
    unfold unw
    split
    · rw [List.length_set, unw_len vs]
    · exact unw_len vs
theorem unw_mem {i : Nat} : ∀ {vs : List Nat}, i ∈ vs → i < e0.length → e0.length = e.length → (unw e0 e vs)[i]? = e0[i]?
  | v :: vs, h, hl, hz => by
    unfold unw
    by_cases z : v = i
    · subst z
      rw [List.getElem?_eq_getElem hl]
      dsimp only
      rw [List.getElem?_set_self (by rw [unw_len, ← hz]; exact hl)]
    · rcases List.mem_cons.mp h with y | y
      · exact absurd y.symm z
      · split
        · rw [List.getElem?_set_ne z]
          exact unw_mem y hl hz
        · exact unw_mem y hl hz
/-- behind the comprehension: all as before it, but what was done -/
theorem unw_ok {vs : List Nat} (R : Rel K mg F e σ H) (hn : noOwn e vs = true) (s : Stp F H (wip e vs) (wipe σ vs) F' H' e' (wipe σ vs)) (R' : Rel K mg F' e' (wipe σ vs) H') :
    Rel K mg F' (unw e e' vs) σ H' ∧ Stp F H e σ F' H' (unw e e' vs) σ ∧ ∀ b, Own (unw e e' vs) σ b → Own e' (wipe σ vs) b := by
  have hl' : e.length = e'.length := by rw [R'.len, wipe_length]; exact R.len
  have get : ∀ {k : Nat} {f : Bool} {c : Cont}, (unw e e' vs)[k]? = some (.own f c) → k ∉ vs ∧ e'[k]? = some (.own f c) := fun {k f c} h => by
    by_cases z : k ∈ vs
    · have hl : k < e.length := by rw [hl', ← unw_len (e0 := e) vs]; exact (List.getElem?_eq_some_iff.mp h).1
      rw [unw_mem z hl hl'] at h
      have q := List.all_eq_true.mp hn k z
      rw [h] at q
      cases q
    · exact ⟨z, by rw [unw_at z] at h; exact h⟩
  have ow : ∀ b, Own (unw e e' vs) σ b → Own e' (wipe σ vs) b := fun b ⟨i, f, c, h1, h2⟩ => by
    obtain ⟨z, h1⟩ := get h1
    exact ⟨i, f, c, h1, by rw [wipe_at z]; exact h2⟩
  have nm : ∀ b, NM H (wip e vs) (wipe σ vs) b → NM H e σ b := fun b z => z.imp id own_wip
  refine ⟨⟨R'.sub, by rw [unw_len, ← hl']; exact R.len, fun i t o es ex => ?_, fun i j f g c d a ei ej si sj => ?_, R'.tab, R'.ftb⟩, ⟨s.fro, fun b o h n m => s.kept b o h (fun z => n (own_wip z)) m, s.dom, fun b h h' => nm b (s.newF b h h'), fun b h => nm b (s.newO b (ow b h)), fun i c h => ?_, by rw [unw_len]; exact hl'.symm⟩, ow⟩
  · by_cases z : i ∈ vs
    · have hl : i < e.length := by rw [R.len]; exact (List.getElem?_eq_some_iff.mp ex).1
      rw [unw_mem z hl hl'] at es
      have q := R.ok i t o es ex
      cases t with
      | no => trivial
      | val d => obtain ⟨v, h1, h2⟩ := q; exact ⟨v, h1, h2.mono s.fro⟩
      | own f c =>
        have q' := List.all_eq_true.mp hn i z
        rw [es] at q'
        cases q'
    · rw [unw_at z] at es
      exact R'.ok i t o es (by rw [wipe_at z]; exact ex)
  · obtain ⟨zi, ei⟩ := get ei
    obtain ⟨zj, ej⟩ := get ej
    exact R'.inj i j f g c d a ei ej (by rw [wipe_at zi]; exact si) (by rw [wipe_at zj]; exact sj)
  · have z : i ∉ vs := fun z => by
      have q := List.all_eq_true.mp hn i z
      rw [h] at q
      cases q
    obtain ⟨⟨c', h1⟩, _⟩ := s.fix i c (by rw [wip_at z]; exact h)
    exact ⟨⟨c', by rw [unw_at z]; exact h1⟩, rfl⟩
end
/-- no exception leaves from within -/
abbrev W0 : WX := fun _ _ _ _ => False
theorem But.wipe {us : List Nat} {σ σ' : St} (b : But us σ σ') : L2.wipe σ' us = L2.wipe σ us := by
  apply List.ext_getElem?
  intro i
  by_cases z : i ∈ us
  · have at_ : ∀ (σ : St) (us : List Nat), i ∈ us → (L2.wipe σ us)[i]? = if i < σ.length then some none else none := by
      intro σ us
      induction us with
      | nil => intro h; cases h
      | cons v vs ih =>
        intro h
        unfold L2.wipe
        rw [List.getElem?_set]
        split
        · rename_i hv
          subst hv
          rw [wipe_length]
        · rename_i hv
          rcases List.mem_cons.mp h with y | y
          · exact absurd y.symm hv
          · exact ih y
    rw [at_ σ' us z, at_ σ us z, b.1]
  · rw [wipe_at z, wipe_at z]
    exact b.2 i z
theorem wipe_but (us : List Nat) (σ : St) : But us σ (L2.wipe σ us) := ⟨wipe_length _ _, fun i h => wipe_at h⟩
theorem wipe_wipe (us : List Nat) (σ : St) : L2.wipe (L2.wipe σ us) us = L2.wipe σ us := (wipe_but us σ).wipe
section
variable {X : Cx} {W : WX} {elt tg iter : Expr} {ifs : List Expr} {scope : Scope} {own : List (Str × Nat)} {it : M (List D)} {t : D → M Unit} {p : M Bool} {f : M RV} {us : List Nat} {pos pos' spos : Pos}
theorem lc_ok {K : PySem.W.Frag} {mg : Mg} {σ : St} {H : Hp} {Q : VK} (h : cE K mg W (eLc it t p f us) σ H Q) : tLc (cI K mg W it) (cU K mg us t) (cT K mg W0 p) (cE K mg W0 f) us σ H Q := by
  obtain ⟨e, F, R, h⟩ := h
  refine ⟨e, F, R, ?_⟩
  unfold eLc M.bind at h
  cases w : it e with
  | bad => rw [w] at h; exact h.elim
  | ex x e' => rw [w] at h; exact h
  | ok ds e1 =>
    rw [w] at h
    intro J F1 H1 s1 R1 wd D hD
    dsimp only at h
    split at h
    · rename_i hn
      split at h
      · rename_i accF eF wF
        have Rw := R1.wip us
        have RD := Rw.new (o := .lst []) hD
        refine lc_it (vs := us) (σ := σ) wd (fun i H' => ∃ e' F' acc av, Rel K mg F' e' (wipe σ us) H' ∧ Stp F1 H1 (wip e1 us) (wipe σ us) F' H' e' (wipe σ us) ∧ Same F1 F' ∧ H' D = some (.lst av) ∧ F' D = none ∧ ¬ Own e' (wipe σ us) D ∧ Reps K mg F' av acc ∧ lcRun t p f us (ds.drop i) acc e' = .ok accF eF)
          ⟨wip e1 us, F1, [], [], RD, Stp.new Rw hD, Same.refl _, upd_same, Rw.free hD, Rw.notOwn hD, .nil, wF⟩ (fun i H' _ ⟨e', F', _, _, R', _, sm, _⟩ => sm.trans R'.sub) ?_ ?_
        · rintro i x H2 H3 hi ⟨e2, F2, acc, av, R2, s2, sm2, d1, d2, d3, d4, w2⟩ ⟨d, hd, y⟩
          obtain ⟨F3, s3, R3, q3⟩ := y.got R2 sm2
          refine ⟨e2, F3, d, R3, q3, ?_⟩
          rw [show ds.drop i = d :: ds.drop (i + 1) from by
            obtain ⟨hl, he⟩ := (List.getElem?_eq_some_iff.mp hd)
            rw [List.drop_eq_getElem_cons hl, he]] at w2
          unfold lcRun at w2
          -- the new list is nobody's while the rest is reckoned
          have keep : ∀ {e5 : Sl} {F5 H5 : Hp} {σ5 : St}, Stp F2 H2 e2 (wipe σ us) F5 H5 e5 σ5 → H5 D = some (.lst av) ∧ F5 D = none ∧ ¬ Own e5 σ5 D := fun {e5 F5 H5 σ5} s5 => by
            have nD : ¬ NM H2 e2 (wipe σ us) D := fun z => by
              rcases z with z | z
              · rw [d1] at z; cases z
              · exact d3 z
            refine ⟨s5.kept D _ d1 d3 (fun ps z => by cases z), ?_, fun z => nD (s5.newO D z)⟩
            cases q : F5 D with
            | none => rfl
            | some u => exact absurd (s5.newF D d2 (by rw [q]; exact fun z => nomatch z)) nD
          -- back to the wiped slots
          have back : ∀ {e5 : Sl} {F5 H5 : Hp} {σ5 : St}, wipe σ5 us = wipe σ us → Rel K mg F5 e5 σ5 H5 → Stp F2 H2 e2 (wipe σ us) F5 H5 e5 σ5 → (∀ i c, e2[i]? = some (.own true c) → i ∉ us) → Rel K mg F5 (wip e5 us) (wipe σ us) H5 ∧ Stp F2 H2 e2 (wipe σ us) F5 H5 (wip e5 us) (wipe σ us) := fun {e5 F5 H5 σ5} hw R5 s5 hfix => by
            have Rw5 := R5.wip us
            rw [hw] at Rw5
            refine ⟨Rw5, s5.fro, s5.kept, s5.dom, s5.newF, fun b hb => s5.newO b (own_wip (vs := us) (by rw [hw]; exact hb)), fun i c hc => ?_, by rw [wip_len]; exact s5.len⟩
            obtain ⟨⟨c', h1⟩, h2⟩ := s5.fix i c hc
            exact ⟨⟨c', by rw [wip_at (hfix i c hc)]; exact h1⟩, rfl⟩
          have nofix : ∀ i c, e2[i]? = some (.own true c) → i ∉ us := fun i c hc hm => by
            have hl : i < (wipe σ us).length := by rw [← R2.len]; exact (List.getElem?_eq_some_iff.mp hc).1
            obtain ⟨p, o, h1, _⟩ := R2.ok i _ _ hc (List.getElem?_eq_getElem hl)
            have h2 : (wipe σ us)[i]? = some (some (.ref p)) := by rw [List.getElem?_eq_getElem hl, h1]
            exact (wipe_some h2).2 hm
          cases wt : t d e2 with
          | bad => rw [wt] at w2; cases w2
          | ex x e' => rw [wt] at w2; cases w2
          | ok u e3 =>
            rw [wt] at w2
            intro σ4 F4 H4 s4 R4 bt
            have hw4 : wipe σ4 us = wipe σ us := by rw [bt.wipe, wipe_wipe]
            dsimp only at w2
            refine ⟨hw4, e3, F4, R4, ?_⟩
            cases wp : p e3 with
            | bad => rw [wp] at w2; cases w2
            | ex x e' => rw [wp] at w2; cases w2
            | ok b e4 =>
              rw [wp] at w2
              intro b' F5 H5 s5 R5 hb'
              cases hb'
              have s25 := (s3.trans s4).trans s5
              cases b with
              | false =>
                obtain ⟨k1, k2, k3⟩ := keep s25
                obtain ⟨Rb, sb⟩ := back hw4 R5 s25 nofix
                obtain ⟨k4, k5, k6⟩ := keep sb
                exact iteF ⟨wip e4 us, F5, acc, av, Rb, s2.trans sb, sm2.trans s25.fro, k4, k5, k6, d4.mono s25.fro, w2⟩
              | true =>
                dsimp only at w2
                refine iteT ⟨e4, F5, R5, ?_⟩
                unfold M.bind at w2
                cases wf : f e4 with
                | bad => rw [wf] at w2; cases w2
                | ex x e' => rw [wf] at w2; cases w2
                | ok r e5 =>
                  rw [wf] at w2
                  intro y F6 H6 s6 R6 q6
                  dsimp only at w2
                  cases wz : frz r e5 with
                  | bad => rw [wz] at w2; cases w2
                  | ex x e' => exact (frz_noex wz).elim
                  | ok dy e6 =>
                    rw [wz] at w2
                    dsimp only at w2
                    split at w2
                    · rename_i hz
                      obtain ⟨F7, s7, R7, q7⟩ := frz_ok R6 q6 wz s6
                      have s27 := s25.trans s7
                      obtain ⟨k1, k2, k3⟩ := keep s27
                      obtain ⟨Rb, sb⟩ := back hw4 R7 s27 nofix
                      obtain ⟨k4, k5, k6⟩ := keep sb
                      refine ⟨av, k1, by rw [d4.length]; exact hz, wip e6 us, F7, acc ++ [dy], av ++ [y], ?_, ?_, sm2.trans s27.fro, upd_same, k5, k6, (d4.mono s27.fro).append (.cons q7 .nil), w2⟩
                      · -- the new list's own content turns
                        refine ⟨fun b u q => ?_, Rb.len, fun j sl o es ex => ?_, Rb.inj, Rb.tab.chg k4 (fun ps z => by cases z) (fun q z => by cases z), Rb.ftb⟩
                        · rw [upd_ne (ne_of_none q k5)]; exact Rb.sub b u q
                        · have q := Rb.ok j sl o es ex
                          cases sl with
                          | no => trivial
                          | val d => exact q
                          | own fx c =>
                            obtain ⟨a', o', h1, hf', hh', hc'⟩ := q
                            refine ⟨a', o', h1, hf', ?_, hc'⟩
                            rw [upd_ne]
                            · exact hh'
                            · rintro rfl
                              exact k6 ⟨j, fx, c, es, by rw [ex, h1]⟩
                      · have s1b := s2.trans sb
                        refine ⟨s1b.fro, fun b o h n m => ?_, fun b h => ?_, s1b.newF, s1b.newO, s1b.fix, s1b.len⟩
                        · rw [upd_ne (ne_of_none h hD)]; exact s1b.kept b o h n m
                        · by_cases z : b = D
                          · rw [z]; exact hD
                          · rw [upd_ne z] at h; exact s1b.dom b h
                    · cases w2
        · rintro H2 ⟨e2, F2, acc, av, R2, s2, sm2, d1, d2, d3, d4, w2⟩
          rw [List.drop_length] at w2
          unfold lcRun at w2
          cases w2
          obtain ⟨Ru, su, ow⟩ := unw_ok R1 hn s2 R2
          refine h (.ref D) F2 H2 (s1.trans su) Ru ⟨D, _, rfl, d2, d1, ⟨av, rfl, d4⟩, fun z => d3 (ow D z), .inl (s1.dom D hD)⟩
      · exact h.elim
    · exact h.elim
variable (hN : X.N.Nodup)
/-- tests of a comprehension -/
abbrev DTs (X : Cx) (ifs : List Expr) (p : M Bool) : Prop := PTs X ifs (cT X.K X.mg W0 p)
theorem dts_nil {X : Cx} : DTs X [] tYesD := ⟨fun pins s σ H Q I ⟨e, F, R, h⟩ => pts_nil.run pins s σ H Q I (post_ret R h rfl)⟩
theorem dts_one {X : Cx} {c : Expr} (h : DT X W0 c p) : DTs X [c] p := pts_one h
theorem de_lc (own : List (Str × Nat)) (hc : X.calm = true) (hN : X.N.Nodup) (hi : DI X W tg iter it) (ok : blkC X.N X.env.scope scope own = true)
    (hg : ∀ (s : Shared) (H : Hp) (C : Addr) (cl : List (Str × Addr)) (fp : List Addr), DG (X.blk s H scope (compEnvC scope cl C X.env) fp) tg (own.map (·.2)) t) (ht : ∀ (s : Shared) (H : Hp) (C : Addr) (cl : List (Str × Addr)) (fp : List Addr), DTs (X.blk s H scope (compEnvC scope cl C X.env) fp) ifs p)
    (he : ∀ (s : Shared) (H : Hp) (C : Addr) (cl : List (Str × Addr)) (fp : List Addr), DE (X.blk s H scope (compEnvC scope cl C X.env) fp) W0 elt f) (hs : ∀ x, foldedSetIterable iter X.env x = pure x := by intro _; rfl) :
    DE X W (.ListComp elt [⟨tg, iter, ifs, 0⟩] scope pos) (eLc it t p f (own.map (·.2))) := peW (pe_lc hc hN hi (blkOk_by ok) hg ht he hs) fun _ _ _ h => lc_ok h
theorem ds_setLc (i : Nat) {y : Str} {py : Pos} (own : List (Str × Nat)) (hc : X.calm = true) (hN : X.N.Nodup) (hy : X.N[i]? = some y) (hyl : X.env.scope.names.lookup y = some .local) (hsw : swapsWith (.ListComp elt [⟨tg, iter, ifs, 0⟩] scope pos) (some (.Name y py)) spos.line X.env = pure true)
    (hi : DI X W tg iter it) (ok : blkC X.N X.env.scope scope own = true)
    (hg : ∀ (s : Shared) (H : Hp) (C : Addr) (cl : List (Str × Addr)) (fp : List Addr), DG (X.blk s H scope (compEnvC scope cl C X.env) fp) tg (own.map (·.2)) t) (ht : ∀ (s : Shared) (H : Hp) (C : Addr) (cl : List (Str × Addr)) (fp : List Addr), DTs (X.blk s H scope (compEnvC scope cl C X.env) fp) ifs p)
    (he : ∀ (s : Shared) (H : Hp) (C : Addr) (cl : List (Str × Addr)) (fp : List Addr), DE (X.blk s H scope (compEnvC scope cl C X.env) fp) W0 elt f) (hs : ∀ x, foldedSetIterable iter X.env x = pure x := by intro _; rfl) :
    DS X W (.Assign [.Name y py] (.ListComp elt [⟨tg, iter, ifs, 0⟩] scope pos) spos) (sSet i (eLc it t p f (own.map (·.2)))) := psW (ps_setLc hc hN hy hyl hsw hi (blkOk_by ok) hg ht he hs) fun E σ H ⟨e, F, R, h⟩ => by
  refine lc_ok (W := W) ⟨e, F, R, post_imp (postS_seq h) ?_⟩
  rintro v H1 ⟨r, e1, F1, q1, R1, s1, h1⟩
  exact stor_ok R1 q1 s1 h1
end
end Y

set_option Elab.async false
set_option linter.all false
set_option maxRecDepth 100000
set_option maxHeartbeats 4000000
namespace Y
open PySem PySem.Spec L2
set_option autoImplicit false
variable [TB]
/-! ### a def, by what it does to data -/
abbrev Fn := Sl → Res RV
def isArg : Slot → Bool
  | .val _ => true
  | .own true _ => true
  | _ => false
def cSp (K : PySem.W.Frag) (mg : Mg) (f : Fn) : Sp := fun vs H Q E => ∃ args F, Rel K mg F args (vs.map some) H ∧ args.all isArg = true ∧ post K mg (fun c d _ H => E c d H) (rV K mg) F H args (vs.map some) (f args) Q
/-- what is left of the arguments: lent things as they are now -/
def outs : Sl → Sl → Sl
  | .own _ _ :: r, s :: t => s :: outs r t
  | a :: r, _ :: t => a :: outs r t
  | _, _ => []
def fnD (np n : Nat) (body : M Flo) : Fn := fun args => if args.length = np then (match body (args ++ List.replicate (n - np) .no) with
  | .ok (.rt (.val d)) e => .ok (.val d) (outs args e)
  | .ok (.rt (.own c)) e => .ok (.own c) (outs args e)
  | .ok .nx e => .ok (.val .non) (outs args e)
  | .ex x e => .ex x (outs args e)
  | _ => .bad) else .bad
section
variable {K : PySem.W.Frag} {mg : Mg} {F H F' H' : Hp}
theorem outs_len : ∀ {args e : Sl}, args.length ≤ e.length → (outs args e).length = args.length
  | [], _, _ => by cases ‹Sl› <;> rfl
  | s :: r, [], h => by simp at h
  | .no :: r, t :: u, h => by show (outs r u).length + 1 = r.length + 1; rw [outs_len (by simpa using h)]
  | .val d :: r, t :: u, h => by show (outs r u).length + 1 = r.length + 1; rw [outs_len (by simpa using h)]
  | .own f c :: r, t :: u, h => by show (outs r u).length + 1 = r.length + 1; rw [outs_len (by simpa using h)]
theorem outs_get : ∀ {args e : Sl} {i : Nat} {s : Slot}, (outs args e)[i]? = some s → (∃ f c, args[i]? = some (.own f c) ∧ e[i]? = some s) ∨ ((∀ f c, args[i]? ≠ some (.own f c)) ∧ args[i]? = some s)
  | [], e, i, s, h => by cases e <;> simp [outs] at h
  | s :: r, [], i, _, h => by cases s <;> simp [outs] at h
  | .no :: r, t :: u, 0, s, h => by
    have e : Slot.no = s := by simpa [outs] using h
    subst e
    exact .inr ⟨fun f c z => by simp at z, rfl⟩
  | .val d :: r, t :: u, 0, s, h => by
    have e : Slot.val d = s := by simpa [outs] using h
    subst e
    exact .inr ⟨fun f c z => by simp at z, rfl⟩
  | .own f c :: r, t :: u, 0, s, h => by
    have e : t = s := by simpa [outs] using h
    subst e
    exact .inl ⟨f, c, rfl, rfl⟩
  | .no :: r, t :: u, i + 1, s, h => by simpa using outs_get (args := r) (e := u) (i := i) (s := s) (by simpa [outs] using h)
  | .val d :: r, t :: u, i + 1, s, h => by simpa using outs_get (args := r) (e := u) (i := i) (s := s) (by simpa [outs] using h)
  | .own f c :: r, t :: u, i + 1, s, h => by simpa using outs_get (args := r) (e := u) (i := i) (s := s) (by simpa [outs] using h)
theorem start_get {N : List Str} {vs : List V} {i : Nat} (h : i < vs.length) : (L2.start N vs)[i]? = (vs.map some)[i]? := by
  unfold L2.start
  rw [List.getElem?_append_left (by rw [List.length_map]; exact h)]
theorem ext_get {args : Sl} {k i : Nat} (h : i < args.length) : (args ++ List.replicate k Slot.no)[i]? = args[i]? := List.getElem?_append_left h
theorem ext_own {args : Sl} {k i : Nat} {f : Bool} {c : Cont} (h : (args ++ List.replicate k Slot.no)[i]? = some (.own f c)) : i < args.length ∧ args[i]? = some (.own f c) := by
  by_cases z : i < args.length
  · exact ⟨z, by rw [ext_get z] at h; exact h⟩
  · rw [List.getElem?_append_right (by omega), List.getElem?_replicate] at h
    split at h <;> cases h
/-- the def's own frame at its entry -/
theorem Rel.entry {args : Sl} {vs : List V} {N : List Str} {n : Nat} (R : Rel K mg F args (vs.map some) H) (hn : N.length = n) (hl : args.length ≤ n) : Rel K mg F (args ++ List.replicate (n - args.length) .no) (L2.start N vs) H := by
  have hv : args.length = vs.length := by rw [R.len, List.length_map]
  refine ⟨R.sub, ?_, fun i s o es ex => ?_, fun i j f g c d a ei ej si sj => ?_, R.tab, R.ftb⟩
  · unfold L2.start
    rw [List.length_append, List.length_append, List.length_replicate, List.length_replicate, List.length_map]
    omega
  · by_cases z : i < args.length
    · rw [ext_get z] at es
      rw [start_get (by omega)] at ex
      exact R.ok i s o es ex
    · rw [List.getElem?_append_right (by omega), List.getElem?_replicate] at es
      split at es
      · cases es; trivial
      · cases es
  · obtain ⟨zi, ei⟩ := ext_own ei
    obtain ⟨zj, ej⟩ := ext_own ej
    rw [start_get (by omega)] at si sj
    exact R.inj i j f g c d a ei ej si sj
theorem own_entry {args : Sl} {vs : List V} {N : List Str} {k : Nat} {b : Addr} (hv : args.length = vs.length) : Own (args ++ List.replicate k .no) (L2.start N vs) b ↔ Own args (vs.map some) b := by
  constructor
  · rintro ⟨i, f, c, h1, h2⟩
    obtain ⟨z, h1⟩ := ext_own h1
    rw [start_get (by omega)] at h2
    exact ⟨i, f, c, h1, h2⟩
  · rintro ⟨i, f, c, h1, h2⟩
    have z := (List.getElem?_eq_some_iff.mp h1).1
    exact ⟨i, f, c, by rw [ext_get z]; exact h1, by rw [start_get (by omega)]; exact h2⟩
/-- .. and at its end -/
theorem at_end {args : Sl} {vs : List V} {N : List Str} {k : Nat} {e' : Sl} {σ' : St} (R : Rel K mg F args (vs.map some) H) (ha : args.all isArg = true) (hlen : args.length ≤ e'.length) (s : Stp F H (args ++ List.replicate k .no) (L2.start N vs) F' H' e' σ') (R' : Rel K mg F' e' σ' H') :
    Rel K mg F' (outs args e') (vs.map some) H' ∧ Stp F H args (vs.map some) F' H' (outs args e') (vs.map some) ∧ ∀ b, Own (outs args e') (vs.map some) b → Own e' σ' b := by
  have hv : args.length = vs.length := by rw [R.len, List.length_map]
  have arg : ∀ {i : Nat} {f : Bool} {c : Cont}, args[i]? = some (.own f c) → f = true := fun {i f c} h => by
    have := List.all_eq_true.mp ha _ (List.mem_of_getElem? h)
    cases f with
    | true => rfl
    | false => cases this
  have fx : ∀ {i : Nat} {f : Bool} {c : Cont}, args[i]? = some (.own f c) → (∃ c', e'[i]? = some (.own true c')) ∧ σ'[i]? = (vs.map some)[i]? := fun {i f c} h => by
    have z := (List.getElem?_eq_some_iff.mp h).1
    obtain ⟨h1, h2⟩ := s.fix i c (by rw [ext_get z, h, arg h])
    exact ⟨h1, by rw [h2, start_get (by omega)]⟩
  have get : ∀ {i : Nat} {f : Bool} {c : Cont}, (outs args e')[i]? = some (.own f c) → ∃ c0, args[i]? = some (.own true c0) ∧ e'[i]? = some (.own f c) ∧ σ'[i]? = (vs.map some)[i]? := fun {i f c} h => by
    rcases outs_get h with ⟨f0, c0, h1, h2⟩ | ⟨h1, h2⟩
    · have := arg h1
      subst this
      exact ⟨c0, h1, h2, (fx h1).2⟩
    · exact absurd h2 (h1 f c)
  have ow : ∀ b, Own (outs args e') (vs.map some) b → Own e' σ' b := fun b ⟨i, f, c, h1, h2⟩ => by
    obtain ⟨c0, _, h3, h4⟩ := get h1
    exact ⟨i, f, c, h3, by rw [h4]; exact h2⟩
  have nm : ∀ b, NM H (args ++ List.replicate k .no) (L2.start N vs) b → NM H args (vs.map some) b := fun b z => z.imp id (own_entry hv).mp
  refine ⟨⟨R'.sub, by rw [outs_len hlen]; exact R.len, fun i t o es ex => ?_, fun i j f g c d a ei ej si sj => ?_, R'.tab, R'.ftb⟩, ⟨s.fro, fun b o h n m => s.kept b o h (fun z => n ((own_entry hv).mp z)) m, s.dom, fun b h h' => nm b (s.newF b h h'), fun b ⟨i, f, c, h1, h2⟩ => ?_, fun i c h => ?_, outs_len hlen⟩, ow⟩
  · rcases outs_get es with ⟨f0, c0, h1, h2⟩ | ⟨h1, h2⟩
    · exact R'.ok i t o h2 (by rw [(fx h1).2]; exact ex)
    · have q := R.ok i t o h2 ex
      cases t with
      | no => trivial
      | val d => obtain ⟨v, q1, q2⟩ := q; exact ⟨v, q1, q2.mono s.fro⟩
      | own f c => exact absurd h2 (h1 f c)
  · obtain ⟨_, _, ei, qi⟩ := get ei
    obtain ⟨_, _, ej, qj⟩ := get ej
    exact R'.inj i j f g c d a ei ej (by rw [qi]; exact si) (by rw [qj]; exact sj)
  · obtain ⟨c0, h3, _, _⟩ := get h1
    exact .inr ⟨i, true, c0, h3, h2⟩
  · obtain ⟨⟨c', h1⟩, _⟩ := fx h
    refine ⟨⟨c', ?_⟩, rfl⟩
    have hi : i < (outs args e').length := by rw [outs_len hlen]; exact (List.getElem?_eq_some_iff.mp h).1
    rw [List.getElem?_eq_getElem hi]
    rcases outs_get (List.getElem?_eq_getElem hi) with ⟨_, _, _, h2⟩ | ⟨h2, _⟩
    · rw [h1] at h2; exact h2.symm
    · exact absurd h (h2 true c)
end
section
variable {P : Program} {w : World} {K : PySem.W.Frag} {mg : Mg} {base : Heap}
theorem entry_ok {N : List Str} {np n : Nat} {body : M Flo} {vs : List V} {H : Hp} {Q : VK} {E : XK} (hn : N.length = n) (hle : np ≤ n) (h : cSp K mg (fnD np n body) vs H Q E) : cS K mg (fun c d _ H => E c d H) body { nx := fun _ H' => Q .non H', rt := Q } (L2.start N vs) H := by
  obtain ⟨args, F, R, ha, h⟩ := h
  unfold fnD at h
  split at h
  · rename_i hl
    have RE := R.entry (N := N) (n := n) hn (by omega)
    rw [hl] at RE
    refine ⟨_, F, RE, ?_⟩
    have hlen : ∀ {F' H' : Hp} {e' : Sl} {σ' : St}, Stp F H (args ++ List.replicate (n - np) .no) (L2.start N vs) F' H' e' σ' → args.length ≤ e'.length := fun s => by rw [s.len, List.length_append]; omega
    have hv : args.length = vs.length := by rw [R.len, List.length_map]
    cases q : body (args ++ List.replicate (n - np) .no) with
    | bad => rw [q] at h; exact h.elim
    | ex x e' =>
      rw [q] at h
      intro cls d σ' F' H' s' R' z
      obtain ⟨r1, r2, r3⟩ := at_end R ha (hlen s') s' R'
      exact h cls d F' H' r2 r1 z
    | ok fl e' =>
      rw [q] at h
      cases fl with
      | nx =>
        intro σ' F' H' s' R'
        obtain ⟨r1, r2, r3⟩ := at_end R ha (hlen s') s' R'
        exact h .non F' H' r2 r1 .non
      | bk => exact h.elim
      | ct => exact h.elim
      | rt r =>
        intro v σ' F' H' s' R' z
        cases r with
        | pk i => exact h.elim
        | val d =>
          obtain ⟨r1, r2, r3⟩ := at_end R ha (hlen s') s' R'
          exact h v F' H' r2 r1 z
        | own c =>
          obtain ⟨r1, r2, r3⟩ := at_end R ha (hlen s') s' R'
          obtain ⟨a, o, e1, hF, hH, hc, hn', hN'⟩ := z
          exact h v F' H' r2 r1 ⟨a, o, e1, hF, hH, hc, fun z => hn' (r3 a z), hN'.imp id (own_entry hv).mp⟩
  · exact h.elim
/-- THE RULE for a def -/
theorem fn_den {x qual : Str} {st : Stmt} {f : Addr} {fd : FuncData} {N ps : List Str} {k np n : Nat} {body : M Flo} (Fu : Fun K x qual st f fd) (S : FnScope N ps (defScope st)) (hnp : ps.length = np) (hn : N.length = n) (hle : np ≤ n)
    (hb : ∀ (cdv : Value) (A : Around) (outer : List Env) (s : Shared) (H : Hp) (E : XK), Room k (A.deeper (PyProof.Rows.envOfC qual (defScope st) s.heap.objs.size f cdv)) →
      Takes (cxOf (L2.CX P w) P w K mg base N qual (defScope st) f cdv A outer s H E) (fun c d _ H => E c d H) →
      PassesOwn (model P w) (A.deeper (PyProof.Rows.envOfC qual (defScope st) s.heap.objs.size f cdv)) (cxOf (L2.CX P w) P w K mg base N qual (defScope st) f cdv A outer s H E).env (cxOf (L2.CX P w) P w K mg base N qual (defScope st) f cdv A outer s H E).xe →
      DSs (cxOf (L2.CX P w) P w K mg base N qual (defScope st) f cdv A outer s H E) (fun c d _ H => E c d H) (defBody st) body) :
    FnOk P w K mg base (L2.CX P w) (k + 1) f fd ps (cSp K mg (fnD np n body)) := by
  refine Fu.okX S (fun vs H Q E h => ?_) (fun cdv A outer s H vs Q E hr h => ?_)
  · obtain ⟨args, F, R, ha, h⟩ := h
    unfold fnD at h
    split at h
    · rename_i hl
      have := R.len
      rw [List.length_map] at this
      rw [hnp]; omega
    · exact h.elim
  · exact ⟨_, hb cdv A outer s H E hr (takes_of rfl rfl rfl rfl) (passes_of rfl), entry_ok hn hle h⟩
end
/-! ### a call -/
def pks : List RV → List Nat
  | [] => []
  | .pk i :: rs => i :: pks rs
  | _ :: rs => pks rs
def pkOk : List RV → Bool
  | [] => true
  | .pk i :: rs => !(pks rs).contains i && pkOk rs
  | _ :: rs => pkOk rs
def argSl (e : Sl) : List RV → Option Sl
  | [] => some []
  | .val d :: rs => (argSl e rs).map (.val d :: ·)
  | .pk i :: rs => match e[i]? with
    | some (.own _ c) => (argSl e rs).map (.own true c :: ·)
    | _ => none
  | .own _ :: _ => none
def chg (e : Sl) (i : Nat) (c : Cont) : Sl := match e[i]? with
  | some (.own f _) => e.set i (.own f c)
  | _ => e
def back (e : Sl) : List RV → Sl → Sl
  | .pk i :: rs, .own _ c :: sl => back (chg e i c) rs sl
  | _ :: rs, _ :: sl => back e rs sl
  | _, _ => e
def callK (fn : Fn) (rs : List RV) : M RV := fun e => if pkOk rs then (match argSl e rs with
  | some sl => (match fn sl with
    | .ok (.val d) sl' => .ok (.val d) (back e rs sl')
    | .ok (.own c) sl' => .ok (.own c) (back e rs sl')
    | .ok (.pk _) _ => .bad
    | .ex x sl' => .ex x (back e rs sl')
    | .bad => .bad)
  | none => .bad) else .bad
def eCall (fn : Fn) (as : M (List RV)) : M RV := M.bind as (callK fn)
section
variable {K : PySem.W.Frag} {mg : Mg} {F H F' H' : Hp} {σ : St}
theorem mem_pks {i : Nat} : ∀ {rs : List RV} {j : Nat}, rs[j]? = some (.pk i) → i ∈ pks rs
  | [], _, h => by simp at h
  | .pk k :: rs, 0, h => by
    have e : k = i := by simpa using h
    subst e
    exact List.mem_cons_self
  | .val d :: rs, 0, h => by simp at h
  | .own d :: rs, 0, h => by simp at h
  | .pk k :: rs, j + 1, h => List.mem_cons_of_mem _ (mem_pks (rs := rs) (j := j) (by simpa using h))
  | .val k :: rs, j + 1, h => mem_pks (rs := rs) (j := j) (by simpa using h)
  | .own k :: rs, j + 1, h => mem_pks (rs := rs) (j := j) (by simpa using h)
theorem pk_inj {i : Nat} : ∀ {rs : List RV} {j k : Nat}, pkOk rs = true → rs[j]? = some (.pk i) → rs[k]? = some (.pk i) → j = k
  | [], _, _, _, h, _ => by simp at h
  | r :: rs, 0, 0, _, _, _ => rfl
  | .pk m :: rs, 0, k + 1, ok, h1, h2 => by
    have e : m = i := by simpa using h1
    subst e
    have := mem_pks (rs := rs) (j := k) (i := m) (by simpa using h2)
    unfold pkOk at ok
    simp only [Bool.and_eq_true, Bool.not_eq_true', List.contains_eq_mem, decide_eq_false_iff_not] at ok
    exact absurd this ok.1
  | .val m :: rs, 0, k + 1, ok, h1, h2 => by simp at h1
  | .own m :: rs, 0, k + 1, ok, h1, h2 => by simp at h1
  | .pk m :: rs, j + 1, 0, ok, h1, h2 => by
    have e : m = i := by simpa using h2
    subst e
    have := mem_pks (rs := rs) (j := j) (i := m) (by simpa using h1)
    unfold pkOk at ok
    simp only [Bool.and_eq_true, Bool.not_eq_true', List.contains_eq_mem, decide_eq_false_iff_not] at ok
    exact absurd this ok.1
  | .val m :: rs, j + 1, 0, ok, h1, h2 => by simp at h2
  | .own m :: rs, j + 1, 0, ok, h1, h2 => by simp at h2
  | .pk m :: rs, j + 1, k + 1, ok, h1, h2 => by
    unfold pkOk at ok
    simp only [Bool.and_eq_true] at ok
    exact congrArg (· + 1) (pk_inj ok.2 (by simpa using h1) (by simpa using h2))
  | .val m :: rs, j + 1, k + 1, ok, h1, h2 => congrArg (· + 1) (pk_inj (rs := rs) ok (by simpa using h1) (by simpa using h2))
  | .own m :: rs, j + 1, k + 1, ok, h1, h2 => congrArg (· + 1) (pk_inj (rs := rs) ok (by simpa using h1) (by simpa using h2))
/-- the arguments as slots, place by place -/
inductive ArgAt (e : Sl) (F : Hp) (K : PySem.W.Frag) (mg : Mg) (σ : St) : V → RV → Slot → Prop
  | val {v : V} {d : D} : Rep K mg F v d → ArgAt e F K mg σ v (.val d) (.val d)
  | lent {v : V} {i : Nat} {f : Bool} {c : Cont} : e[i]? = some (.own f c) → σ[i]? = some (some v) → ArgAt e F K mg σ v (.pk i) (.own true c)
theorem arg_at {e : Sl} : ∀ {rs : List RV} {vs : List V} {sl : Sl}, Args K mg F σ vs rs → argSl e rs = some sl → sl.length = vs.length ∧ rs.length = vs.length ∧ sl.all isArg = true ∧ ∀ (j : Nat) (s : Slot), sl[j]? = some s → ∃ v r, vs[j]? = some v ∧ rs[j]? = some r ∧ ArgAt e F K mg σ v r s
  | _, _, _, .nil, h => by cases h; exact ⟨rfl, rfl, rfl, fun j s z => by simp at z⟩
  | _, _, _, .cons (r := .own c) a b, h => a.elim
  | _, _, _, .cons (r := .val d) a b, h => by
    unfold argSl at h
    obtain ⟨t, ht, rfl⟩ := Option.map_eq_some_iff.mp h
    obtain ⟨i1, i2, i3, i4⟩ := arg_at b ht
    refine ⟨congrArg (· + 1) i1, congrArg (· + 1) i2, by rw [List.all_cons, i3]; rfl, fun j s z => ?_⟩
    cases j with
    | zero =>
      have e : Slot.val d = s := by simpa using z
      subst e
      exact ⟨_, _, rfl, rfl, .val a⟩
    | succ j => simpa using i4 j s (by simpa using z)
  | _, _, _, .cons (r := .pk i) a b, h => by
    unfold argSl at h
    split at h
    · rename_i f c hc
      obtain ⟨t, ht, rfl⟩ := Option.map_eq_some_iff.mp h
      obtain ⟨i1, i2, i3, i4⟩ := arg_at b ht
      refine ⟨congrArg (· + 1) i1, congrArg (· + 1) i2, by rw [List.all_cons, i3]; rfl, fun j s z => ?_⟩
      cases j with
      | zero =>
        have e : Slot.own true c = s := by simpa using z
        subst e
        exact ⟨_, _, rfl, rfl, .lent hc a⟩
      | succ j => simpa using i4 j s (by simpa using z)
    · cases h
/-- what back does at a slot -/
theorem chg_get {e : Sl} {i k : Nat} {c : Cont} {s : Slot} (h : (chg e i c)[k]? = some s) : (i = k ∧ ∃ f c0, e[k]? = some (.own f c0) ∧ s = .own f c) ∨ ((i ≠ k ∨ ∀ f c0, e[k]? ≠ some (.own f c0)) ∧ e[k]? = some s) := by
  unfold chg at h
  split at h
  · rename_i f c0 hc
    rcases get_set_of h with ⟨rfl, rfl⟩ | ⟨n, h⟩
    · exact .inl ⟨rfl, f, c0, hc, rfl⟩
    · exact .inr ⟨.inl n, h⟩
  · rename_i hc
    by_cases z : i = k
    · subst z
      exact .inr ⟨.inr fun f c0 q => hc f c0 q, h⟩
    · exact .inr ⟨.inl z, h⟩
theorem chg_len {e : Sl} {i : Nat} {c : Cont} : (chg e i c).length = e.length := by
  unfold chg
  split
  · exact List.length_set
  · rfl
theorem back_len : ∀ {rs : List RV} {sl e : Sl}, (back e rs sl).length = e.length
  | [], _, _ => by unfold back; rfl
  | r :: rs, [], e => by cases r <;> rfl
  | .pk i :: rs, .own f c :: sl, e => by unfold back; rw [back_len, chg_len]
  | .pk i :: rs, .no :: sl, e => by unfold back; exact back_len
  | .pk i :: rs, .val d :: sl, e => by unfold back; exact back_len
  | .val i :: rs, s :: sl, e => by unfold back; exact back_len
  | .own i :: rs, s :: sl, e => by unfold back; exact back_len
/-- at slot k: lent and come back, or as it was -/
theorem back_get {k : Nat} {s : Slot} : ∀ {rs : List RV} {sl e : Sl}, pkOk rs = true → (∀ (j i : Nat), rs[j]? = some (.pk i) → ∃ (f : Bool) (c : Cont), sl[j]? = some (.own f c)) → (back e rs sl)[k]? = some s →
    (∃ (j : Nat) (f g : Bool) (c c0 : Cont), rs[j]? = some (.pk k) ∧ sl[j]? = some (.own g c) ∧ e[k]? = some (.own f c0) ∧ s = .own f c) ∨ (((∀ j : Nat, rs[j]? ≠ some (.pk k)) ∨ ∀ (f : Bool) (c0 : Cont), e[k]? ≠ some (.own f c0)) ∧ e[k]? = some s)
  | [], sl, e, _, _, h => by
    unfold back at h
    exact .inr ⟨.inl fun j z => by simp at z, h⟩
  | .val d :: rs, [], e, _, ho, h => by
    have h : e[k]? = some s := h
    refine .inr ⟨.inl fun j z => ?_, h⟩
    obtain ⟨f, c, q⟩ := ho j k z
    simp at q
  | .own d :: rs, [], e, _, ho, h => by
    have h : e[k]? = some s := h
    refine .inr ⟨.inl fun j z => ?_, h⟩
    obtain ⟨f, c, q⟩ := ho j k z
    simp at q
  | .pk d :: rs, [], e, _, ho, h => by
    obtain ⟨f, c, q⟩ := ho 0 d rfl
    simp at q
  | .val d :: rs, t :: sl, e, ok, ho, h => by
    unfold back at h
    rcases back_get (rs := rs) (sl := sl) ok (fun j i z => by simpa using ho (j + 1) i (by simpa using z)) h with ⟨j, f, g, c, c0, h1, h2, h3, h4⟩ | ⟨h1, h2⟩
    · exact .inl ⟨j + 1, f, g, c, c0, by simpa using h1, by simpa using h2, h3, h4⟩
    · refine .inr ⟨h1.imp (fun z j => ?_) id, h2⟩
      cases j with
      | zero => intro y; simp at y
      | succ j => simpa using z j
  | .own d :: rs, t :: sl, e, ok, ho, h => by
    unfold back at h
    rcases back_get (rs := rs) (sl := sl) ok (fun j i z => by simpa using ho (j + 1) i (by simpa using z)) h with ⟨j, f, g, c, c0, h1, h2, h3, h4⟩ | ⟨h1, h2⟩
    · exact .inl ⟨j + 1, f, g, c, c0, by simpa using h1, by simpa using h2, h3, h4⟩
    · refine .inr ⟨h1.imp (fun z j => ?_) id, h2⟩
      cases j with
      | zero => intro y; simp at y
      | succ j => simpa using z j
  | .pk i :: rs, .no :: sl, e, ok, ho, h => by
    obtain ⟨f, c, q⟩ := ho 0 i rfl
    simp at q
  | .pk i :: rs, .val d :: sl, e, ok, ho, h => by
    obtain ⟨f, c, q⟩ := ho 0 i rfl
    simp at q
  | .pk i :: rs, .own g c :: sl, e, ok, ho, h => by
    have okr : pkOk rs = true := by
      unfold pkOk at ok
      simp only [Bool.and_eq_true] at ok
      exact ok.2
    unfold back at h
    rcases back_get (rs := rs) (sl := sl) okr (fun j i z => by simpa using ho (j + 1) i (by simpa using z)) h with ⟨j, f, g', c', c0, h1, h2, h3, h4⟩ | ⟨h1, h2⟩
    · have ne : i ≠ k := fun z => by
        subst z
        have := pk_inj (rs := .pk i :: rs) (j := 0) (k := j + 1) ok rfl (by simpa using h1)
        omega
      rcases chg_get h3 with ⟨z, _⟩ | ⟨_, h3⟩
      · exact absurd z ne
      · exact .inl ⟨j + 1, f, g', c', c0, by simpa using h1, by simpa using h2, h3, h4⟩
    · rcases chg_get h2 with ⟨rfl, f, c0, h3, h4⟩ | ⟨h3, h4⟩
      · exact .inl ⟨0, f, g, c, c0, rfl, rfl, h3, h4⟩
      · refine .inr ⟨?_, h4⟩
        rcases h3 with h3 | h3
        · rcases h1 with h1 | h1
          · refine .inl fun j => ?_
            cases j with
            | zero => intro y; exact h3 (by simpa using y)
            | succ j => simpa using h1 j
          · refine .inr fun f c0 z => ?_
            have : (chg e i c)[k]? = e[k]? := by
              unfold chg
              split
              · exact List.getElem?_set_ne h3
              · rfl
            exact h1 f c0 (by rw [this]; exact z)
        · exact .inr h3
end
end Y

set_option Elab.async false
set_option linter.all false
set_option maxRecDepth 100000
set_option maxHeartbeats 4000000
namespace Y
open PySem PySem.Spec L2
set_option autoImplicit false
variable [TB]
section
variable {K : PySem.W.Frag} {mg : Mg} {F H F' H' : Hp} {σ : St} {e : Sl} {vs : List V} {rs : List RV} {sl sl' : Sl} {W : WX} {Q : VK} {fn : Fn}
/-- the callee's view of the arguments -/
theorem Rel.args (R : Rel K mg F e σ H) (ok : pkOk rs = true) (A : Args K mg F σ vs rs) (hs : argSl e rs = some sl) : Rel K mg F sl (vs.map some) H := by
  obtain ⟨l1, l2, l3, l4⟩ := arg_at A hs
  have vget : ∀ {j : Nat} {v : V}, vs[j]? = some v → (vs.map some)[j]? = some (some v) := fun {j v} h => by rw [List.getElem?_map, h]; rfl
  refine ⟨R.sub, by rw [l1, List.length_map], fun j s o es ex => ?_, fun i j f g c d a ei ej si sj => ?_, R.tab, R.ftb⟩
  · obtain ⟨v, r, h1, h2, h3⟩ := l4 j s es
    rw [vget h1] at ex
    cases ex
    cases h3 with
    | val q => exact ⟨v, rfl, q⟩
    | lent q1 q2 =>
      obtain ⟨p, o', h4, h5⟩ := R.ok _ _ _ q1 q2
      exact ⟨p, o', h4, h5⟩
  · obtain ⟨v1, r1, h1, h2, h3⟩ := l4 i _ ei
    obtain ⟨v2, r2, k1, k2, k3⟩ := l4 j _ ej
    rw [vget h1] at si
    rw [vget k1] at sj
    cases si
    cases sj
    cases h3 with
    | lent q1 q2 =>
      cases k3 with
      | lent p1 p2 =>
        have := R.inj _ _ _ _ _ _ _ q1 p1 q2 p2
        subst this
        exact pk_inj ok h2 k2
theorem own_args (R : Rel K mg F e σ H) (A : Args K mg F σ vs rs) (hs : argSl e rs = some sl) {b : Addr} (h : Own sl (vs.map some) b) : ∃ (j i : Nat) (f : Bool) (c : Cont), rs[j]? = some (.pk i) ∧ e[i]? = some (.own f c) ∧ σ[i]? = some (some (.ref b)) ∧ vs[j]? = some (.ref b) := by
  obtain ⟨l1, l2, l3, l4⟩ := arg_at A hs
  obtain ⟨j, f, c, h1, h2⟩ := h
  obtain ⟨v, r, k1, k2, k3⟩ := l4 j _ h1
  rw [List.getElem?_map, k1] at h2
  have ev : v = .ref b := by simpa using h2
  subst ev
  cases k3 with
  | lent q1 q2 => exact ⟨j, _, _, _, k2, q1, q2, k1⟩
theorem call_back (R : Rel K mg F e σ H) (ok : pkOk rs = true) (A : Args K mg F σ vs rs) (hs : argSl e rs = some sl) (s : Stp F H sl (vs.map some) F' H' sl' (vs.map some)) (R' : Rel K mg F' sl' (vs.map some) H') :
    Rel K mg F' (back e rs sl') σ H' ∧ Stp F H e σ F' H' (back e rs sl') σ ∧ ∀ b, Own (back e rs sl') σ b → Own e σ b := by
  obtain ⟨l1, l2, l3, l4⟩ := arg_at A hs
  have oe : ∀ b, Own sl (vs.map some) b → Own e σ b := fun b h => by
    obtain ⟨j, i, f, c, _, h2, h3, _⟩ := own_args R A hs h
    exact ⟨i, f, c, h2, h3⟩
  -- every lent slot comes back
  have lent : ∀ (j i : Nat), rs[j]? = some (.pk i) → ∃ (f : Bool) (c : Cont) (v : V), sl'[j]? = some (.own true c) ∧ vs[j]? = some v ∧ σ[i]? = some (some v) ∧ ∃ f0 c0, e[i]? = some (.own f0 c0) := fun j i h => by
    have hj : j < sl.length := by rw [l1, ← l2]; exact (List.getElem?_eq_some_iff.mp h).1
    obtain ⟨v, r, k1, k2, k3⟩ := l4 j _ (List.getElem?_eq_getElem hj)
    rw [h] at k2
    cases k2
    generalize hq : sl[j] = q at k3
    cases k3 with
    | lent q1 q2 =>
      obtain ⟨⟨c', z⟩, _⟩ := s.fix j _ (by rw [List.getElem?_eq_getElem hj, hq])
      exact ⟨true, c', v, z, k1, q2, _, _, q1⟩
  have hso : ∀ (j i : Nat), rs[j]? = some (.pk i) → ∃ (f : Bool) (c : Cont), sl'[j]? = some (.own f c) := fun j i h => by
    obtain ⟨f, c, v, z, _⟩ := lent j i h
    exact ⟨true, c, z⟩
  have get : ∀ {k : Nat} {t : Slot}, (back e rs sl')[k]? = some t → (∃ (j : Nat) (f g : Bool) (c c0 : Cont), rs[j]? = some (.pk k) ∧ sl'[j]? = some (.own g c) ∧ e[k]? = some (.own f c0) ∧ t = .own f c) ∨ (((∀ j : Nat, rs[j]? ≠ some (.pk k)) ∨ ∀ (f : Bool) (c0 : Cont), e[k]? ≠ some (.own f c0)) ∧ e[k]? = some t) := fun h => back_get ok hso h
  have og : ∀ {k : Nat} {f : Bool} {c : Cont}, (back e rs sl')[k]? = some (.own f c) → ∃ c0, e[k]? = some (.own f c0) := fun {k f c} h => by
    rcases get h with ⟨j, f', g, c', c0, _, _, h3, h4⟩ | ⟨_, h⟩
    · cases h4; exact ⟨c0, h3⟩
    · exact ⟨c, h⟩
  have ob : ∀ b, Own (back e rs sl') σ b → Own e σ b := fun b ⟨k, f, c, h1, h2⟩ => by
    obtain ⟨c0, h3⟩ := og h1
    exact ⟨k, f, c0, h3, h2⟩
  -- what is own here and not lent is not the callee's
  have mine : ∀ {k : Nat} {f : Bool} {c0 : Cont} {b : Addr}, e[k]? = some (.own f c0) → σ[k]? = some (some (.ref b)) → (∀ j : Nat, rs[j]? ≠ some (.pk k)) → ¬ Own sl (vs.map some) b := fun {k f c0 b} h1 h2 h3 h4 => by
    obtain ⟨j, i, f', c', q1, q2, q3, _⟩ := own_args R A hs h4
    have := R.inj _ _ _ _ _ _ _ h1 q2 h2 q3
    subst this
    exact h3 j q1
  refine ⟨⟨R'.sub, by rw [back_len]; exact R.len, fun k t o es ex => ?_, fun i j f g c d a ei ej si sj => ?_, R'.tab, R'.ftb⟩, ⟨s.fro, fun b o h n m => s.kept b o h (fun z => n (oe b z)) m, s.dom, fun b h h' => (s.newF b h h').imp id (oe b), fun b h => .inr (ob b h), fun i c h => ?_, by rw [back_len]⟩, ob⟩
  · rcases get es with ⟨j, f, g, c, c0, h1, h2, h3, rfl⟩ | ⟨h1, h2⟩
    · obtain ⟨_, c', v, z1, z2, z3, _⟩ := lent j k h1
      rw [h2] at z1
      cases z1
      rw [z3] at ex
      cases ex
      obtain ⟨a, o, q1, q2⟩ := R'.ok j _ _ h2 (show (vs.map some)[j]? = some (some v) by rw [List.getElem?_map, z2]; rfl)
      exact ⟨a, o, q1, q2⟩
    · have q := R.ok k t o h2 ex
      cases t with
      | no => trivial
      | val d => obtain ⟨v, q1, q2⟩ := q; exact ⟨v, q1, q2.mono s.fro⟩
      | own f c =>
        obtain ⟨a, o', q1, q2, q3, q4⟩ := q
        have hm : ¬ Own sl (vs.map some) a := by
          rcases h1 with h1 | h1
          · exact mine h2 (by rw [ex, q1]) h1
          · exact absurd h2 (h1 f c)
        refine ⟨a, o', q1, ?_, s.kept a o' q3 hm q4.notbl, q4.mono s.fro⟩
        cases z : F' a with
        | none => rfl
        | some u =>
          rcases s.newF a q2 (by rw [z]; exact fun y => nomatch y) with y | y
          · rw [q3] at y; cases y
          · exact absurd y hm
  · obtain ⟨c1, ei⟩ := og ei
    obtain ⟨c2, ej⟩ := og ej
    exact R.inj i j f g _ _ a ei ej si sj
  · refine ⟨?_, rfl⟩
    have hl : i < (back e rs sl').length := by rw [back_len]; exact (List.getElem?_eq_some_iff.mp h).1
    rcases get (List.getElem?_eq_getElem hl) with ⟨j, f, g, c', c0, _, _, h3, h4⟩ | ⟨_, h2⟩
    · rw [h] at h3
      cases h3
      exact ⟨c', by rw [List.getElem?_eq_getElem hl, h4]⟩
    · exact ⟨c, by rw [List.getElem?_eq_getElem hl, ← h2]; exact h⟩
/-- THE CALL: from what the caller wants to the callee's promise -/
theorem callK_ok (R : Rel K mg F e σ H) (A : Args K mg F σ vs rs) (h : post K mg W (rV K mg) F H e σ (callK fn rs e) Q) : cSp K mg fn vs H Q (fun c d H => W c d σ H) := by
  unfold callK at h
  split at h
  · rename_i ok
    cases hs : argSl e rs with
    | none => rw [hs] at h; exact h.elim
    | some sl =>
      rw [hs] at h
      obtain ⟨l1, l2, l3, l4⟩ := arg_at A hs
      have RA := R.args ok A hs
      refine ⟨sl, F, RA, l3, ?_⟩
      have oe : ∀ b, NM H sl (vs.map some) b → NM H e σ b := fun b z => z.imp id fun y => by
        obtain ⟨j, i, f, c, _, h2, h3, _⟩ := own_args R A hs y
        exact ⟨i, f, c, h2, h3⟩
      dsimp only at h
      cases w : fn sl with
      | bad => rw [w] at h; exact h.elim
      | ex x sl' =>
        rw [w] at h
        intro cls d F' H' s R' z
        obtain ⟨r1, r2, r3⟩ := call_back R ok A hs s R'
        exact h cls d F' H' r2 r1 z
      | ok r sl' =>
        rw [w] at h
        intro v F' H' s R' z
        obtain ⟨r1, r2, r3⟩ := call_back R ok A hs s R'
        cases r with
        | pk i => exact h.elim
        | val d => exact h v F' H' r2 r1 z
        | own c =>
          obtain ⟨a, o, e1, hF, hH, hc, hn, hN⟩ := z
          refine h v F' H' r2 r1 ⟨a, o, e1, hF, hH, hc, fun y => ?_, oe a hN⟩
          -- a new thing is none of the caller's
          obtain ⟨k, f, c', h1, h2⟩ := y
          obtain ⟨i', f', c'', h3, h4⟩ := r3 a ⟨k, f, c', h1, h2⟩
          obtain ⟨a', o', q1, q2, q3, q4⟩ := R.ok i' _ _ h3 h4
          cases q1
          rcases hN with hN | hN
          · rw [hN] at q3; cases q3
          · -- it was lent: then it is still the callee's
            obtain ⟨j, i, f0, c0, p1, p2, p3, p4⟩ := own_args R A hs hN
            obtain ⟨j0, f1, c1, m1, m2⟩ := hN
            have hj : ∃ c2, sl'[j0]? = some (.own true c2) := by
              have ht : f1 = true := by
                have := List.all_eq_true.mp l3 _ (List.mem_of_getElem? m1)
                cases f1 with
                | true => rfl
                | false => cases this
              subst ht
              exact (s.fix j0 c1 m1).1
            obtain ⟨c2, hj⟩ := hj
            exact hn ⟨j0, true, c2, hj, m2⟩
  · exact h.elim
end
section
variable {X : Cx} {W : WX} {a b c : Expr} {es : List Expr} {f g : M RV} {as : M (List RV)} {fn : Fn} {pos p : Pos} {k : Nat} {fa : Addr} {fd : FuncData} {ps : List Str} {x : Str}
theorem de_call (G : FnOk X.prog X.w X.K X.mg X.base (L2.CX X.prog X.w) k fa fd ps (cSp X.K X.mg fn)) (hr : Room k X.A) (tk : Takes X W) (hg : Gl X x) (hm : X.mg x = some (.ref fa)) (hk : PySem.W.keepIn X.K (.ref fa) = true) (hb : Binds X.K fd ps []) (ha : DA X W (a :: es) as)
    (hdb : (x == ("__debug__" : Str)) = false := by decide) (he : starEach (a :: es) X.env = (false, eval a X.env) :: starEach es X.env := by rfl) (hpl : (backTo pos (starEach es X.env)).any (·.1) = false := by rfl) :
    DE X W (.Call (.Name x p) (a :: es) [] pos) (eCall fn as) := peW (pe_callSD (dvs := []) (E := fun σ c d H => W c d σ H) G hr hg hm hk hb .nil (fun σ => passAt tk σ) ha hdb he hpl) fun σ H Q ⟨e, F, R, h⟩ => by
  refine ⟨e, F, R, post_imp (post_seq up_V h) ?_⟩
  rintro vs H1 ⟨rs, e1, F1, q1, R1, s1, h1⟩
  rw [List.append_nil]
  exact callK_ok R1 q1 h1
/-! ### attributes, += -/
def fldK (c : Str) (n : Str) : D → M RV
  | .ins c' fs => fun e => if c' = c then (match fs.lookup n with
    | some d => .ok (.val d) e
    | none => .bad) else .bad
  | _ => M.bad
theorem de_fld {c n : Str} {C : Addr} (hC : X.mg c = some (.ref C)) (cl : Cls X.K C) (no : NoAttr X.K C n) (ha : DE X W a f) (hb : attributeBase a n X.env (eval a X.env) = eval a X.env := by rfl) : DE X W (.Attribute a n pos) (rd1 f (fldK c n)) := peW (pe_fld ha hb) fun σ H Q h0 =>
  rd1_ok (r := fun x H1 Q => ∃ a C dx fs v, x = .ref a ∧ H1 a = some (.ins C dx fs) ∧ Cls X.K C ∧ NoAttr X.K C n ∧ fs.lookup n = some v ∧ Q v H1) (fun F H e σ x d Q R rx h => by
    unfold fldK at h
    split at h
    · rename_i c' fs
      split at h
      · rename_i hc
        subst hc
        cases w : fs.lookup n with
        | none => rw [w] at h; exact h.elim
        | some d =>
          rw [w] at h
          obtain ⟨p, C', dx, gs, rfl, m, hH, r⟩ := rx
          rw [hC] at m
          cases m
          obtain ⟨v, h1, h2⟩ := r.look w
          exact ⟨p, C, dx, gs, v, rfl, hH, cl, no, h1, post_val R h h2⟩
      · exact h.elim
    · exact h.elim) h0
def sAug (i : Nat) (f : M RV) (k : D → D → M RV) : M Flo := M.bind (rd2 (eVar i) f k) (stor i)
end
end Y

set_option Elab.async false
set_option linter.all false
set_option maxRecDepth 100000
set_option maxHeartbeats 4000000
namespace Y
open PySem PySem.Spec L2
set_option autoImplicit false
variable [TB]
/-! ### x += e -/
section
variable {X : Cx} {W : WX} {a b c : Expr} {f g : M RV} {pos pos' p : Pos} {x : Str}
def augK (k : D → D → M RV) (d : D) (i : Nat) (r : RV) : M Flo := fun e => match rdat e r with
  | some d' => (M.bind (k d d') (stor i)) e
  | none => .bad
/-- a name that holds plain data -/
def sAugI (i : Nat) (f : M RV) (k : D → D → M RV) : M Flo := fun e => match e[i]? with
  | some (.val d) => (M.bind f (augK k d i)) e
  | _ => .bad
theorem ds_augI {op : Operator} {r : R2} {k : D → D → M RV} (i : Nat) (hN : X.N.Nodup) (ho : OpR X (inplaceOp op) r) (hk : K2 X.K X.mg W r k) (ha : DE X W a f) (hi : X.N[i]? = some x := by rfl) (hx : Loc X.env.scope x := by first | exact Or.inl rfl | exact Or.inr rfl)
    (hf : X.fn x = true ∨ X.env.scope.names.lookup x = some .local := by first | exact .inl rfl | exact .inr rfl) : DS X W (.AugAssign (.Name x pos') op a pos) (sAugI i f k) := psW (ps_aug (ti := r) hN hi hx ha ho hf) fun E σ H ⟨e, F, R, h⟩ => by
  unfold sAugI at h
  split at h
  · rename_i d es
    have hl : i < σ.length := by rw [← R.len]; exact (List.getElem?_eq_some_iff.mp es).1
    obtain ⟨v, h1, h2⟩ := R.ok i _ _ es (List.getElem?_eq_getElem hl)
    refine ⟨v, by rw [List.getElem?_eq_getElem hl, h1], e, F, R, post_imp (postS_seq h) ?_⟩
    rintro y H1 ⟨r1, e1, F1, q1, R1, s1, z1⟩
    unfold augK at z1
    cases w : rdat e1 r1 with
    | none => rw [w] at z1; exact z1.elim
    | some d' =>
      rw [w] at z1
      dsimp only at z1
      refine hk F1 H1 e1 σ v y d d' _ R1 (Rep.rd R1.sub (h2.mono s1.fro)) (R1.rd q1 w) (post_imp (postS_seqG (R1 := rV X.K X.mg) s1 z1) ?_)
      rintro z H2 ⟨r2, e2, F2, q2, R2, s2, z2⟩
      exact stor_ok R2 (q2.imp fun _ y => s1.nm y) (s1.trans s2) z2
  · exact h.elim
/-! ### isinstance -/
def tyD : D → Option String
  | .non => some "NoneType"
  | .bl _ => some "bool"
  | .int _ => some "int"
  | .str _ => some "str"
  | .lst _ => some "list"
  | .tup _ => some "tuple"
  | _ => none
theorem rd_ty {K : PySem.W.Frag} {mg : Mg} {F H : Hp} {x : V} {d : D} {t : String} (s : Same F H) (rx : RdOk K mg F H x d) (h : tyD d = some t) : TyX K H x (.type t) := by
  cases d with
  | non => cases h; cases rx; exact .base .non
  | bl b => cases h; cases rx; exact .base (.bl b)
  | int b => cases h; cases rx; exact .base (.int b)
  | str b => cases h; cases rx; exact .base (.str b)
  | lst ds =>
    cases h
    obtain ⟨p, vs, rfl, q, _⟩ := rx
    rcases q with (q | ⟨o, q⟩) | ⟨o, its, n, q, hc, _⟩
    · exact .base (.lst q)
    · exact .base (.frz q)
    · exact .kList q hc
  | tup ds =>
    cases h
    obtain ⟨p, vs, rfl, q, _⟩ := rx
    rcases sqT_mono s q with (q | ⟨o, q⟩) | ⟨o, its, n, q, hc, _⟩
    · exact .base (.tup q)
    · exact .fTuple q
    · exact .kTuple q hc
  | ins c fs => cases h
  | raw v => cases h
  | dK ks => cases h
  | dT ks => cases h
  | exc _ _ => cases h
/-- the built-in classes that are asked for -/
def subB (t n : String) : Bool := t == n || (t == "bool" && n == "int")
def isiK (ns : List String) : D → M RV := fun d e => match tyD d with
  | some t => .ok (.val (.bl (ns.any (subB t)))) e
  | none => .bad
abbrev tys : List String := ["NoneType", "bool", "int", "str", "list", "tuple"]
theorem kit_table : (tys.all fun t => ["int", "bool", "str", "list", "tuple"].all fun n => decide (kitB t n = some (subB t n))) = true := by decide +kernel
theorem tyD_mem {d : D} {t : String} (h : tyD d = some t) : t ∈ tys := by
  cases d <;> (unfold tyD at h; first | (cases h; decide) | cases h)
theorem kit_one {K : PySem.W.Frag} {d : D} {t n : String} (h : tyD d = some t) (hn : n ∈ ["int", "bool", "str", "list", "tuple"]) : PySem.W.kitOne K (.type t) (.type n) = some (subB t n) :=
  kit_ty (of_decide_eq_true (List.all_eq_true.mp (List.all_eq_true.mp kit_table t (tyD_mem h)) n hn))
theorem kit_any {K : PySem.W.Frag} {d : D} {t : String} (h : tyD d = some t) : ∀ {ns : List String}, (∀ n ∈ ns, n ∈ ["int", "bool", "str", "list", "tuple"]) → PySem.W.kitAny K (.type t) (ns.map Value.type) = some (ns.any (subB t))
  | [], _ => rfl
  | n :: ns, hn => by
    have ih := kit_any (K := K) h (ns := ns) fun m hm => hn m (List.mem_cons_of_mem _ hm)
    refine kitAny_cons (kit_one h (hn n List.mem_cons_self)) (fun hb => ?_) fun hb => ?_
    · rw [List.any_cons, hb, Bool.false_or]; exact ih
    · rw [List.any_cons, hb, Bool.true_or]
/-- isinstance(a, T), T a built-in class -/
theorem de_isi {n : String} {q q2 : Pos} {nm : Str} (hg : Gl X "isinstance") (hm : X.mg "isinstance" = none) (hg2 : Gl X nm) (hm2 : X.mg nm = none) (hv : bootBuiltins nm = some (.type n)) (hn : n ∈ ["int", "bool", "str", "list", "tuple"]) (ha : DE X W a f)
    (hnn : nm ≠ "__name__" := by decide) (hnd : (nm == ("__debug__" : Str)) = false := by decide)
    (he : starEach [a, .Name nm q2] X.env = (false, eval a X.env) :: starEach [.Name nm q2] X.env := by rfl) (he2 : starEach [.Name nm q2] X.env = (false, eval (.Name nm q2) X.env) :: starEach [] X.env := by rfl)
    (hpl : (backTo pos (starEach [.Name nm q2] X.env)).any (·.1) = false := by rfl) :
    DE X W (.Call (.Name "isinstance" q) [a, .Name nm q2] [] pos) (rd1 f (isiK [n])) :=
  peW (pe_callB call_isi hg hm (by decide +kernel) (pa_cons ha (pa_cons (pe_bltn (v := .ty n) hg2 hm2 hv rfl hnn hnd) pa_nil he2) he) (by decide) (by decide) he hpl) fun σ H Q h0 =>
    rd1_ok (r := fun x H1 Q => rIsi X.K [x, .ty n] H1 Q) (fun F H e σ x d Q R rx h => by
      unfold isiK at h
      cases w : tyD d with
      | none => rw [w] at h; exact h.elim
      | some t =>
        rw [w] at h
        refine ⟨x, .ty n, .type t, .type n, subB t n, rfl, .ty n, rd_ty R.sub rx w, kit_one w hn, ?_⟩
        have e1 : [n].any (subB t) = subB t n := by simp
        dsimp only at h
        rw [e1] at h
        exact post_val R h (.bl _)) h0
/-- isinstance(a, (T1, T2)) -/
theorem de_isi2 {n m : String} {q q2 q3 q4 : Pos} {nm mm : Str} {j : Nat} (hg : Gl X "isinstance") (hm : X.mg "isinstance" = none) (hg2 : Gl X nm) (hm2 : X.mg nm = none) (hv : bootBuiltins nm = some (.type n)) (hn : n ∈ ["int", "bool", "str", "list", "tuple"])
    (hg3 : Gl X mm) (hm3 : X.mg mm = none) (hv3 : bootBuiltins mm = some (.type m)) (hn3 : m ∈ ["int", "bool", "str", "list", "tuple"]) (ha : DE X W a f)
    (hnn : nm ≠ "__name__" := by decide) (hnd : (nm == ("__debug__" : Str)) = false := by decide) (hnn3 : mm ≠ "__name__" := by decide) (hnd3 : (mm == ("__debug__" : Str)) = false := by decide)
    (he : starEach [a, .Tuple [.Name nm q2, .Name mm q3] j q4] X.env = (false, eval a X.env) :: starEach [.Tuple [.Name nm q2, .Name mm q3] j q4] X.env := by rfl) (he2 : starEach [.Tuple [.Name nm q2, .Name mm q3] j q4] X.env = (false, eval (.Tuple [.Name nm q2, .Name mm q3] j q4) X.env) :: starEach [] X.env := by rfl)
    (he3 : starEach [.Name nm q2, .Name mm q3] X.env = (false, eval (.Name nm q2) X.env) :: starEach [.Name mm q3] X.env := by rfl) (he4 : starEach [.Name mm q3] X.env = (false, eval (.Name mm q3) X.env) :: starEach [] X.env := by rfl)
    (hpl : (backTo pos (starEach [.Tuple [.Name nm q2, .Name mm q3] j q4] X.env)).any (·.1) = false := by rfl) :
    DE X W (.Call (.Name "isinstance" q) [a, .Tuple [.Name nm q2, .Name mm q3] j q4] [] pos) (rd1 f (isiK [n, m])) :=
  peW (pe_callB call_isiT hg hm (by decide +kernel) (pa_cons ha (pa_cons (pe_tup (pa_cons (pe_bltn (v := .ty n) hg2 hm2 hv rfl hnn hnd) (pa_cons (pe_bltn (v := .ty m) hg3 hm3 hv3 rfl hnn3 hnd3) pa_nil he4) he3)) pa_nil he2) he) (by decide) (by decide) he hpl) fun σ H Q h0 =>
    rd1_ok (r := fun x H1 Q => [V.ty n, V.ty m].length ≤ sizeLine ∧ ∀ p, H1 p = none → rIsiT X.K [x, .ref p] (upd H1 p (.tup [.ty n, .ty m])) Q) (fun F H e σ x d Q R rx h => by
      unfold isiK at h
      cases w : tyD d with
      | none => rw [w] at h; exact h.elim
      | some t =>
        rw [w] at h
        refine ⟨by show 2 ≤ sizeLine; decide, fun p hp => ⟨x, p, [.ty n, .ty m], .type t, [.type n, .type m], [n, m].any (subB t), rfl, upd_same, .cons (.ty n) (.cons (.ty m) .nil), ?_, ?_, ?_⟩⟩
        · have rx' : RdOk X.K X.mg F (upd H p (.tup [.ty n, .ty m])) x d := by
            cases d with
            | lst ds => obtain ⟨q, vs, e1, h2, h3⟩ := rx; exact ⟨q, vs, e1, (same_upd' hp).seq h2, h3⟩
            | ins c fs => cases w
            | dK ks => cases w
            | dT ks => cases w
            | exc _ _ => cases w
            | _ => exact rx
          exact rd_ty (R.new hp).sub rx' w
        · exact kit_any w (ns := [n, m]) (fun z hz => by
            rcases List.mem_cons.mp hz with y | y
            · rw [y]; exact hn
            · rcases List.mem_cons.mp y with y | y
              · rw [y]; exact hn3
              · cases y)
        · exact h _ F _ (Stp.new R hp) (R.new hp) (.bl _)) h0
/-- what the written part knows of a class of one's own -/
structure ClsF (K : PySem.W.Frag) (mg : Mg) (c : Str) (C : Addr) : Prop where
  mgC : mg c = some (.ref C)
  cl : Cls K C
  ha : PySem.W.findIn K (.ref C) "__class__" = some (some (.builtin "object.__class__"))
  hn : PySem.W.specialIn K (.builtin "object.__class__") "__get__" = some (some (.builtin "getset_descriptor.__get__"))
  htk : PySem.W.takesIn K (.builtin "object.__class__") = some true
  hm : PySem.W.mroIn K C (.type "object") = some true
  kc : PySem.W.kitOne K (.ref C) (.ref C) = some true
  k0 : PySem.W.kitOne K (.type "NoneType") (.ref C) = some false
  k1 : PySem.W.kitOne K (.type "bool") (.ref C) = some false
  k2 : PySem.W.kitOne K (.type "int") (.ref C) = some false
  k3 : PySem.W.kitOne K (.type "str") (.ref C) = some false
  k4 : PySem.W.kitOne K (.type "list") (.ref C) = some false
  k5 : PySem.W.kitOne K (.type "tuple") (.ref C) = some false
def isiC (c : Str) : D → M RV := fun d e => match d with
  | .ins c' _ => if c' = c then .ok (.val (.bl true)) e else .bad
  | d => match tyD d with
    | some _ => .ok (.val (.bl false)) e
    | none => .bad
theorem de_isiC {c : Str} {C : Addr} {q q2 : Pos} (hg : Gl X "isinstance") (hm : X.mg "isinstance" = none) (hg2 : Gl X c) (T : ClsF X.K X.mg c C) (ha : DE X W a f) (hnd : (c == ("__debug__" : Str)) = false := by decide)
    (he : starEach [a, .Name c q2] X.env = (false, eval a X.env) :: starEach [.Name c q2] X.env := by rfl) (he2 : starEach [.Name c q2] X.env = (false, eval (.Name c q2) X.env) :: starEach [] X.env := by rfl)
    (hpl : (backTo pos (starEach [.Name c q2] X.env)).any (·.1) = false := by rfl) :
    DE X W (.Call (.Name "isinstance" q) [a, .Name c q2] [] pos) (rd1 f (isiC c)) :=
  peW (pe_callB call_isi hg hm (by decide +kernel) (pa_cons ha (pa_cons (pe_glob (v := .ref C) hg2 T.mgC rfl hnd) pa_nil he2) he) (by decide) (by decide) he hpl) fun σ H Q h0 =>
    rd1_ok (r := fun x H1 Q => rIsi X.K [x, .ref C] H1 Q) (fun F H e σ x d Q R rx h => by
      have plain : ∀ t, tyD d = some t → post X.K X.mg W (rV X.K X.mg) F H e σ (.ok (.val (.bl false)) e) Q → rIsi X.K [x, .ref C] H Q := fun t w h => by
        refine ⟨x, .ref C, .type t, .ref C, false, rfl, .own C, rd_ty R.sub rx w, ?_, post_val R h (.bl _)⟩
        have hmem := tyD_mem w
        simp only [tys, List.mem_cons, List.not_mem_nil, or_false] at hmem
        rcases hmem with rfl | rfl | rfl | rfl | rfl | rfl
        · exact T.k0
        · exact T.k1
        · exact T.k2
        · exact T.k3
        · exact T.k4
        · exact T.k5
      cases d with
      | ins c' fs =>
        unfold isiC at h
        dsimp only at h
        split at h
        · rename_i hc
          subst hc
          obtain ⟨p, C', dx, gs, rfl, m, hH, r⟩ := rx
          rw [T.mgC] at m
          cases m
          exact ⟨_, .ref C, .ref C, .ref C, true, rfl, .own C, .base (.ins hH T.cl T.ha T.hn T.htk T.hm), T.kc, post_val R h (.bl _)⟩
        · exact h.elim
      | raw v => exact h.elim
      | dK ks => exact h.elim
      | dT ks => exact h.elim
      | exc _ _ => exact h.elim
      | non => exact plain _ rfl h
      | bl b => exact plain _ rfl h
      | int b => exact plain _ rfl h
      | str b => exact plain _ rfl h
      | lst b => exact plain _ rfl h
      | tup b => exact plain _ rfl h) h0
end
end Y

set_option Elab.async false
set_option linter.all false
set_option maxRecDepth 100000
set_option maxHeartbeats 4000000
namespace Y
open PySem PySem.Spec L2
set_option autoImplicit false
variable [TB]
/-! ### self.f = e -/
def putD (f : Str) (v : D) : List (Str × D) → List (Str × D)
  | [] => [(f, v)]
  | p :: r => if p.1 = f then (p.1, v) :: r else p :: putD f v r
theorem RepF.put {K : PySem.W.Frag} {mg : Mg} {F : Hp} {f : Str} {v : V} {d : D} (r : Rep K mg F v d) : ∀ {gs : List (Str × V)} {fs : List (Str × D)}, RepF K mg F gs fs → RepF K mg F (putF f v gs) (putD f d fs)
  | _, _, .nil => .cons r .nil
  | _, _, .cons (f := g) q t => by
    unfold putF putD
    dsimp only
    split
    · exact .cons r t
    · exact .cons q (RepF.put r t)
theorem RepF.length {K : PySem.W.Frag} {mg : Mg} {F : Hp} : ∀ {gs : List (Str × V)} {fs : List (Str × D)}, RepF K mg F gs fs → gs.length = fs.length
  | _, _, .nil => rfl
  | _, _, .cons _ t => congrArg (· + 1) t.length
def sFldSet (i : Nat) (c n : Str) (f : M RV) : M Flo := M.bind f fun r => M.bind (frz r) fun d => fun e => match e[i]? with
  | some (.own fx (.ins c' fs)) => if c' = c ∧ fs.length < 1000 then .ok .nx (e.set i (.own fx (.ins c' (putD n d fs)))) else .bad
  | _ => .bad
section
variable {X : Cx} {W : WX} {a b : Expr} {es : List Expr} {f g : M RV} {as ks : M (List RV)} {pos pos' pos'' p : Pos} {x c n : Str} {C : Addr}
theorem ds_fldSet (i : Nat) (hC : X.mg c = some (.ref C)) (cl : Cls X.K C) (no : NoAttr X.K C n) (ha : DE X W a f) (hN : X.N[i]? = some x := by rfl) (hv : Vis X.env.scope x := by first | exact Or.inl rfl | exact Or.inr (Or.inl rfl) | exact Or.inr (Or.inr rfl)) (hd : (x == ("__debug__" : Str)) = false := by decide)
    (hcd : (x == ("__classdict__" : Str)) = false := by decide) (hs : swapsWith a (some (.Attribute (.Name x pos') n pos'')) pos.line X.env = pure false := by rfl) :
    DS X W (.Assign [.Attribute (.Name x pos') n pos''] a pos) (sFldSet i c n f) := psW (ps_fld (pe_var hN hv hd hcd) ha hs) fun E σ H ⟨e, F, R, h⟩ => by
  refine ⟨e, F, R, post_imp (postS_seq h) ?_⟩
  rintro y H1 ⟨r, e1, F1, q1, R1, s1, h1⟩
  cases w : frz r e1 with
  | bad => unfold M.bind at h1; rw [w] at h1; exact h1.elim
  | ex x e' => exact (frz_noex w).elim
  | ok d e2 =>
    unfold M.bind at h1
    rw [w] at h1
    obtain ⟨F2, s2, R2, q2⟩ := frz_ok R1 q1 w s1
    dsimp only at h1
    split at h1
    · rename_i fx c' fs es2
      split at h1
      · rename_i hc
        obtain ⟨rfl, hz⟩ := hc
        obtain ⟨q, o, hq, hH, C', dx, gs, rfl, m, rf⟩ := own_at R2 es2
        rw [hC] at m
        cases m
        refine ⟨_, hq, q, C, dx, gs, rfl, hH, cl, no, by rw [rf.length]; exact hz, ?_⟩
        exact h1 σ F2 _ (s2.change R2 es2 hq) (R2.change es2 hq ⟨C, dx, _, rfl, hC, rf.put q2⟩)
      · exact h1.elim
    · exact h1.elim
/-! ### C(e, .., k = v, ..) -/
abbrev DK (X : Cx) (W : WX) (kws : List Keyword) (f : M (List RV)) : Prop := PK X kws (cA X.K X.mg W f)
theorem pkW {X : Cx} {e : List Keyword} {t t' : TA} (h : PK X e t) (i : ∀ σ H Q, t' σ H Q → t σ H Q) : PK X e t' := ⟨fun pos pins s σ H Q I q => h.run pos pins s σ H Q I (i σ H Q q)⟩
theorem dk_nil : DK X W [] aNil := pkW pk_nil fun σ H Q ⟨e, F, R, h⟩ => post_ret R h .nil
theorem dk_cons {nm : Option Str} {kpos : Pos} {kws : List Keyword} (ha : DE X W a f) (hr : DK X W kws ks) : DK X W (⟨nm, a, kpos⟩ :: kws) (aCons (aV f) ks) := pkW (pk_cons ha hr) fun _ _ _ h => aCons_ok h
/-- the new instance, its __init__ having run -/
def mkK (fn : Fn) (c : Str) (nn mm : Nat) (g : List D → List D → List D) (rs rk : List RV) : M RV := fun e => match valsOf rs, valsOf rk with
  | some ds, some dk => if ds.length = nn ∧ dk.length = mm then (match fn (.own true (.ins c []) :: (g ds dk).map Slot.val) with
    | .ok (.val .non) (.own _ (.ins c' fs) :: _) => .ok (.own (.ins c' fs)) e
    | .ex x _ => .ex x e
    | _ => .bad) else .bad
  | _, _ => .bad
def eMake (fn : Fn) (c : Str) (nn mm : Nat) (g : List D → List D → List D) (as ks : M (List RV)) : M RV := M.bind as fun rs => M.bind ks fun rk => mkK fn c nn mm g rs rk
theorem all_val {l : List D} : (l.map Slot.val).all isArg = true := by
  induction l with
  | nil => rfl
  | cons d l ih => rw [List.map_cons, List.all_cons, ih]; rfl
/-- THE MAKING, from the caller's wish to the promise of __init__ -/
theorem mkK_ok {K : PySem.W.Frag} {mg : Mg} {F H : Hp} {e : Sl} {σ : St} {Q : VK} {fn : Fn} {q : Addr} {dx : Addr} {ws : List V} {ds : List D} {r : Res RV} (R : Rel K mg F e σ H) (hC : mg c = some (.ref C)) (rw' : Reps K mg F ws ds) (hq : H q = none) (hdx : H dx = none) (hne : dx ≠ q)
    (hr : r = (match fn (.own true (.ins c []) :: ds.map Slot.val) with
      | .ok (.val .non) (.own _ (.ins c' fs) :: _) => .ok (.own (.ins c' fs)) e
      | .ex x _ => .ex x e
      | _ => .bad)) (h : post K mg W (rV K mg) F H e σ r Q) :
    cSp K mg fn (.ref q :: ws) (upd (upd H dx (.own q)) q (.ins C dx [])) (fun v H3 => v = .non ∧ Q (.ref q) H3) (fun c d H => W c d σ H) := by
  have hu : ∀ b o, H b = some o → (upd (upd H dx (.own q)) q (.ins C dx [])) b = some o := fun b o z => by rw [upd_ne (ne_of_none z hq), upd_ne (ne_of_none z hdx)]; exact z
  have hnone : ∀ b, (upd (upd H dx (.own q)) q (.ins C dx [])) b = none → H b = none := fun b z => by
    cases y : H b with
    | none => rfl
    | some o => rw [hu b o y] at z; cases z
  have vget : ∀ {j : Nat} {v : V}, ws[j]? = some v → (ws.map some)[j]? = some (some v) := fun {j v} h => by rw [List.getElem?_map, h]; rfl
  have RA : Rel K mg F (.own true (.ins c []) :: ds.map Slot.val) ((V.ref q :: ws).map some) (upd (upd H dx (.own q)) q (.ins C dx [])) := by
    refine ⟨fun b o z => hu b o (R.sub b o z), by rw [List.length_cons, List.length_map, List.length_map, List.length_cons, rw'.length], fun i s o es ex => ?_, fun i j f g c1 c2 a ei ej _ _ => ?_, R.tab.ext hu, R.ftb⟩
    · cases i with
      | zero =>
        have e1 : Slot.own true (.ins c []) = s := by simpa using es
        have e2 : some (V.ref q) = o := by simpa using ex
        subst e1 e2
        exact ⟨q, _, rfl, R.free hq, upd_same, C, dx, [], rfl, hC, .nil⟩
      | succ i =>
        have e1 : (ds.map Slot.val)[i]? = some s := by simpa using es
        rw [List.getElem?_map] at e1
        cases y : ds[i]? with
        | none => rw [y] at e1; cases e1
        | some d =>
          rw [y] at e1
          have e1 : Slot.val d = s := by simpa using e1
          subst e1
          obtain ⟨v, h1, h2⟩ := rw'.get y
          have e2 : some v = o := by
            have : (ws.map some)[i]? = some o := by simpa using ex
            rw [vget h1] at this
            exact Option.some.inj this
          subst e2
          exact ⟨v, rfl, h2⟩
    · have z : ∀ {k : Nat} {f : Bool} {c1 : Cont}, (Slot.own true (.ins c []) :: ds.map Slot.val)[k]? = some (.own f c1) → k = 0 := fun {k f c1} h => by
        cases k with
        | zero => rfl
        | succ k =>
          have h : (ds.map Slot.val)[k]? = some (.own f c1) := by simpa using h
          rw [List.getElem?_map] at h
          cases y : ds[k]? with
          | none => rw [y] at h; cases h
          | some d => rw [y] at h; cases h
      rw [z ei, z ej]
  have ow : ∀ {b : Addr}, Own (.own true (.ins c []) :: ds.map Slot.val) ((V.ref q :: ws).map some) b → b = q := fun {b} ⟨k, f, c1, h1, h2⟩ => by
    cases k with
    | zero =>
      have : some (V.ref q) = some (V.ref b) := by simpa using h2
      cases this
      rfl
    | succ k =>
      have h : (ds.map Slot.val)[k]? = some (.own f c1) := by simpa using h1
      rw [List.getElem?_map] at h
      cases y : ds[k]? with
      | none => rw [y] at h; cases h
      | some d => rw [y] at h; cases h
  -- a step of the callee's is one of ours
  have step : ∀ {F' H' : Hp} {a' : Sl}, Stp F (upd (upd H dx (.own q)) q (.ins C dx [])) (.own true (.ins c []) :: ds.map Slot.val) ((V.ref q :: ws).map some) F' H' a' ((V.ref q :: ws).map some) → Same F' H' → TabOk H' → (∀ b o, F' b = some o → NoTbl o) → Stp F H e σ F' H' e σ ∧ Rel K mg F' e σ H' := fun {F' H' a'} s sb st1 st2 => by
    have nm : ∀ b, NM (upd (upd H dx (.own q)) q (.ins C dx [])) (.own true (.ins c []) :: ds.map Slot.val) ((V.ref q :: ws).map some) b → H b = none := fun b z => by
      rcases z with z | z
      · exact hnone b z
      · rw [ow z]; exact hq
    refine ⟨⟨s.fro, fun b o z _ m => s.kept b o (hu b o z) (fun y => ?_) m, fun b z => hnone b (s.dom b z), fun b z z' => .inl (nm b (s.newF b z z')), fun b z => .inr z, fun i c z => ⟨⟨c, z⟩, rfl⟩, rfl⟩, ⟨sb, R.len, fun i t o es ex => ?_, R.inj, st1, st2⟩⟩
    · rw [ow y, hq] at z; cases z
    · have z := R.ok i t o es ex
      cases t with
      | no => trivial
      | val d => obtain ⟨v, z1, z2⟩ := z; exact ⟨v, z1, z2.mono s.fro⟩
      | own f c1 =>
        obtain ⟨a, o', z1, z2, z3, z4⟩ := z
        refine ⟨a, o', z1, ?_, s.kept a o' (hu a o' z3) (fun y => by rw [ow y, hq] at z3; cases z3) z4.notbl, z4.mono s.fro⟩
        cases y : F' a with
        | none => rfl
        | some u =>
          have := nm a (s.newF a z2 (by rw [y]; exact fun k => nomatch k))
          rw [z3] at this; cases this
  refine ⟨_, F, RA, by rw [List.all_cons, all_val]; rfl, ?_⟩
  subst hr
  cases w : fn (.own true (.ins c []) :: ds.map Slot.val) with
  | bad => rw [w] at h; exact h.elim
  | ex x a' =>
    rw [w] at h
    intro cls d F' H' s R' z
    obtain ⟨s1, r1⟩ := step s R'.sub R'.tab R'.ftb
    exact h cls d F' H' s1 r1 z
  | ok r a' =>
    rw [w] at h
    intro v F' H' s R' z
    split at h
    · rename_i fx c' fs rest heq
      cases heq
      obtain ⟨s1, r1⟩ := step s R'.sub R'.tab R'.ftb
      obtain ⟨a, o, z1, z2, z3, z4⟩ := R'.ok 0 _ (some (V.ref q)) rfl rfl
      have : q = a := by simpa using z1
      subst this
      cases z
      refine ⟨rfl, h (.ref q) F' H' s1 r1 ⟨q, o, rfl, z2, z3, z4, ?_, .inl hq⟩⟩
      rintro ⟨k, f, c1, k1, k2⟩
      obtain ⟨a, o', m1, m2, m3, _⟩ := R.ok k _ _ k1 k2
      cases m1
      rw [hq] at m3; cases m3
    · rename_i heq
      cases heq
    · exact h.elim
variable {fn : Fn} {k nn : Nat} {fa : Addr} {fd : FuncData} {ps nms : List Str} {kws : List Keyword} {gu : List Value → List Value → List Value} {gV : List V → List V → List V} {gD : List D → List D → List D}
theorem de_make (M : Mk X.K C fa) (G : FnOk X.prog X.w X.K X.mg X.base (L2.CX X.prog X.w) k fa fd ps (cSp X.K X.mg fn)) (hr : Room (k + 1) X.A) (hp : ∀ {E : XK}, (∀ c d σ H, E c d H → W c d σ H) → Passes (L2.CX X.prog X.w) X E) (hW : ∀ c d σ σ' H, W c d σ H → W c d σ' H) (hg : Gl X c) (hm : X.mg c = some (.ref C))
    (hb : KBn X.K fd ps (nn + 1) nms gu gV) (ha : DA X W (a :: es) as) (hk : DK X W kws ks)
    (hgD : ∀ (F : Hp) (v : V) (vs zs : List V) (ds dk : List D), Reps X.K X.mg F vs ds → Reps X.K X.mg F zs dk → ds.length = nn → dk.length = nms.length → ∃ ws, gV (v :: vs) zs = v :: ws ∧ Reps X.K X.mg F ws (gD ds dk))
    (hall : (backToKw pos (keywordEach kws X.env)).all (·.1.isSome) = true := by rfl) (hks : (backToKw pos (keywordEach kws X.env)).filterMap (·.1) = nms := by rfl) (hdb : (c == ("__debug__" : Str)) = false := by decide)
    (he : starEach (a :: es) X.env = (false, eval a X.env) :: starEach es X.env := by rfl) (hpl : ((backTo pos (starEach (a :: es) X.env)).any (·.1) || (backToKw pos (keywordEach kws X.env)).any (·.1.isNone)) = false := by rfl) :
    DE X W (.Call (.Name c p) (a :: es) kws pos) (eMake fn c nn nms.length gD as ks) := peW (pe_makeK (E := fun c d H => ∃ σ, W c d σ H) M G hr hg hm hb (hp fun c d σ H ⟨σ', z⟩ => hW c d σ' σ H z) ha hk hall hks hdb he hpl) fun σ H Q ⟨e, F, R, h⟩ => by
  refine ⟨e, F, R, post_imp (post_seq up_V h) ?_⟩
  rintro vs H1 ⟨rs, e1, F1, q1, R1, s1, h1⟩
  refine ⟨e1, F1, R1, post_imp (post_seq up_V h1) ?_⟩
  rintro zs H2 ⟨rk, e2, F2, q2, R2, s2, h2⟩
  have q1 := q1.mono s2.fro
  unfold mkK at h2
  cases w1 : valsOf rs with
  | none => rw [w1] at h2; exact h2.elim
  | some ds =>
    cases w2 : valsOf rk with
    | none => rw [w1, w2] at h2; exact h2.elim
    | some dk =>
      rw [w1, w2] at h2
      dsimp only at h2
      split at h2
      · rename_i hl
        have r1 := q1.reps w1
        have r2 := q2.reps w2
        refine ⟨by rw [r1.length]; exact hl.1, by rw [r2.length]; exact hl.2, fun x dx hx hdx hne => ?_⟩
        obtain ⟨ws, e1, e2⟩ := hgD F2 (.ref x) vs zs ds dk r1 r2 hl.1 hl.2
        rw [e1]
        obtain ⟨args, F3, R3, a3, p3⟩ := mkK_ok (W := W) R2 hm e2 hx hdx hne rfl h2
        refine ⟨args, F3, R3, a3, ?_⟩
        revert p3
        cases fn args with
        | bad => exact id
        | ok r s => exact id
        | ex y s => exact fun p3 cls d F' H' s' R' z => ⟨σ, p3 cls d F' H' s' R' z⟩
      · exact h2.elim
end
end Y

set_option Elab.async false
set_option linter.all false
set_option maxRecDepth 100000
set_option maxHeartbeats 4000000
namespace Y
open PySem PySem.Spec L2
set_option autoImplicit false
variable [TB]
/-! ### enumerate of a tuple -/
set_option maxHeartbeats 1000000 in
theorem meets_enT (q : Addr) (its : Array Value) : Meets (Builtin.«enumerate.__new__» ⟨[.type "enumerate", .ref q], []⟩) (fun _ R s => s.heap.IsTuple q its ∧
      R (.ok (.ret (.ref (s.heap.push { cls := .type "tuple_iterator", data := .fields #[.ref q, .int 0 0] }).objs.size)))
        { s with heap := (s.heap.push { cls := .type "tuple_iterator", data := .fields #[.ref q, .int 0 0] }).push { cls := .type "enumerate", data := .fields #[.none, .bool false, .ref s.heap.objs.size, rawInt 0, .none, .none] } }) :=
  .of_wp fun prog w A R s hyp => by
    obtain ⟨hp, gg, dr, tk, os⟩ := s
    obtain ⟨isT, hyp⟩ := hyp
    have hsub := PySem.sub_enumerate
    have it0 : ∀ {A' : Around} {E : Value → Shared → Prop} {Q : Value → Shared → Prop}, Q (.ref hp.objs.size) ⟨hp.push { cls := .type "tuple_iterator", data := .fields #[.ref q, .int 0 0] }, gg, dr, tk, os⟩ → wpAny (model prog w) A' (pyIter (.ref q)) Q E ⟨hp, gg, dr, tk, os⟩ :=
      fun z => wpAny_pyIter_tuple isT z
    wp_walk using it0
    refine wpAny_stack_any fun st => wpAny_pure ?_
    split
    · rename_i cc _ _ _ _ _
      cases (cc == Value.type "enumerate")
      · wp_walk using it0
        exact ⟨_, rfl, hyp⟩
      · wp_walk using it0
        exact ⟨_, rfl, hyp⟩
    · wp_walk using it0
      exact ⟨_, rfl, hyp⟩
section
variable {prog : Program} {w : World} {A : Around} {E : Value → Shared → Prop} {s : Shared}
theorem call_enT {q : Addr} {its : Array Value} {Q : Value → Shared → Prop} (isT : s.heap.IsTuple q its)
    (h : ∀ h', PySem.IsEnum h' (s.heap.objs.size + 1) s.heap.objs.size 0 .none → h'.IsTupleIter s.heap.objs.size q 0 → (∀ b o, s.heap.get? b = some o → h'.get? b = some o) → Q (.ref (s.heap.objs.size + 1)) { s with heap := h' }) :
    wpAny (model prog w) A (call (.type "enumerate") [.ref q]) Q E s := by
  refine callType_new F.called_enumerate (by decide) (F.typeCall_enumerate_1 _) (F.newCall_enumerate_1 _) (fun ob => F.args_object_init_2 ob _) F.entry_enumerate_new (meets_enT q its) ⟨isT, ?_⟩
  have hz : (s.heap.push { cls := .type "tuple_iterator", data := .fields #[.ref q, .int 0 0] }).objs.size = s.heap.objs.size + 1 := Heap.size_push ..
  show _ ∧ _
  rw [hz]
  have he : PySem.IsEnum ((s.heap.push { cls := .type "tuple_iterator", data := .fields #[.ref q, .int 0 0] }).push { cls := .type "enumerate", data := .fields #[.none, .bool false, .ref s.heap.objs.size, rawInt 0, .none, .none] }) (s.heap.objs.size + 1) s.heap.objs.size 0 .none := by
    have z := Heap.get?_push_size (s.heap.push { cls := .type "tuple_iterator", data := .fields #[.ref q, .int 0 0] }) (o := { cls := .type "enumerate", data := .fields #[.none, .bool false, .ref s.heap.objs.size, rawInt 0, .none, .none] }) rfl
    rw [hz] at z
    exact z
  exact ⟨⟨_, he, rfl⟩, h _ he ⟨_, Heap.get?_push_of_some _ (Heap.get?_push_size _ rfl), rfl, rfl⟩ fun b o x => Heap.get?_push_of_some _ (Heap.get?_push_of_some _ x)⟩
end
/-- the tuple at a, each item in a new pair -/
def ItT (K : PySem.W.Frag) (a : Addr) : It :=
  ⟨fun i H => ∃ (xs : List V) (x : V), SqT K H a xs ∧ xs[i]? = some x, fun i H v H' => ∃ T x, v = .ref T ∧ H T = none ∧ H' = upd H T (.tup [.int (i : Nat), x]) ∧ ∀ xs, SqT K H a xs → xs[i]? = some x, fun i H => ∃ xs : List V, SqT K H a xs ∧ xs.length = i⟩
theorem turn_enT {P : Program} {w : World} {K : PySem.W.Frag} {elts : List Expr} {kk : Nat} {tpos : Pos} (a en it : Addr) (hai : a ≠ it) (hae : a ≠ en) :
    Turn P w K (.Tuple elts kk tpos) (ItT K a) [en, it] en (fun i h => (∃ old, PySem.IsEnum h en it ((i : Nat) : Int) old) ∧ h.IsTupleIter it a i ∧ en ≠ it) where
  mem := by simp
  obj := fun i h st b hb => by
    obtain ⟨⟨old, he⟩, ⟨ob, ho, hcl, hdt⟩, _⟩ := st
    have two : b = en ∨ b = it := by simpa using hb
    rcases two with z | z
    · rw [z]
      exact ⟨_, he, fun v q => nomatch q⟩
    · rw [z]
      exact ⟨ob, ho, fun v q => by rw [hdt] at q; cases q⟩
  keep := fun i h h' st k => let ⟨⟨old, he⟩, hi, hne⟩ := st; ⟨⟨old, k en (by simp) _ he⟩, hi.at fun ob q => k it (by simp) ob q, hne⟩
  item := by
    intro X eP ew eK hcalm i pins s σ H E I hfp st hgo
    subst eP ew eK
    obtain ⟨⟨old, he⟩, hit, hne⟩ := st
    obtain ⟨xs, x, hsq, hx⟩ := hgo
    obtain ⟨its, rv, isT, hz⟩ := I.tuple hsq
    obtain ⟨u, hu, ru⟩ := rv.get hx
    have len : i < its.toArray.size := by
      have := (List.getElem?_eq_some_iff.mp hu).1
      simpa using this
    have hen : en < s.heap.objs.size := Heap.lt_size he
    have hil : it < s.heap.objs.size := by
      obtain ⟨_, q, _⟩ := hit
      exact Heap.lt_size q
    have hd := I.ok.hd hcalm
    refine wpAny_pyNext_enum_itemD (Draws.tuple (A := X.A.in1) hd it a hai its.toArray) he ⟨hit, isT⟩ len hne (by simp [hne, Ne.symm hae]) fun y h' tk hy ho hst hT hsz hkp => ?_
    have ey : y = u := by
      have z : its[i]? = some y := by simpa using hy
      rw [hu] at z
      exact (Option.some.inj z).symm
    subst ey
    refine ⟨_, rfl, wpAny_letOwnedTupleGo_enum (s := { s with heap := h', toks := tk + 1 }) ho fun h'' he' sb => ?_⟩
    have hT2 : h''.get? s.heap.objs.size = some { cls := .type "tuple", data := .seq #[.int i tk, y] } := (sb.2 _ (Nat.ne_of_gt hen)).trans hT
    have laid : ObjOk X.prog X.w (upd H s.heap.objs.size (.tup [.int (i : Nat), x])) h'' s.heap.objs.size (.tup [.int (i : Nat), x]) :=
      ⟨by show 2 ≤ sizeLine; decide, [.int i tk, y], .cons ⟨_, rfl⟩ (.cons ru .nil), ⟨_, hT2, rfl, _, rfl⟩⟩
    have I1 : Inv X pins σ (upd H s.heap.objs.size (.tup [.int (i : Nat), x])) { s with heap := h'', toks := tk + 1 } :=
      I.turnedNew (ch := [en, it]) (fun b ob nb q => (sb.2 b (fun z => nb (by simp [z]))).trans (hkp b ob (fun z => nb (by simp [z])) (fun z => nb (by simp [z])) q)) hfp (Nat.le_refl _) laid
    refine ⟨.ref s.heap.objs.size, _, I1, rfl, ⟨_, x, rfl, I.hok.fresh (Nat.le_refl _), rfl, fun ys hys => by rw [I.tuple_inj hys hsq]; exact hx⟩, ⟨⟨y, ?_⟩, hst.1.at fun ob q => (sb.2 it (Ne.symm hne)).trans q, hne⟩, fun b hb => ?_⟩
    · rw [show ((i + 1 : Nat) : Int) = (i : Int) + 1 by omega]
      exact he'
    · have two : b = en ∨ b = it := by simpa using hb
      have hlt : b < s.heap.objs.size := by
        rcases two with z | z
        · rw [z]; exact hen
        · rw [z]; exact hil
      rw [upd_ne (Nat.ne_of_lt hlt)]
      exact (hfp b hb).1
  done := by
    intro X eP ew eK hcalm i pins s σ H E I hfp st hgo
    subst eP ew eK
    obtain ⟨⟨old, he⟩, hit, hne⟩ := st
    obtain ⟨xs, hsq, hx⟩ := hgo
    obtain ⟨its, rv, isT, hz⟩ := I.tuple hsq
    obtain ⟨f0, f1, f2, f3, f4, f5⟩ := hfp it (by simp)
    have hd := I.ok.hd hcalm
    have hl : i = its.toArray.size := by rw [List.size_toArray, ← rv.length, hx]
    have D0 := Draws.tuple (prog := X.prog) (w := X.w) (A := X.A.in1) hd it a hai its.toArray
    subst hl
    exact wpAny_pyNext_enum_endD D0 he ⟨hit, isT⟩ fun h' eb => ⟨rfl, I.turned (t' := s.toks) (fun b ob hb q => eb b ob hb q) f0 f1 f3 f4 f5⟩
  self := fun A i s Q E st hQ => let ⟨⟨_, he⟩, _⟩ := st; wpAny_pyIter_enum he hQ

/-- enumerate(x), x a list or a tuple -/
def iEn (K : PySem.W.Frag) (ta : TA) : TI := fun σ H R => ta σ H fun vs H1 => ∃ a, vs = [.ref a] ∧ (((∃ xs, SqL K H1 a xs) ∧ R (Ite K a) H1) ∨ ((∃ xs, SqT K H1 a xs) ∧ R (ItT K a) H1))
def enumD : Nat → List D → List D
  | _, [] => []
  | k, d :: r => .tup [.int (k : Int), d] :: enumD (k + 1) r
theorem enumD_len : ∀ (k : Nat) (ds : List D), (enumD k ds).length = ds.length
  | _, [] => rfl
  | k, d :: r => congrArg (· + 1) (enumD_len (k + 1) r)
theorem enumD_get : ∀ (k i : Nat) (ds : List D) (d : D), ds[i]? = some d → (enumD k ds)[i]? = some (.tup [.int ((k + i : Nat) : Int), d])
  | _, _, [], _, h => by simp at h
  | k, 0, x :: r, d, h => by
    have e : x = d := by simpa using h
    subst e
    rfl
  | k, i + 1, x :: r, d, h => by
    have := enumD_get (k + 1) i r d (by simpa using h)
    show (enumD (k + 1) r)[i]? = _
    rw [this, show k + 1 + i = k + (i + 1) by omega]
def itEnum (f : M RV) : M (List D) := M.bind (itSeq f) fun ds => M.ret (enumD 0 ds)
section
variable {X : Cx} {W : WX} {a : Expr} {f : M RV} {pos p tpos : Pos} {elts : List Expr} {kk : Nat}
theorem pi_en {ta : TA} (hg : Gl X "enumerate") (hm : X.mg "enumerate" = none) (ha : PA X [a] ta) (hs : starEach [a] X.env = [(false, eval a X.env)] := by rfl) : PI X (.Tuple elts kk tpos) (.Call (.Name "enumerate" p) [a] [] pos) (iEn X.K ta) := by
  refine ⟨fun pins s σ H R I h => ?_⟩
  refine PyProof.Rows.Call_ (ld_blt I hg hm PyProof.Rows.boot_enumerate (PyProof.Rows.callWith_type1 (thn (ha.run pos pins s σ H _ I h) fun us s1 ⟨vs, H1, I1, r1, q1⟩ => ?_) hs rfl))
  obtain ⟨q, ev, hq⟩ := q1
  subst ev
  have eu := r1.ref1
  subst eu
  have fresh : ∀ b ∈ [s1.heap.objs.size + 1, s1.heap.objs.size], FpOk X pins H1 b := fun b hb => by
    have two : b = s1.heap.objs.size + 1 ∨ b = s1.heap.objs.size := by simpa using hb
    have hle : s1.heap.objs.size ≤ b := by omega
    exact I1.fpOk hle (I1.hok.fresh hle)
  rcases hq with ⟨⟨xs, hs1⟩, z⟩ | ⟨⟨xs, hs1⟩, z⟩
  · obtain ⟨its, rv, pl, _⟩ := I1.list hs1
    refine call_enumerate_list pl.isList fun h' he hit hsz hkp => wpAny_pyIter_enum he ?_
    exact ⟨_, _, _, _, H1, rfl, I1.kept (t' := s1.toks) hkp, turn_enum q _ _, ⟨⟨.none, he⟩, hit, Nat.succ_ne_self _⟩, fresh, z⟩
  · obtain ⟨its, rv, isT, _⟩ := I1.tuple hs1
    have hlt : q < s1.heap.objs.size := by
      obtain ⟨ob, ho, _⟩ := id isT
      exact Heap.lt_size ho
    refine call_enT isT fun h' he hit hkp => wpAny_pyIter_enum he ?_
    exact ⟨_, _, _, _, H1, rfl, I1.kept (t' := s1.toks) hkp, turn_enT q _ _ (Nat.ne_of_lt hlt) (Nat.ne_of_lt (Nat.lt_succ_of_lt hlt)), ⟨⟨.none, he⟩, hit, Nat.succ_ne_self _⟩, fresh, z⟩
theorem walkD_en {K : PySem.W.Frag} {mg : Mg} {F : Hp} {a : Addr} {vs : List V} {ds : List D} (h : SqL K F a vs) (r : Reps K mg F vs ds) : WalkD K mg F (Ite K a) (enumD 0 ds) := by
  unfold WalkD
  rw [enumD_len, ← r.length]
  refine ⟨fun i H hi s => ⟨vs, vs[i], s.seq h, List.getElem?_eq_getElem hi⟩, fun H s => ⟨vs, s.seq h, Nat.le_refl _⟩, fun i H x H' hi s y => ?_⟩
  obtain ⟨T, v, e1, e2, e3, e4⟩ := y
  have hd : i < ds.length := by rw [← r.length]; exact hi
  obtain ⟨v', h1, h2⟩ := r.get (List.getElem?_eq_getElem hd)
  rw [e4 vs (s.seq h)] at h1
  cases h1
  refine ⟨_, enumD_get 0 i ds _ (List.getElem?_eq_getElem hd), .inr ⟨T, .int (i : Nat), v, _, _, e1, e2, e3, rfl, ?_, h2⟩⟩
  rw [Nat.zero_add]
  exact .int _
theorem walkD_enT {K : PySem.W.Frag} {mg : Mg} {F : Hp} {a : Addr} {vs : List V} {ds : List D} (h : SqT K F a vs) (r : Reps K mg F vs ds) : WalkD K mg F (ItT K a) (enumD 0 ds) := by
  unfold WalkD
  rw [enumD_len, ← r.length]
  refine ⟨fun i H hi s => ⟨vs, vs[i], sqT_mono s h, List.getElem?_eq_getElem hi⟩, fun H s => ⟨vs, sqT_mono s h, rfl⟩, fun i H x H' hi s y => ?_⟩
  obtain ⟨T, v, e1, e2, e3, e4⟩ := y
  have hd : i < ds.length := by rw [← r.length]; exact hi
  obtain ⟨v', h1, h2⟩ := r.get (List.getElem?_eq_getElem hd)
  rw [e4 vs (sqT_mono s h)] at h1
  cases h1
  refine ⟨_, enumD_get 0 i ds _ (List.getElem?_eq_getElem hd), .inr ⟨T, .int (i : Nat), v, _, _, e1, e2, e3, rfl, ?_, h2⟩⟩
  rw [Nat.zero_add]
  exact .int _
theorem di_enum (hg : Gl X "enumerate") (hm : X.mg "enumerate" = none) (ha : DE X W a f) (hs : starEach [a] X.env = [(false, eval a X.env)] := by rfl) (hs' : starEach [a] X.env = (false, eval a X.env) :: starEach [] X.env := by rfl) :
    DI X W (.Tuple elts kk tpos) (.Call (.Name "enumerate" p) [a] [] pos) (itEnum f) := piW (pi_en hg hm (pa_cons ha pa_nil hs') hs) fun σ H Q ⟨e, F, R, h⟩ => by
  refine ⟨e, F, R, ?_⟩
  unfold itEnum itSeq M.bind at h
  cases w : f e with
  | bad => rw [w] at h; exact h.elim
  | ex x e' => rw [w] at h; exact h
  | ok r e1 =>
    rw [w] at h
    dsimp only at h
    intro x F1 H1 s1 R1 q1
    cases w' : frz r e1 with
    | bad => rw [w'] at h; exact h.elim
    | ex x e' => exact (frz_noex w').elim
    | ok d e2 =>
      rw [w'] at h
      obtain ⟨F2, s2, R2, q2⟩ := frz_ok R1 q1 w' s1
      dsimp only at h
      cases d with
      | lst ds =>
        cases q2 with
        | lst q r => exact ⟨_, rfl, .inl ⟨⟨_, R2.sub.seq q⟩, h _ F2 H1 s2 R2 (walkD_en q r)⟩⟩
      | tup ds =>
        cases q2 with
        | tup q r => exact ⟨_, rfl, .inr ⟨⟨_, sqT_mono R2.sub q⟩, h _ F2 H1 s2 R2 (walkD_enT q r)⟩⟩
      | _ => exact h.elim
end
end Y

set_option Elab.async false
set_option linter.all false
set_option maxRecDepth 100000
set_option maxHeartbeats 4000000
namespace Y
open PySem PySem.Spec L2
set_option autoImplicit false
variable [TB]
/-! ### defs by name -/
/-- how plain positional arguments bind -/
def BA (fd : FuncData) (ps : List Str) : Prop := ∀ us : List Value, us.length = ps.length → bindArgs fd ⟨us, []⟩ = pure (ps.zip us)
theorem FunD.ba {K : PySem.W.Frag} {x qual : Str} {params : Arguments} {body : List Stmt} {scope : Scope} {kws : List (Str × V)} {f : Addr} {fd : FuncData} {ps : List Str} (F : FunD K x qual params body scope [] kws f fd)
    (h : ∀ (kV doc pm : Value) (an : Option Addr) (cdv ct : Value) (us : List Value), us.length = ps.length → bindArgs (PySem.W.fnOf x qual params body scope .none kV doc pm an cdv ct) ⟨us, []⟩ = pure (ps.zip us)) : BA fd ps := by
  obtain ⟨oc, od, dV, kV, doc, pm, an, cdv, ct, osl, rfl, lk, hcd, hD, hK⟩ := F.ex
  rcases hD with ⟨_, rfl⟩ | ⟨e, _⟩
  · exact fun us hl => h kV doc pm an cdv ct us hl
  · exact absurd rfl e
/-- a def of the text stands behind its name -/
def DefAt (K : PySem.W.Frag) (mg : Mg) (x : Str) (st : Stmt) (ps : List Str) : Prop := ∃ f fd, FunD K x x (defArgs st) (defBody st) (defScope st) [] [] f fd ∧ mg x = some (.ref f) ∧ BA fd ps
def CallOk (P : Program) (w : World) (K : PySem.W.Frag) (mg : Mg) (x : Str) (k : Nat) (ps : List Str) (fn : Fn) : Prop := ∃ f fd, (∀ base, BaseOk mg base → FnOk P w K mg base (L2.CX P w) k f fd ps (cSp K mg fn)) ∧ mg x = some (.ref f) ∧ PySem.W.keepIn K (.ref f) = true ∧ BA fd ps
theorem DefAt.ok {P : Program} {w : World} {K : PySem.W.Frag} {mg : Mg} {x : Str} {st : Stmt} {ps : List Str} {k : Nat} {fn : Fn} (d : DefAt K mg x st ps) (h : ∀ f fd, FunD K x x (defArgs st) (defBody st) (defScope st) [] [] f fd → ∀ base, BaseOk mg base → FnOk P w K mg base (L2.CX P w) k f fd ps (cSp K mg fn)) : CallOk P w K mg x k ps fn := by
  obtain ⟨f, fd, F, m, b⟩ := d
  exact ⟨f, fd, h f fd F, m, F.kp, b⟩
section
variable {X : Cx} {W : WX} {a b c : Expr} {es : List Expr} {f g h : M RV} {as : M (List RV)} {fn : Fn} {pos p : Pos} {k : Nat} {ps : List Str} {x : Str}
theorem de_callN (G : CallOk X.prog X.w X.K X.mg x k ps fn) (hB : BaseOk X.mg X.base) (hr : Room k X.A) (tk : Takes X W) (hg : Gl X x) (ha : DA X W (a :: es) as)
    (hdb : (x == ("__debug__" : Str)) = false := by decide) (he : starEach (a :: es) X.env = (false, eval a X.env) :: starEach es X.env := by rfl) (hpl : (backTo pos (starEach es X.env)).any (·.1) = false := by rfl) :
    DE X W (.Call (.Name x p) (a :: es) [] pos) (eCall fn as) := by
  obtain ⟨fa, fd, G, m, hk, hb⟩ := G
  exact de_call (G X.base hB) hr tk hg m hk (.all hb) ha hdb he hpl
/-! ### chains -/
theorem de_chain {op op' : CmpOp} {pp qq : Int → Int → Bool} (ho : OpR X (compareOp op) (rI0 fun i j => .bl (pp i j))) (ho' : OpR X (compareOp op') (rI0 fun i j => .bl (qq i j))) (ha : DE X W a f) (hb : DE X W b g) (hc : DE X W c h)
    (hm : lastMarks [op, op'] [b, c] = false := by with_unfolding_all rfl) : DE X W (.Compare a [op, op'] [b, c] pos) (chI pp qq f g h) := peW (pe_chain ho ho' ha hb hc hm) fun _ _ _ z => chI_ok z
theorem dt_chain {op op' : CmpOp} {pp qq : Int → Int → Bool} (ho : OpR X (compareOp op) (rI0 fun i j => .bl (pp i j))) (ho' : OpR X (compareOp op') (rI0 fun i j => .bl (qq i j))) (ha : DE X W a f) (hb : DE X W b g) (hc : DE X W c h)
    (hm : lastMarks [op, op'] [b, c] = false := by with_unfolding_all rfl) : DT X W (.Compare a [op, op'] [b, c] pos) (asB (chI pp qq f g h)) := ptW (pt_chain ho ho' ha hb hc hm) fun _ _ _ z => chI_ok (asB_ok z)
end
/-! ### a law's end -/
def spTrue (K : PySem.W.Frag) : Sp := fun vs H Q _ => ∃ (a : Addr) (ns : List Int), vs = [.ref a] ∧ SqL K H a (ns.map V.int) ∧ ns.length ≤ 63 ∧ TabOk H ∧ ∀ H', Q (.bl true) H'
theorem reps_ints {K : PySem.W.Frag} {mg : Mg} {F : Hp} : ∀ ns : List Int, Reps K mg F (ns.map V.int) (ns.map D.int)
  | [] => .nil
  | n :: ns => .cons (.int n) (reps_ints ns)
theorem law_end {P : Program} {w : World} {K : PySem.W.Frag} {mg : Mg} {x : Str} {k : Nat} {p : Str} {fn : Fn} {fa : Addr} (G : CallOk P w K mg x k [p] fn) (hm : mg x = some (.ref fa)) (h : ∀ ns : List Int, ns.length ≤ 63 → ∃ e, fn [.val (.lst (ns.map D.int))] = .ok (.val (.bl true)) e) :
    ∃ fd : FuncData, (∀ (s : Shared) (u : Value), BindsTo s fd ⟨[u], []⟩ [(p, u)]) ∧ ∀ base : Heap, K.In base → base.Ns mainGlobals mg → BaseOk mg base → FnOk P w K mg base (L2.CX P w) k fa fd [p] (spTrue K) := by
  obtain ⟨f, fd, G, m, _, hb⟩ := G
  rw [hm] at m
  cases m
  have imp : ∀ vs H Q E, spTrue K vs H Q E → cSp K mg fn vs H Q E := fun vs H Q E ⟨a, ns, ev, hS, hl, hT, q⟩ => by
    subst ev
    refine ⟨[.val (.lst (ns.map D.int))], strip H, ⟨strip_same H, rfl, fun i s o es ex => ?_, fun i j f g c d a ei ej _ _ => ?_, hT, fun b o h => (strip_some h).2⟩, rfl, ?_⟩
    · cases i with
      | zero =>
        have e1 : Slot.val (.lst (ns.map D.int)) = s := by simpa using es
        have e2 : some (V.ref a) = o := by simpa using ex
        subst e1 e2
        exact ⟨_, rfl, .lst (sqL_strip hS) (reps_ints ns)⟩
      | succ i => simp at es
    · cases i with
      | zero => simp at ei
      | succ i => simp at ei
    · obtain ⟨e, he⟩ := h ns hl
      rw [he]
      intro v F' H' _ _ z
      cases z
      exact q H'
  exact ⟨fd, fun s u => .of_eq (hb [u] rfl), fun base _ _ hB => (G base hB).imp imp⟩
end Y

set_option Elab.async false
set_option linter.all false
set_option maxRecDepth 100000
set_option maxHeartbeats 4000000
namespace Y
open PySem PySem.Spec L2
set_option autoImplicit false
variable [TB]
/-! ### classes by name -/
/-- how a call of the class binds -/
def FormOk (K : PySem.W.Frag) (mg : Mg) (fd : FuncData) (ps : List Str) (n : Nat) (ks : List Str) (gD : List D → List D → List D) : Prop := ∃ gu gV, KBn K fd ps (n + 1) ks gu gV ∧
  ∀ (F : Hp) (v : V) (vs zs : List V) (ds dk : List D), Reps K mg F vs ds → Reps K mg F zs dk → ds.length = n → dk.length = ks.length → ∃ ws, gV (v :: vs) zs = v :: ws ∧ Reps K mg F ws (gD ds dk)
def MakeOk (P : Program) (w : World) (K : PySem.W.Frag) (mg : Mg) (c : Str) (k : Nat) (ps : List Str) (fn : Fn) (n : Nat) (ks : List Str) (gD : List D → List D → List D) : Prop :=
  ∃ C f fd, mg c = some (.ref C) ∧ Mk K C f ∧ (∀ base, BaseOk mg base → FnOk P w K mg base (L2.CX P w) k f fd ps (cSp K mg fn)) ∧ FormOk K mg fd ps n ks gD
section
variable {P : Program} {w : World} {K : PySem.W.Frag} {mg : Mg} {base : Heap}
theorem fn_denI {x qual : Str} {st : Stmt} {f : Addr} {fd : FuncData} {N ps : List Str} {k np n : Nat} {body : M Flo} {dvs : List V} {kws : List (Str × V)} (Fu : FunD K x qual (defArgs st) (defBody st) (defScope st) dvs kws f fd) (S : FnScope N ps (defScope st)) (hnp : ps.length = np) (hn : N.length = n) (hle : np ≤ n)
    (hb : ∀ (cdv : Value), fd.code = cdv → ∀ (A : Around) (outer : List Env) (s : Shared) (H : Hp) (E : XK), Room k (A.deeper (PyProof.Rows.envOfC qual (defScope st) s.heap.objs.size f cdv)) →
      Takes (cxOf (L2.CX P w) P w K mg base N qual (defScope st) f cdv A outer s H E) (fun c d _ H => E c d H) →
      PassesOwn (model P w) (A.deeper (PyProof.Rows.envOfC qual (defScope st) s.heap.objs.size f cdv)) (cxOf (L2.CX P w) P w K mg base N qual (defScope st) f cdv A outer s H E).env (cxOf (L2.CX P w) P w K mg base N qual (defScope st) f cdv A outer s H E).xe →
      DSs (cxOf (L2.CX P w) P w K mg base N qual (defScope st) f cdv A outer s H E) (fun c d _ H => E c d H) (defBody st) body) :
    FnOk P w K mg base (L2.CX P w) (k + 1) f fd ps (cSp K mg (fnD np n body)) := by
  obtain ⟨oc, od, dV, kV, doc, pm, an, cdv, ct, osl, rfl, lk, hcd, _, _⟩ := Fu.ex
  refine fn_of lk hcd S (fun vs H Q E h => ?_) (fun A outer s H vs Q E hr h => ?_)
  · obtain ⟨args, F, R, ha, h⟩ := h
    unfold fnD at h
    split at h
    · rename_i hl
      have := R.len
      rw [List.length_map] at this
      rw [hnp]; omega
    · exact h.elim
  · exact ⟨_, hb cdv rfl A outer s H E hr (takes_of rfl rfl rfl rfl) (passes_of rfl), entry_ok hn hle h⟩
end
section
variable {X : Cx} {W : WX} {a : Expr} {es : List Expr} {as ks : M (List RV)} {fn : Fn} {pos p : Pos} {k nn : Nat} {ps nms : List Str} {c : Str} {kws : List Keyword} {gD : List D → List D → List D}
theorem de_makeN (G : MakeOk X.prog X.w X.K X.mg c k ps fn nn nms gD) (hB : BaseOk X.mg X.base) (hr : Room (k + 1) X.A) (tk : Takes X W) (hW : ∀ c d σ σ' H, W c d σ H → W c d σ' H) (hg : Gl X c) (ha : DA X W (a :: es) as) (hk : DK X W kws ks)
    (hall : (backToKw pos (keywordEach kws X.env)).all (·.1.isSome) = true := by rfl) (hks : (backToKw pos (keywordEach kws X.env)).filterMap (·.1) = nms := by rfl) (hdb : (c == ("__debug__" : Str)) = false := by decide)
    (he : starEach (a :: es) X.env = (false, eval a X.env) :: starEach es X.env := by rfl) (hpl : ((backTo pos (starEach (a :: es) X.env)).any (·.1) || (backToKw pos (keywordEach kws X.env)).any (·.1.isNone)) = false := by rfl) :
    DE X W (.Call (.Name c p) (a :: es) kws pos) (eMake fn c nn nms.length gD as ks) := by
  obtain ⟨C, f, fd, m, M, G, gu, gV, kb, hgD⟩ := G
  exact de_make M (G X.base hB) hr (fun h => passes_call tk h) hW hg m kb ha hk hgD hall hks hdb he hpl
end
end Y

set_option Elab.async false
set_option linter.all false
set_option maxRecDepth 100000
set_option maxHeartbeats 4000000
namespace Y
open PySem PySem.Spec L2
set_option autoImplicit false
variable [TB]
section
variable {K : PySem.W.Frag} {h : Heap} {mg : Mg}
theorem cls_mk {c : Str} {C : Addr} (X : K.In h) (G : h.Ns mainGlobals mg) (a : PySem.W.nsIn K mainGlobals c = some (some (.ref C))) (p1 : PySem.W.plainGet K C Str.empty = true) (p2 : PySem.W.hasDictIn K C = true) (p3 : PySem.W.plainOver K C = true) (p4 : PySem.W.findIn K (.ref C) "__setattr__" = some (some (.builtin "object.__setattr__")))
    (ha : PySem.W.findIn K (.ref C) "__class__" = some (some (.builtin "object.__class__"))) (hn : PySem.W.specialIn K (.builtin "object.__class__") "__get__" = some (some (.builtin "getset_descriptor.__get__"))) (htk : PySem.W.takesIn K (.builtin "object.__class__") = some true)
    (hm : PySem.W.mroIn K C (.type "object") = some true) (ic : PySem.W.isClsIn K C = true) (ty : PySem.W.typeIn K (.ref C) = some (.type "type")) (k0 : PySem.W.subIn K (.type "NoneType") (.ref C) = some false) (k1 : PySem.W.subIn K (.type "bool") (.ref C) = some false) (k2 : PySem.W.subIn K (.type "int") (.ref C) = some false)
    (k3 : PySem.W.subIn K (.type "str") (.ref C) = some false) (k4 : PySem.W.subIn K (.type "list") (.ref C) = some false) (k5 : PySem.W.subIn K (.type "tuple") (.ref C) = some false) : ClsF K mg c C := by
  have kit : ∀ {t : String} {b : Bool}, PySem.W.subIn K (.type t) (.ref C) = some b → PySem.W.kitOne K (.type t) (.ref C) = some b := fun {t b} hs => by
    unfold PySem.W.kitOne PySem.W.kitCls
    rw [if_neg (by simp)]
    dsimp only
    rw [if_pos]
    · exact hs
    · rw [Bool.and_eq_true]
      exact ⟨ic, by rw [ty]; simp⟩
  exact ⟨PySem.W.mg_of X G a, ⟨p1, p2, p3, p4⟩, ha, hn, htk, hm, if_pos (by simp), kit k0, kit k1, kit k2, kit k3, kit k4, kit k5⟩
theorem const_mk {x : Str} {n : Int} {u : Value} (X : K.In h) (G : h.Ns mainGlobals mg) (a : PySem.W.nsIn K mainGlobals x = some (some u)) (r : RelV (.int n) u) : ∃ t, mg x = some (.int n t) := by
  obtain ⟨t, e⟩ := r
  exact ⟨t, by rw [PySem.W.mg_of X G a, e]⟩
/-- an __init__ with keyword-only parameters that have defaults -/
theorem init_mk {qual : Str} {st : Stmt} {f D : Addr} {oc dc pm cd ct : Value} {od an : Option Addr} {sl : Array (Option Value)} {kws : List (Str × V)}
    (l : K.lookup f = some ⟨oc, od, .func (PySem.W.fnOf "__init__" qual (defArgs st) (defBody st) (defScope st) .none (.ref D) dc pm an cd ct), sl⟩) (c : PySem.W.codeIn K cd qual = true) (k : PySem.W.keepIn K (.ref f) = true)
    (hk : ∀ q ∈ kws, ∃ u, PySem.W.nsIn K D q.1 = some (some u) ∧ RelV q.2 u) : FunD K "__init__" qual (defArgs st) (defBody st) (defScope st) [] kws f (PySem.W.fnOf "__init__" qual (defArgs st) (defBody st) (defScope st) .none (.ref D) dc pm an cd ct) :=
  ⟨⟨oc, od, .none, .ref D, dc, pm, an, cd, ct, sl, rfl, l, c, .inl ⟨rfl, rfl⟩, .inr ⟨D, rfl, hk⟩⟩, k⟩
end
end Y

set_option Elab.async false
set_option linter.all false
set_option maxRecDepth 100000
set_option maxHeartbeats 4000000
namespace Y
open PySem PySem.Spec L2
set_option autoImplicit false
variable [TB]
def tTupL (n : Nat) (t : List D → M Unit) : D → M Unit
  | .lst ds => fun e => if ds.length = n then t ds e else .bad
  | _ => M.bad
/-- what repr tells of a bool -/
def repS (b : Bool) : Str := if b then "True" else "False"
def repK : D → M RV
  | .bl b => fun e => .ok (.val (.str (repS b))) e
  | _ => M.bad
section
variable {X : Cx} {W : WX} {a : Expr} {es : List Expr} {f : M RV} {ts : List D → M Unit} {us : List Nat} {pos : Pos}
theorem dg_unl {k n : Nat} (hc : X.calm = true) (h : DGs X es us ts) (hn : (assignEach es X.env).length = n := by rfl) (hst : (assignEach es X.env).findIdx? (·.1) = none := by rfl) : DG X (.Tuple es k pos) us (tTupL n ts) := pgW (pg_unl hc h hn hst) fun v σ H Q ⟨e, F, d, R, q, h⟩ => by
  unfold tTupL at h
  split at h
  · rename_i ds
    split at h
    · rename_i hl
      cases q with
      | lst q r => exact ⟨_, _, rfl, R.sub.seq q, by rw [r.length]; exact hl, e, F, ds, R, r, h⟩
    · exact h.elim
  · exact h.elim
theorem call_reprB : CallR X (.builtin "repr") (fun xs H Q => ∃ b, xs = [.bl b] ∧ Q (.str (repS b)) H) := by
  intro pins s σ H xs us Q I r h
  obtain ⟨b, rfl, q⟩ := h
  obtain ⟨u, rfl, t⟩ := vals1 r
  cases t
  exact PySem.P.repr_of_bool ⟨.str _, H, I.tok _, ⟨_, rfl⟩, q⟩
theorem de_repr {p : Pos} (hg : Gl X "repr") (hm : X.mg "repr" = none) (ha : DE X W a f) (he : starEach [a] X.env = (false, eval a X.env) :: starEach [] X.env := by rfl) (hpl : (backTo pos (starEach [] X.env)).any (·.1) = false := by rfl) :
    DE X W (.Call (.Name "repr" p) [a] [] pos) (rd1 f repK) := de_b1 call_reprB (fun F H e σ x d Q R rx h => by
  unfold repK at h
  split at h
  · cases rx
    exact ⟨_, rfl, post_val R h (.str _)⟩
  · exact h.elim) hg hm (by decide +kernel) ha (he := he) (hpl := hpl)
end
end Y

set_option Elab.async false
set_option linter.all false
set_option maxRecDepth 100000
set_option maxHeartbeats 4000000
namespace Y
open PySem PySem.Spec L2
set_option autoImplicit false
variable [TB]
/-! ### reckoning with denotations: what is done next stands under a name, so that simp goes from the left -/
section
variable {α β : Type}
def Res.bnd (r : Res α) (k : α → Sl → Res β) : Res β := match r with
  | .ok a e => k a e
  | .ex x e => .ex x e
  | .bad => .bad
@[simp] theorem bnd_ok (a : α) (e : Sl) (k : α → Sl → Res β) : Res.bnd (.ok a e) k = k a e := id rfl
@[simp] theorem bnd_ex (x : Xn) (e : Sl) (k : α → Sl → Res β) : Res.bnd (.ex x e) k = .ex x e := id rfl
@[simp] theorem bnd_bad (k : α → Sl → Res β) : Res.bnd .bad k = .bad := id rfl
def oB (o : Option α) (k : α → Res β) : Res β := match o with
  | some a => k a
  | none => .bad
@[simp] theorem oB_some (a : α) (k : α → Res β) : oB (some a) k = k a := id rfl
@[simp] theorem oB_none (k : α → Res β) : oB none k = .bad := id rfl
def gB (c : Bool) (r : Res α) : Res α := match c with
  | true => r
  | false => .bad
@[simp] theorem gB_t (r : Res α) : gB true r = r := id rfl
@[simp] theorem gB_f (r : Res α) : gB false r = .bad := id rfl
def ifC (f g : M α) (c : Bool) (e : Sl) : Res α := match c with
  | true => f e
  | false => g e
@[simp] theorem ifC_t (f g : M α) (e : Sl) : ifC f g true e = f e := id rfl
@[simp] theorem ifC_f (f g : M α) (e : Sl) : ifC f g false e = g e := id rfl
theorem gB_if (c : Prop) [Decidable c] (r : Res α) : (if c then r else .bad) = gB (decide c) r := by
  by_cases h : c
  · rw [if_pos h, decide_eq_true h]; rfl
  · rw [if_neg h, decide_eq_false h]; rfl
theorem gB_iff (c : Bool) (r : Res α) : (if c = true then r else .bad) = gB c r := by cases c <;> rfl
@[simp] theorem v_bind (f : M α) (k : α → M β) (e : Sl) : M.bind f k e = (f e).bnd k := id rfl
@[simp] theorem v_ret (a : α) (e : Sl) : M.ret a e = .ok a e := id rfl
@[simp] theorem v_bad (e : Sl) : (M.bad : M α) e = .bad := id rfl
end
@[simp] theorem v_rval (e : Sl) (d : D) : rdat e (.val d) = some d := id rfl
@[simp] theorem v_rown (e : Sl) (c : Cont) : rdat e (.own c) = some c.dat := id rfl
@[simp] theorem v_rpk (e : Sl) (i : Nat) : rdat e (.pk i) = sdat e[i]? := id rfl
@[simp] theorem v_sval (d : D) : sdat (some (.val d)) = some d := id rfl
@[simp] theorem v_sown (f : Bool) (c : Cont) : sdat (some (.own f c)) = some c.dat := id rfl
@[simp] theorem v_clst (xs : List D) : (Cont.lst xs).dat = .lst xs := id rfl
@[simp] theorem v_cins (c : Str) (fs : List (Str × D)) : (Cont.ins c fs).dat = .ins c fs := id rfl
def ap (k : D → M RV) (e : Sl) (d : D) : Res RV := k d e
@[simp] theorem v_ap (k : D → M RV) (e : Sl) (d : D) : ap k e d = k d e := id rfl
def rd1c (k : D → M RV) (r : RV) (e : Sl) : Res RV := oB (rdat e r) (ap k e)
@[simp] theorem v_rd1c (k : D → M RV) (r : RV) (e : Sl) : rd1c k r e = oB (rdat e r) (ap k e) := id rfl
@[simp] theorem v_rd1 (f : M RV) (k : D → M RV) (e : Sl) : rd1 f k e = (f e).bnd (rd1c k) := by kernel_rfl
def rd2e (k : D → D → M RV) (r' : RV) (e : Sl) (d : D) : Res RV := oB (rdat e r') (ap (k d) e)
@[simp] theorem v_rd2e (k : D → D → M RV) (r' : RV) (e : Sl) (d : D) : rd2e k r' e d = oB (rdat e r') (ap (k d) e) := id rfl
def rd2d (k : D → D → M RV) (r r' : RV) (e : Sl) : Res RV := oB (rdat e r) (rd2e k r' e)
@[simp] theorem v_rd2d (k : D → D → M RV) (r r' : RV) (e : Sl) : rd2d k r r' e = oB (rdat e r) (rd2e k r' e) := id rfl
def rd2c (g : M RV) (k : D → D → M RV) (r : RV) (e : Sl) : Res RV := (g e).bnd (rd2d k r)
@[simp] theorem v_rd2c (g : M RV) (k : D → D → M RV) (r : RV) (e : Sl) : rd2c g k r e = (g e).bnd (rd2d k r) := id rfl
@[simp] theorem v_rd2 (f g : M RV) (k : D → D → M RV) (e : Sl) : rd2 f g k e = (f e).bnd (rd2c g k) := by
  unfold rd2 M.bind
  cases f e with
  | bad => rfl
  | ex x e' => rfl
  | ok r e' =>
    show _ = (g e').bnd (rd2d k r)
    dsimp only
    cases g e' with
    | bad => rfl
    | ex x e2 => rfl
    | ok r' e2 =>
      show _ = oB (rdat e2 r) (rd2e k r' e2)
      dsimp only
      cases rdat e2 r with
      | none => rfl
      | some d =>
        show _ = oB (rdat e2 r') (ap (k d) e2)
        cases rdat e2 r' <;> rfl
def varC (i : Nat) (e : Sl) : Slot → Res RV
  | .val d => .ok (.val d) e
  | .own _ _ => .ok (.pk i) e
  | .no => .bad
@[simp] theorem v_varCv (i : Nat) (e : Sl) (d : D) : varC i e (.val d) = .ok (.val d) e := id rfl
@[simp] theorem v_varCo (i : Nat) (e : Sl) (f : Bool) (c : Cont) : varC i e (.own f c) = .ok (.pk i) e := id rfl
@[simp] theorem v_varCn (i : Nat) (e : Sl) : varC i e .no = .bad := id rfl
@[simp] theorem v_var (i : Nat) (e : Sl) : eVar i e = oB e[i]? (varC i e) := by
  unfold eVar
  cases e[i]? with
  | none => rfl
  | some s => cases s <;> rfl
@[simp] theorem v_eC (d : D) (e : Sl) : eC d e = .ok (.val d) e := id rfl
def asBd (e : Sl) : D → Res Bool
  | .bl b => .ok b e
  | _ => .bad
@[simp] theorem v_asBd (e : Sl) (b : Bool) : asBd e (.bl b) = .ok b e := id rfl
def asBc (r : RV) (e : Sl) : Res Bool := oB (rdat e r) (asBd e)
@[simp] theorem v_asBc (r : RV) (e : Sl) : asBc r e = oB (rdat e r) (asBd e) := id rfl
@[simp] theorem v_asB (f : M RV) (e : Sl) : asB f e = (f e).bnd asBc := by
  unfold asB M.bind
  cases f e with
  | bad => rfl
  | ex x e' => rfl
  | ok r e' =>
    show _ = oB (rdat e' r) (asBd e')
    dsimp only
    cases rdat e' r with
    | none => rfl
    | some d => cases d <;> rfl
def notC (c : Bool) (e : Sl) : Res Bool := .ok (!c) e
@[simp] theorem v_notC (c : Bool) (e : Sl) : notC c e = .ok (!c) e := id rfl
@[simp] theorem v_not (f : M Bool) (e : Sl) : mNot f e = (f e).bnd notC := by kernel_rfl
theorem ifC_eq {α : Type} (p : M Bool) (f g : M α) (e : Sl) : M.bind p (fun c => if c then f else g) e = (p e).bnd (ifC f g) := by
  unfold M.bind
  cases p e with
  | bad => rfl
  | ex x e' => rfl
  | ok c e' => cases c <;> rfl
@[simp] theorem v_and (f g : M Bool) (e : Sl) : mAnd f g e = (f e).bnd (ifC g (M.ret false)) := ifC_eq f g _ e
@[simp] theorem v_or (f g : M Bool) (e : Sl) : mOr f g e = (f e).bnd (ifC (M.ret true) g) := ifC_eq f _ g e
@[simp] theorem v_eIf (p : M Bool) (f g : M RV) (e : Sl) : eIf p f g e = (p e).bnd (ifC f g) := ifC_eq p f g e
@[simp] theorem v_sIf (p : M Bool) (f g : M Flo) (e : Sl) : sIf p f g e = (p e).bnd (ifC f g) := ifC_eq p f g e
def eAndD (g : M RV) (e : Sl) : D → Res RV
  | .bl true => g e
  | .bl false => .ok (.val (.bl false)) e
  | _ => .bad
@[simp] theorem v_eAndDt (g : M RV) (e : Sl) : eAndD g e (.bl true) = g e := id rfl
@[simp] theorem v_eAndDf (g : M RV) (e : Sl) : eAndD g e (.bl false) = .ok (.val (.bl false)) e := id rfl
def eAndC (g : M RV) (r : RV) (e : Sl) : Res RV := oB (rdat e r) (eAndD g e)
@[simp] theorem v_eAndC (g : M RV) (r : RV) (e : Sl) : eAndC g r e = oB (rdat e r) (eAndD g e) := id rfl
@[simp] theorem v_eAnd (f g : M RV) (e : Sl) : eAnd f g e = (f e).bnd (eAndC g) := by
  unfold eAnd M.bind
  cases f e with
  | bad => rfl
  | ex x e' => rfl
  | ok r e' =>
    show _ = oB (rdat e' r) (eAndD g e')
    dsimp only
    cases rdat e' r with
    | none => rfl
    | some d => cases d with
      | bl b => cases b <;> rfl
      | _ => rfl
def eOrD (g : M RV) (e : Sl) : D → Res RV
  | .bl false => g e
  | .bl true => .ok (.val (.bl true)) e
  | _ => .bad
@[simp] theorem v_eOrDf (g : M RV) (e : Sl) : eOrD g e (.bl false) = g e := id rfl
@[simp] theorem v_eOrDt (g : M RV) (e : Sl) : eOrD g e (.bl true) = .ok (.val (.bl true)) e := id rfl
def eOrC (g : M RV) (r : RV) (e : Sl) : Res RV := oB (rdat e r) (eOrD g e)
@[simp] theorem v_eOrC (g : M RV) (r : RV) (e : Sl) : eOrC g r e = oB (rdat e r) (eOrD g e) := id rfl
@[simp] theorem v_eOr (f g : M RV) (e : Sl) : eOr f g e = (f e).bnd (eOrC g) := by
  unfold eOr M.bind
  cases f e with
  | bad => rfl
  | ex x e' => rfl
  | ok r e' =>
    show _ = oB (rdat e' r) (eOrD g e')
    dsimp only
    cases rdat e' r with
    | none => rfl
    | some d => cases d with
      | bl b => cases b <;> rfl
      | _ => rfl
def eNotD (e : Sl) : D → Res RV
  | .bl b => .ok (.val (.bl (!b))) e
  | _ => .bad
@[simp] theorem v_eNotD (e : Sl) (b : Bool) : eNotD e (.bl b) = .ok (.val (.bl (!b))) e := id rfl
def eNotC (r : RV) (e : Sl) : Res RV := oB (rdat e r) (eNotD e)
@[simp] theorem v_eNotC (r : RV) (e : Sl) : eNotC r e = oB (rdat e r) (eNotD e) := id rfl
@[simp] theorem v_eNot (f : M RV) (e : Sl) : eNot f e = (f e).bnd eNotC := by
  unfold eNot M.bind
  cases f e with
  | bad => rfl
  | ex x e' => rfl
  | ok r e' =>
    show _ = oB (rdat e' r) (eNotD e')
    dsimp only
    cases rdat e' r with
    | none => rfl
    | some d => cases d <;> rfl
@[simp] theorem v_sub (i j : Int) (e : Sl) : subI (.int i) (.int j) e = .ok (.val (.int (i - j))) e := id rfl
@[simp] theorem v_mul (i j : Int) (e : Sl) : mulI (.int i) (.int j) e = gB (decide ((-(2 ^ 64) < i ∧ i < 2 ^ 64) ∨ (-(2 ^ 64) < j ∧ j < 2 ^ 64))) (.ok (.val (.int (i * j))) e) := by
  rw [← gB_if]
  unfold mulI kI2
  dsimp only
  split <;> rfl
@[simp] theorem v_fdiv (i j : Int) (e : Sl) : fdivI (.int i) (.int j) e = gB (decide (0 < j ∧ j < 1073741824)) (.ok (.val (.int (i / j))) e) := by
  rw [← gB_if]
  unfold fdivI kI2
  dsimp only
  split <;> rfl
@[simp] theorem v_mod (i j : Int) (e : Sl) : modI (.int i) (.int j) e = gB (decide (0 < j)) (.ok (.val (.int (i % j))) e) := by
  rw [← gB_if]
  unfold modI kI2
  dsimp only
  split <;> rfl
@[simp] theorem v_pow (i j : Int) (e : Sl) : powI (.int i) (.int j) e = gB (decide (0 ≤ j ∧ j ≤ 1000000 ∧ i.natAbs < 2 ^ 64)) (.ok (.val (.int (i ^ j.toNat))) e) := by
  rw [← gB_if]
  unfold powI kI2
  dsimp only
  split <;> rfl
@[simp] theorem v_neg (i : Int) (e : Sl) : negI (.int i) e = .ok (.val (.int (-i))) e := id rfl
@[simp] theorem v_lt (i j : Int) (e : Sl) : ltI (.int i) (.int j) e = .ok (.val (.bl (decide (i < j)))) e := id rfl
@[simp] theorem v_le (i j : Int) (e : Sl) : leI (.int i) (.int j) e = .ok (.val (.bl (decide (i ≤ j)))) e := id rfl
@[simp] theorem v_gt (i j : Int) (e : Sl) : gtI (.int i) (.int j) e = .ok (.val (.bl (decide (j < i)))) e := id rfl
@[simp] theorem v_ge (i j : Int) (e : Sl) : geI (.int i) (.int j) e = .ok (.val (.bl (decide (j ≤ i)))) e := id rfl
@[simp] theorem v_addI (i j : Int) (e : Sl) : addK (.int i) (.int j) e = .ok (.val (.int (i + j))) e := id rfl
@[simp] theorem v_addL (i j : List D) (e : Sl) : addK (.lst i) (.lst j) e = gB (decide (i.length + j.length ≤ sizeLine)) (.ok (.own (.lst (i ++ j))) e) := gB_if _ _
@[simp] theorem v_addT (i j : List D) (e : Sl) : addK (.tup i) (.tup j) e = gB (decide (i.length + j.length ≤ sizeLine)) (.ok (.val (.tup (i ++ j))) e) := gB_if _ _
@[simp] theorem v_addS (i j : Str) (e : Sl) : addK (.str i) (.str j) e = gB (decide (i.length + j.length ≤ sizeLine)) (.ok (.val (.str (i ++ j))) e) := gB_if _ _
def okV (e : Sl) (d : D) : Res RV := .ok (.val d) e
@[simp] theorem v_okV (e : Sl) (d : D) : okV e d = .ok (.val d) e := id rfl
@[simp] theorem v_ixL (xs : List D) (i : Int) (e : Sl) : ixK (.lst xs) (.int i) e = oB (atI xs i) (okV e) := by
  unfold ixK
  dsimp only
  cases atI xs i <;> rfl
@[simp] theorem v_ixT (xs : List D) (i : Int) (e : Sl) : ixK (.tup xs) (.int i) e = oB (atI xs i) (okV e) := by
  unfold ixK
  dsimp only
  cases atI xs i <;> rfl
@[simp] theorem v_lenL (xs : List D) (e : Sl) : lenK (.lst xs) e = .ok (.val (.int xs.length)) e := id rfl
@[simp] theorem v_lenT (xs : List D) (e : Sl) : lenK (.tup xs) e = .ok (.val (.int xs.length)) e := id rfl
@[simp] theorem v_intI (i : Int) (e : Sl) : intK (.int i) e = .ok (.val (.int i)) e := id rfl
@[simp] theorem v_intB (b : Bool) (e : Sl) : intK (.bl b) e = .ok (.val (.int (if b then 1 else 0))) e := id rfl
@[simp] theorem v_tupL (xs : List D) (e : Sl) : tupK (.lst xs) e = .ok (.val (.tup xs)) e := id rfl
@[simp] theorem v_tupT (xs : List D) (e : Sl) : tupK (.tup xs) e = .ok (.val (.tup xs)) e := id rfl
@[simp] theorem v_lstL (xs : List D) (e : Sl) : lstK (.lst xs) e = .ok (.own (.lst xs)) e := id rfl
@[simp] theorem v_lstT (xs : List D) (e : Sl) : lstK (.tup xs) e = .ok (.own (.lst xs)) e := id rfl
@[simp] theorem v_max2 (i j : Int) (e : Sl) : max2 (.int i) (.int j) e = .ok (.val (.int (if j > i then j else i))) e := id rfl
@[simp] theorem v_min2 (i j : Int) (e : Sl) : min2 (.int i) (.int j) e = .ok (.val (.int (if j < i then j else i))) e := id rfl
def okI (e : Sl) (ns : List Int) : Res RV := .ok (.val (.int ns.sum)) e
@[simp] theorem v_okI (e : Sl) (ns : List Int) : okI e ns = .ok (.val (.int ns.sum)) e := id rfl
@[simp] theorem v_sum (xs : List D) (e : Sl) : sumK (.lst xs) e = oB (intsOf xs) (okI e) := by
  unfold sumK
  dsimp only
  cases intsOf xs <;> rfl
@[simp] theorem v_dm (i j : Int) (e : Sl) : dmK (.int i) (.int j) e = gB (decide (0 < j ∧ j < 1073741824)) (.ok (.val (.tup [.int (i / j), .int (i % j)])) e) := by
  rw [← gB_if]
  unfold dmK kI2
  dsimp only
  split <;> rfl
@[simp] theorem v_slL (xs : List D) (lo hi : Option Int) (e : Sl) : slK (.lst xs) lo hi e = .ok (.own (.lst (cutD xs lo hi))) e := id rfl
@[simp] theorem v_slT (xs : List D) (lo hi : Option Int) (e : Sl) : slK (.tup xs) lo hi e = .ok (.val (.tup (cutD xs lo hi))) e := id rfl
@[simp] theorem v_oNo (e : Sl) : oNo e = .ok none e := id rfl
def oSomeD (e : Sl) : D → Res (Option Int)
  | .int i => .ok (some i) e
  | _ => .bad
@[simp] theorem v_oSomeD (e : Sl) (i : Int) : oSomeD e (.int i) = .ok (some i) e := id rfl
def oSomeC (r : RV) (e : Sl) : Res (Option Int) := oB (rdat e r) (oSomeD e)
@[simp] theorem v_oSomeC (r : RV) (e : Sl) : oSomeC r e = oB (rdat e r) (oSomeD e) := id rfl
@[simp] theorem v_oSome (f : M RV) (e : Sl) : oSome f e = (f e).bnd oSomeC := by
  unfold oSome M.bind
  cases f e with
  | bad => rfl
  | ex x e' => rfl
  | ok r e' =>
    show _ = oB (rdat e' r) (oSomeD e')
    dsimp only
    cases rdat e' r with
    | none => rfl
    | some d => cases d <;> rfl
def slA (lo hi : Option Int) (e : Sl) (d : D) : Res RV := slK d lo hi e
@[simp] theorem v_slA (lo hi : Option Int) (e : Sl) (d : D) : slA lo hi e d = slK d lo hi e := id rfl
def eSl3 (r : RV) (lo hi : Option Int) (e : Sl) : Res RV := oB (rdat e r) (slA lo hi e)
@[simp] theorem v_eSl3 (r : RV) (lo hi : Option Int) (e : Sl) : eSl3 r lo hi e = oB (rdat e r) (slA lo hi e) := id rfl
def eSl2 (u : M (Option Int)) (r : RV) (lo : Option Int) (e : Sl) : Res RV := (u e).bnd (eSl3 r lo)
@[simp] theorem v_eSl2 (u : M (Option Int)) (r : RV) (lo : Option Int) (e : Sl) : eSl2 u r lo e = (u e).bnd (eSl3 r lo) := id rfl
def eSl1 (l u : M (Option Int)) (r : RV) (e : Sl) : Res RV := (l e).bnd (eSl2 u r)
@[simp] theorem v_eSl1 (l u : M (Option Int)) (r : RV) (e : Sl) : eSl1 l u r e = (l e).bnd (eSl2 u r) := id rfl
@[simp] theorem v_eSl (f : M RV) (l u : M (Option Int)) (e : Sl) : eSl f l u e = (f e).bnd (eSl1 l u) := by
  unfold eSl M.bind
  cases f e with
  | bad => rfl
  | ex x e' => rfl
  | ok r e' =>
    show _ = (l e').bnd (eSl2 u r)
    dsimp only
    cases l e' with
    | bad => rfl
    | ex x e2 => rfl
    | ok lo e2 =>
      show _ = (u e2).bnd (eSl3 r lo)
      dsimp only
      cases u e2 with
      | bad => rfl
      | ex x e3 => rfl
      | ok hi e3 =>
        show _ = oB (rdat e3 r) (slA lo hi e3)
        dsimp only
        cases rdat e3 r <;> rfl
def isiD (ns : List String) (e : Sl) (t : String) : Res RV := .ok (.val (.bl (ns.any (subB t)))) e
@[simp] theorem v_isiD (ns : List String) (e : Sl) (t : String) : isiD ns e t = .ok (.val (.bl (ns.any (subB t)))) e := id rfl
@[simp] theorem v_isiK (ns : List String) (d : D) (e : Sl) : isiK ns d e = oB (tyD d) (isiD ns e) := by
  unfold isiK
  cases tyD d <;> rfl
@[simp] theorem v_tyN : tyD .non = some "NoneType" := id rfl
@[simp] theorem v_tyB (b : Bool) : tyD (.bl b) = some "bool" := id rfl
@[simp] theorem v_tyI (b : Int) : tyD (.int b) = some "int" := id rfl
@[simp] theorem v_tyS (b : Str) : tyD (.str b) = some "str" := id rfl
@[simp] theorem v_tyL (b : List D) : tyD (.lst b) = some "list" := id rfl
@[simp] theorem v_tyT (b : List D) : tyD (.tup b) = some "tuple" := id rfl
@[simp] theorem v_isNi (i : Int) (e : Sl) : isN (.int i) e = .ok (.val (.bl false)) e := id rfl
@[simp] theorem v_isNl (i : List D) (e : Sl) : isN (.lst i) e = .ok (.val (.bl false)) e := id rfl
@[simp] theorem v_isNt (i : List D) (e : Sl) : isN (.tup i) e = .ok (.val (.bl false)) e := id rfl
@[simp] theorem v_isN0 (e : Sl) : isN .non e = .ok (.val (.bl true)) e := id rfl
@[simp] theorem v_notN0 (e : Sl) : notN .non e = .ok (.val (.bl false)) e := id rfl
@[simp] theorem v_notNi (i : Int) (e : Sl) : notN (.int i) e = .ok (.val (.bl true)) e := id rfl
@[simp] theorem v_notNl (i : List D) (e : Sl) : notN (.lst i) e = .ok (.val (.bl true)) e := id rfl
@[simp] theorem v_notNt (i : List D) (e : Sl) : notN (.tup i) e = .ok (.val (.bl true)) e := id rfl
def ch3 (q : Int → Int → Bool) (j : Int) (e : Sl) : D → Res RV
  | .int l => .ok (.val (.bl (q j l))) e
  | _ => .bad
@[simp] theorem v_ch3 (q : Int → Int → Bool) (j : Int) (e : Sl) (l : Int) : ch3 q j e (.int l) = .ok (.val (.bl (q j l))) e := id rfl
def ch2 (q : Int → Int → Bool) (j : Int) (r : RV) (e : Sl) : Res RV := oB (rdat e r) (ch3 q j e)
@[simp] theorem v_ch2 (q : Int → Int → Bool) (j : Int) (r : RV) (e : Sl) : ch2 q j r e = oB (rdat e r) (ch3 q j e) := id rfl
def ch1 (q : Int → Int → Bool) (h : M RV) (j : Int) (c : Bool) (e : Sl) : Res RV := match c with
  | true => (h e).bnd (ch2 q j)
  | false => .ok (.val (.bl false)) e
@[simp] theorem v_ch1t (q : Int → Int → Bool) (h : M RV) (j : Int) (e : Sl) : ch1 q h j true e = (h e).bnd (ch2 q j) := id rfl
@[simp] theorem v_ch1f (q : Int → Int → Bool) (h : M RV) (j : Int) (e : Sl) : ch1 q h j false e = .ok (.val (.bl false)) e := id rfl
def chK (p q : Int → Int → Bool) (h : M RV) : D → D → M RV
  | .int i, .int j => fun e => ch1 q h j (p i j) e
  | _, _ => M.bad
@[simp] theorem v_chK (p q : Int → Int → Bool) (h : M RV) (i j : Int) (e : Sl) : chK p q h (.int i) (.int j) e = ch1 q h j (p i j) e := id rfl
@[simp] theorem v_ch (p q : Int → Int → Bool) (f g h : M RV) (e : Sl) : chI p q f g h e = rd2 f g (chK p q h) e := by
  unfold chI rd2 M.bind
  cases f e with
  | bad => rfl
  | ex x e' => rfl
  | ok r e' =>
    dsimp only
    cases g e' with
    | bad => rfl
    | ex x e2 => rfl
    | ok r' e2 =>
      dsimp only
      cases rdat e2 r with
      | none => cases rdat e2 r' <;> rfl
      | some d =>
        cases rdat e2 r' with
        | none => cases d <;> rfl
        | some d' =>
          cases d with
          | int i =>
            cases d' with
            | int j =>
              show _ = ch1 q h j (p i j) e2
              dsimp only
              cases p i j with
              | false => rfl
              | true =>
                show _ = (h e2).bnd (ch2 q j)
                rw [if_pos rfl]
                cases h e2 with
                | bad => rfl
                | ex x e3 => rfl
                | ok r3 e3 =>
                  show _ = oB (rdat e3 r3) (ch3 q j e3)
                  dsimp only
                  cases rdat e3 r3 with
                  | none => rfl
                  | some d3 => cases d3 <;> rfl
            | _ => rfl
          | _ => cases d' <;> rfl
/-! statements -/
def seqC (g : M Flo) : Flo → Sl → Res Flo
  | .nx, e => g e
  | .bk, e => .ok .bk e
  | .ct, e => .ok .ct e
  | .rt r, e => .ok (.rt r) e
@[simp] theorem v_seqCn (g : M Flo) (e : Sl) : seqC g .nx e = g e := id rfl
@[simp] theorem v_seqCb (g : M Flo) (e : Sl) : seqC g .bk e = .ok .bk e := id rfl
@[simp] theorem v_seqCc (g : M Flo) (e : Sl) : seqC g .ct e = .ok .ct e := id rfl
@[simp] theorem v_seqCr (g : M Flo) (r : RV) (e : Sl) : seqC g (.rt r) e = .ok (.rt r) e := id rfl
@[simp] theorem v_seq (f g : M Flo) (e : Sl) : sSeq f g e = (f e).bnd (seqC g) := by
  unfold sSeq
  cases f e with
  | bad => rfl
  | ex x e' => rfl
  | ok fl e' => cases fl <;> rfl
@[simp] theorem v_nil (e : Sl) : sNil e = .ok .nx e := id rfl
@[simp] theorem v_sbad (e : Sl) : sBad e = .bad := id rfl
def nxC (_r : RV) (e : Sl) : Res Flo := .ok .nx e
@[simp] theorem v_nxC (r : RV) (e : Sl) : nxC r e = .ok .nx e := id rfl
@[simp] theorem v_expr (f : M RV) (e : Sl) : sExpr f e = (f e).bnd nxC := by kernel_rfl
@[simp] theorem v_retN (e : Sl) : sRetN e = .ok (.rt (.val .non)) e := id rfl
def retP (i : Nat) (e : Sl) : Slot → Res Flo
  | .val d => .ok (.rt (.val d)) e
  | .own false c => .ok (.rt (.own c)) (e.set i .no)
  | _ => .bad
@[simp] theorem v_retPv (i : Nat) (e : Sl) (d : D) : retP i e (.val d) = .ok (.rt (.val d)) e := id rfl
@[simp] theorem v_retPo (i : Nat) (e : Sl) (c : Cont) : retP i e (.own false c) = .ok (.rt (.own c)) (e.set i .no) := id rfl
@[simp] theorem v_retV (d : D) (e : Sl) : retR (.val d) e = .ok (.rt (.val d)) e := id rfl
@[simp] theorem v_retO (c : Cont) (e : Sl) : retR (.own c) e = .ok (.rt (.own c)) e := id rfl
@[simp] theorem v_retR (i : Nat) (e : Sl) : retR (.pk i) e = oB e[i]? (retP i e) := by
  unfold retR
  dsimp only
  cases e[i]? with
  | none => rfl
  | some s => cases s with
    | own f c => cases f <;> rfl
    | _ => rfl
@[simp] theorem v_sRet (f : M RV) (e : Sl) : sRet f e = (f e).bnd retR := id rfl
def stoS : Option Slot → Bool
  | none => false
  | some (.own true _) => false
  | _ => true
@[simp] theorem v_stoSv (d : D) : stoS (some (.val d)) = true := id rfl
@[simp] theorem v_stoSn : stoS (some .no) = true := id rfl
@[simp] theorem v_stoSo (c : Cont) : stoS (some (.own false c)) = true := id rfl
@[simp] theorem v_sto (e : Sl) (i : Nat) : sto e i = stoS e[i]? := by
  unfold sto
  cases e[i]? with
  | none => rfl
  | some s => cases s with
    | own f c => cases f <;> rfl
    | _ => rfl
@[simp] theorem v_stoV (i : Nat) (d : D) (e : Sl) : stoV i d e = gB (sto e i) (.ok .nx (e.set i (.val d))) := gB_iff _ _
@[simp] theorem v_storV (i : Nat) (d : D) (e : Sl) : stor i (.val d) e = gB (sto e i) (.ok .nx (e.set i (.val d))) := gB_iff _ _
@[simp] theorem v_storO (i : Nat) (c : Cont) (e : Sl) : stor i (.own c) e = gB (sto e i) (.ok .nx (e.set i (.own false c))) := gB_iff _ _
@[simp] theorem v_storP (i j : Nat) (e : Sl) : stor i (.pk j) e = (frz (.pk j) e).bnd (stoV i) := id rfl
@[simp] theorem v_frzV (d : D) (e : Sl) : frz (.val d) e = .ok d e := id rfl
@[simp] theorem v_frzO (c : Cont) (e : Sl) : frz (.own c) e = .ok c.dat e := id rfl
def frzS (i : Nat) (e : Sl) : Slot → Res D
  | .val d => .ok d e
  | .own false c => .ok c.dat (e.set i (.val c.dat))
  | _ => .bad
@[simp] theorem v_frzSv (i : Nat) (e : Sl) (d : D) : frzS i e (.val d) = .ok d e := id rfl
@[simp] theorem v_frzSo (i : Nat) (e : Sl) (c : Cont) : frzS i e (.own false c) = .ok c.dat (e.set i (.val c.dat)) := id rfl
@[simp] theorem v_frzP (i : Nat) (e : Sl) : frz (.pk i) e = oB e[i]? (frzS i e) := by
  unfold frz
  dsimp only
  cases e[i]? with
  | none => rfl
  | some s => cases s with
    | own f c => cases f <;> rfl
    | _ => rfl
@[simp] theorem v_sSet (i : Nat) (f : M RV) (e : Sl) : sSet i f e = (f e).bnd (stor i) := id rfl
def valC (d : D) (e : Sl) : Res RV := .ok (.val d) e
@[simp] theorem v_valC (d : D) (e : Sl) : valC d e = .ok (.val d) e := id rfl
def aVc (r : RV) (e : Sl) : Res RV := (frz r e).bnd valC
@[simp] theorem v_aVc (r : RV) (e : Sl) : aVc r e = (frz r e).bnd valC := id rfl
@[simp] theorem v_aV (f : M RV) (e : Sl) : aV f e = (f e).bnd aVc := by kernel_rfl
def aOc : RV → Sl → Res RV
  | .own c, e => .ok (.own c) e
  | .val d, e => .ok (.val d) e
  | .pk i, e => (frz (.pk i) e).bnd valC
@[simp] theorem v_aOo (c : Cont) (e : Sl) : aOc (.own c) e = .ok (.own c) e := id rfl
@[simp] theorem v_aOv (d : D) (e : Sl) : aOc (.val d) e = .ok (.val d) e := id rfl
@[simp] theorem v_aOp (i : Nat) (e : Sl) : aOc (.pk i) e = (frz (.pk i) e).bnd valC := id rfl
@[simp] theorem v_aO (f : M RV) (e : Sl) : aO f e = (f e).bnd aOc := by
  unfold aO M.bind
  cases f e with
  | ok r e' => cases r <;> kernel_rfl
  | ex x e' => rfl
  | bad => rfl
def ioC (i : Nat) (e : Sl) : Slot → Res RV
  | .own _ _ => .ok (.pk i) e
  | _ => .bad
@[simp] theorem v_ioC (i : Nat) (e : Sl) (f : Bool) (c : Cont) : ioC i e (.own f c) = .ok (.pk i) e := id rfl
@[simp] theorem v_aIO (i : Nat) (e : Sl) : aIO i e = oB e[i]? (ioC i e) := by
  unfold aIO
  cases e[i]? with
  | none => rfl
  | some s => cases s <;> rfl
@[simp] theorem v_aNil (e : Sl) : aNil e = .ok [] e := id rfl
def consC (r : RV) (rs : List RV) (e : Sl) : Res (List RV) := .ok (r :: rs) e
@[simp] theorem v_consC (r : RV) (rs : List RV) (e : Sl) : consC r rs e = .ok (r :: rs) e := id rfl
def aConsC (g : M (List RV)) (r : RV) (e : Sl) : Res (List RV) := (g e).bnd (consC r)
@[simp] theorem v_aConsC (g : M (List RV)) (r : RV) (e : Sl) : aConsC g r e = (g e).bnd (consC r) := id rfl
@[simp] theorem v_aCons (f : M RV) (g : M (List RV)) (e : Sl) : aCons f g e = (f e).bnd (aConsC g) := by kernel_rfl
@[simp] theorem v_valsN : valsOf [] = some [] := id rfl
@[simp] theorem v_valsC (d : D) (rs : List RV) : valsOf (.val d :: rs) = (valsOf rs).map (d :: ·) := id rfl
def tupC (e : Sl) (ds : List D) : Res RV := gB (decide (ds.length ≤ sizeLine)) (.ok (.val (.tup ds)) e)
def lstC (e : Sl) (ds : List D) : Res RV := gB (decide (ds.length ≤ sizeLine)) (.ok (.own (.lst ds)) e)
@[simp] theorem v_tupC (e : Sl) (ds : List D) : tupC e ds = gB (decide (ds.length ≤ sizeLine)) (.ok (.val (.tup ds)) e) := id rfl
@[simp] theorem v_lstC (e : Sl) (ds : List D) : lstC e ds = gB (decide (ds.length ≤ sizeLine)) (.ok (.own (.lst ds)) e) := id rfl
def tupB (rs : List RV) (e : Sl) : Res RV := oB (valsOf rs) (tupC e)
def lstB (rs : List RV) (e : Sl) : Res RV := oB (valsOf rs) (lstC e)
@[simp] theorem v_tupB (rs : List RV) (e : Sl) : tupB rs e = oB (valsOf rs) (tupC e) := id rfl
@[simp] theorem v_lstB (rs : List RV) (e : Sl) : lstB rs e = oB (valsOf rs) (lstC e) := id rfl
@[simp] theorem v_eTup (g : M (List RV)) (e : Sl) : eTup g e = (g e).bnd tupB := by
  unfold eTup M.bind
  cases g e with
  | bad => rfl
  | ex x e' => rfl
  | ok rs e' =>
    show _ = oB (valsOf rs) (tupC e')
    dsimp only
    cases valsOf rs with
    | none => rfl
    | some ds => exact gB_if _ _
@[simp] theorem v_eLst (g : M (List RV)) (e : Sl) : eLst g e = (g e).bnd lstB := by
  unfold eLst M.bind
  cases g e with
  | bad => rfl
  | ex x e' => rfl
  | ok rs e' =>
    show _ = oB (valsOf rs) (lstC e')
    dsimp only
    cases valsOf rs with
    | none => rfl
    | some ds => exact gB_if _ _
@[simp] theorem v_sPar (is : List Nat) (fs : M (List RV)) (e : Sl) : sPar is fs e = (fs e).bnd (storAll is) := id rfl
@[simp] theorem v_storN (e : Sl) : storAll [] [] e = .ok .nx e := id rfl
@[simp] theorem v_storC (i : Nat) (is : List Nat) (r : RV) (rs : List RV) (e : Sl) : storAll (i :: is) (r :: rs) e = (stor i r e).bnd (seqC (storAll is rs)) := v_seq _ _ e
def appS (i : Nat) (d : D) (e : Sl) : Slot → Res Flo
  | .own fx (.lst xs) => gB (decide (xs.length < sizeLine)) (.ok .nx (e.set i (.own fx (.lst (xs ++ [d])))))
  | _ => .bad
@[simp] theorem v_appS (i : Nat) (d : D) (e : Sl) (fx : Bool) (xs : List D) : appS i d e (.own fx (.lst xs)) = gB (decide (xs.length < sizeLine)) (.ok .nx (e.set i (.own fx (.lst (xs ++ [d]))))) := id rfl
def app3 (i : Nat) (d : D) (e : Sl) : Res Flo := oB e[i]? (appS i d e)
@[simp] theorem v_app3 (i : Nat) (d : D) (e : Sl) : app3 i d e = oB e[i]? (appS i d e) := id rfl
def app2 (i : Nat) (r : RV) (e : Sl) : Res Flo := (frz r e).bnd (app3 i)
@[simp] theorem v_app2 (i : Nat) (r : RV) (e : Sl) : app2 i r e = (frz r e).bnd (app3 i) := id rfl
def app1 (i : Nat) (f : M RV) (e : Sl) : Slot → Res Flo
  | .own _ (.lst _) => (f e).bnd (app2 i)
  | _ => .bad
@[simp] theorem v_app1 (i : Nat) (f : M RV) (e : Sl) (fx : Bool) (xs : List D) : app1 i f e (.own fx (.lst xs)) = (f e).bnd (app2 i) := id rfl
@[simp] theorem v_sApp (i : Nat) (f : M RV) (e : Sl) : sApp i f e = oB e[i]? (app1 i f e) := by
  unfold sApp
  cases e[i]? with
  | none => rfl
  | some s =>
    cases s with
    | no => rfl
    | val d => rfl
    | own fx c =>
      cases c with
      | ins c fs => rfl
      | dK _ => rfl
      | dT _ => rfl
      | lst xs =>
        show _ = (f e).bnd (app2 i)
        unfold M.bind
        dsimp only
        cases f e with
        | bad => rfl
        | ex x e' => rfl
        | ok r e' =>
          show _ = (frz r e').bnd (app3 i)
          dsimp only
          cases frz r e' with
          | bad => rfl
          | ex x e2 => rfl
          | ok d e2 =>
            show _ = oB e2[i]? (appS i d e2)
            dsimp only
            cases e2[i]? with
            | none => rfl
            | some s => cases s with
              | no => rfl
              | val d => rfl
              | own f2 c2 => cases c2 with
                | ins _ _ => rfl
                | dK _ => rfl
                | dT _ => rfl
                | lst ys => exact gB_if _ _
def sixL (i : Nat) (b : Bool) (xs : List D) (d : D) (e : Sl) (j : Nat) : Res Flo := .ok .nx (e.set i (.own b (.lst (xs.set j d))))
@[simp] theorem v_sixL (i : Nat) (b : Bool) (xs : List D) (d : D) (e : Sl) (j : Nat) : sixL i b xs d e j = .ok .nx (e.set i (.own b (.lst (xs.set j d)))) := id rfl
def sixS (i : Nat) (d : D) (k : Int) (e : Sl) : Slot → Res Flo
  | .own b (.lst xs) => oB (ixN xs.length k) (sixL i b xs d e)
  | _ => .bad
@[simp] theorem v_sixS (i : Nat) (d : D) (k : Int) (e : Sl) (b : Bool) (xs : List D) : sixS i d k e (.own b (.lst xs)) = oB (ixN xs.length k) (sixL i b xs d e) := id rfl
def six5 (i : Nat) (d : D) (e : Sl) : D → Res Flo
  | .int k => oB e[i]? (sixS i d k e)
  | _ => .bad
@[simp] theorem v_six5 (i : Nat) (d : D) (e : Sl) (k : Int) : six5 i d e (.int k) = oB e[i]? (sixS i d k e) := id rfl
def six4 (i : Nat) (d : D) (r : RV) (e : Sl) : Res Flo := oB (rdat e r) (six5 i d e)
@[simp] theorem v_six4 (i : Nat) (d : D) (r : RV) (e : Sl) : six4 i d r e = oB (rdat e r) (six5 i d e) := id rfl
def six3 (i : Nat) (fx : M RV) (d : D) (e : Sl) : Slot → Res Flo
  | .own _ (.lst _) => (fx e).bnd (six4 i d)
  | _ => .bad
@[simp] theorem v_six3 (i : Nat) (fx : M RV) (d : D) (e : Sl) (b : Bool) (xs : List D) : six3 i fx d e (.own b (.lst xs)) = (fx e).bnd (six4 i d) := id rfl
def six2 (i : Nat) (fx : M RV) (d : D) (e : Sl) : Res Flo := oB e[i]? (six3 i fx d e)
@[simp] theorem v_six2 (i : Nat) (fx : M RV) (d : D) (e : Sl) : six2 i fx d e = oB e[i]? (six3 i fx d e) := id rfl
def six1 (i : Nat) (fx : M RV) (r : RV) (e : Sl) : Res Flo := (frz r e).bnd (six2 i fx)
@[simp] theorem v_six1 (i : Nat) (fx : M RV) (r : RV) (e : Sl) : six1 i fx r e = (frz r e).bnd (six2 i fx) := id rfl
@[simp] theorem v_sSetIx (i : Nat) (fv fx : M RV) (e : Sl) : sSetIx i fv fx e = (fv e).bnd (six1 i fx) := by
  unfold sSetIx M.bind
  cases fv e with
  | bad => rfl
  | ex x e' => rfl
  | ok r e' =>
    show _ = (frz r e').bnd (six2 i fx)
    dsimp only
    cases frz r e' with
    | bad => rfl
    | ex x e2 => rfl
    | ok d e2 =>
      show _ = oB e2[i]? (six3 i fx d e2)
      dsimp only
      cases e2[i]? with
      | none => rfl
      | some s => cases s with
        | no => rfl
        | val d => rfl
        | own b c => cases c with
          | ins _ _ => rfl
          | dK _ => rfl
          | dT _ => rfl
          | lst xs =>
            show _ = (fx e2).bnd (six4 i d)
            dsimp only
            cases fx e2 with
            | bad => rfl
            | ex x e3 => rfl
            | ok r3 e3 =>
              show _ = oB (rdat e3 r3) (six5 i d e3)
              dsimp only
              cases rdat e3 r3 with
              | none => cases e3[i]? <;> rfl
              | some d3 =>
                cases d3 with
                | int k =>
                  show _ = oB e3[i]? (sixS i d k e3)
                  cases e3[i]? with
                  | none => rfl
                  | some s => cases s with
                    | no => rfl
                    | val d => rfl
                    | own b c => cases c with
                      | ins _ _ => rfl
                      | dK _ => rfl
                      | dT _ => rfl
                      | lst ys =>
                        show _ = oB (ixN ys.length k) (sixL i b ys d e3)
                        dsimp only
                        cases ixN ys.length k <;> rfl
                | _ => cases e3[i]? <;> rfl
@[simp] theorem v_tName (i : Nat) (d : D) (e : Sl) : tName i d e = gB (sto e i) (.ok () (e.set i (.val d))) := gB_iff _ _
@[simp] theorem v_tTup (n : Nat) (t : List D → M Unit) (ds : List D) (e : Sl) : tTupD n t (.tup ds) e = gB (decide (ds.length = n)) (t ds e) := gB_if _ _
@[simp] theorem v_tsN (e : Sl) : tsNil [] e = .ok () e := id rfl
def tsC (ts : List D → M Unit) (ds : List D) (_u : Unit) (e : Sl) : Res Unit := ts ds e
@[simp] theorem v_tsCc (ts : List D → M Unit) (ds : List D) (u : Unit) (e : Sl) : tsC ts ds u e = ts ds e := id rfl
@[simp] theorem v_tsC (t : D → M Unit) (ts : List D → M Unit) (d : D) (ds : List D) (e : Sl) : tsCons t ts (d :: ds) e = (t d e).bnd (tsC ts ds) := by
  unfold tsCons
  dsimp only
  cases t d e <;> rfl
def nxU (_u : Unit) (e : Sl) : Res Flo := .ok .nx e
@[simp] theorem v_nxU (u : Unit) (e : Sl) : nxU u e = .ok .nx e := id rfl
def noEx {α : Type} (r : Res α) : Res α := match r with
  | .ok a e => .ok a e
  | _ => .bad
@[simp] theorem noEx_ok {α : Type} (a : α) (e : Sl) : noEx (.ok a e) = .ok a e := id rfl
@[simp] theorem noEx_bad {α : Type} : noEx (.bad : Res α) = .bad := id rfl
@[simp] theorem noEx_ex {α : Type} (x : Xn) (e : Sl) : noEx (.ex x e : Res α) = .bad := id rfl
def asg2 (t : D → M Unit) (d : D) (e : Sl) : Res Flo := (noEx (t d e)).bnd nxU
@[simp] theorem v_asg2 (t : D → M Unit) (d : D) (e : Sl) : asg2 t d e = (noEx (t d e)).bnd nxU := id rfl
def asg1 (t : D → M Unit) (r : RV) (e : Sl) : Res Flo := (frz r e).bnd (asg2 t)
@[simp] theorem v_asg1 (t : D → M Unit) (r : RV) (e : Sl) : asg1 t r e = (frz r e).bnd (asg2 t) := id rfl
@[simp] theorem v_sAsg (f : M RV) (t : D → M Unit) (e : Sl) : sAsg f t e = (f e).bnd (asg1 t) := by
  unfold sAsg M.bind
  cases f e with
  | bad => rfl
  | ex x e' => rfl
  | ok r e' =>
    show _ = (frz r e').bnd (asg2 t)
    dsimp only
    cases frz r e' with
    | bad => rfl
    | ex x e2 => rfl
    | ok d e2 =>
      show _ = (noEx (t d e2)).bnd nxU
      dsimp only
      cases t d e2 <;> rfl
def itC : D → Sl → Res (List D)
  | .lst ds, e => .ok ds e
  | .tup ds, e => .ok ds e
  | _, _ => .bad
@[simp] theorem v_itCl (ds : List D) (e : Sl) : itC (.lst ds) e = .ok ds e := id rfl
@[simp] theorem v_itCt (ds : List D) (e : Sl) : itC (.tup ds) e = .ok ds e := id rfl
def itF (r : RV) (e : Sl) : Res (List D) := (frz r e).bnd itC
@[simp] theorem v_itF (r : RV) (e : Sl) : itF r e = (frz r e).bnd itC := id rfl
@[simp] theorem v_itSeq (f : M RV) (e : Sl) : itSeq f e = (f e).bnd itF := by
  unfold itSeq M.bind
  cases f e with
  | bad => rfl
  | ex x e' => rfl
  | ok r e' =>
    show _ = (frz r e').bnd itC
    dsimp only
    cases frz r e' with
    | ok d e1 => cases d <;> rfl
    | ex x e1 => rfl
    | bad => rfl
def itRd (e : Sl) : D → Res (List D)
  | .int j => gB (decide (-(2 ^ 62) ≤ j ∧ j < 2 ^ 62)) (.ok (rangeD 0 j.toNat) e)
  | _ => .bad
theorem p62 : (2 : Int) ^ 62 = 4611686018427387904 := by decide +kernel
@[simp] theorem v_itRd (e : Sl) (j : Int) : itRd e (.int j) = gB (decide (-4611686018427387904 ≤ j ∧ j < 4611686018427387904)) (.ok (rangeD 0 j.toNat) e) := by
  unfold itRd
  dsimp only
  rw [p62]
def itRc (r : RV) (e : Sl) : Res (List D) := oB (rdat e r) (itRd e)
@[simp] theorem v_itRc (r : RV) (e : Sl) : itRc r e = oB (rdat e r) (itRd e) := id rfl
@[simp] theorem v_itR1 (f : M RV) (e : Sl) : itR1 f e = (f e).bnd itRc := by
  unfold itR1 M.bind
  cases f e with
  | bad => rfl
  | ex x e' => rfl
  | ok r e' =>
    show _ = oB (rdat e' r) (itRd e')
    dsimp only
    cases rdat e' r with
    | none => rfl
    | some d => cases d with
      | int j => exact gB_if _ _
      | _ => rfl
def itR4 (e : Sl) (i : Int) : D → Res (List D)
  | .int j => gB (decide (-(2 ^ 62) ≤ i ∧ i < 2 ^ 62 ∧ -(2 ^ 62) ≤ j ∧ j < 2 ^ 62)) (.ok (rangeD i (j - i).toNat) e)
  | _ => .bad
@[simp] theorem v_itR4 (e : Sl) (i j : Int) : itR4 e i (.int j) = gB (decide (-4611686018427387904 ≤ i ∧ i < 4611686018427387904 ∧ -4611686018427387904 ≤ j ∧ j < 4611686018427387904)) (.ok (rangeD i (j - i).toNat) e) := by
  unfold itR4
  dsimp only
  rw [p62]
def itR5 (r' : RV) (e : Sl) : D → Res (List D)
  | .int i => oB (rdat e r') (itR4 e i)
  | _ => .bad
@[simp] theorem v_itR5 (r' : RV) (e : Sl) (i : Int) : itR5 r' e (.int i) = oB (rdat e r') (itR4 e i) := id rfl
def itR6 (r r' : RV) (e : Sl) : Res (List D) := oB (rdat e r) (itR5 r' e)
@[simp] theorem v_itR6 (r r' : RV) (e : Sl) : itR6 r r' e = oB (rdat e r) (itR5 r' e) := id rfl
def itR7 (g : M RV) (r : RV) (e : Sl) : Res (List D) := (g e).bnd (itR6 r)
@[simp] theorem v_itR7 (g : M RV) (r : RV) (e : Sl) : itR7 g r e = (g e).bnd (itR6 r) := id rfl
@[simp] theorem v_itR2 (f g : M RV) (e : Sl) : itR2 f g e = (f e).bnd (itR7 g) := by
  unfold itR2 M.bind
  cases f e with
  | bad => rfl
  | ex x e' => rfl
  | ok r e' =>
    show _ = (g e').bnd (itR6 r)
    dsimp only
    cases g e' with
    | bad => rfl
    | ex x e2 => rfl
    | ok r' e2 =>
      show _ = oB (rdat e2 r) (itR5 r' e2)
      dsimp only
      cases rdat e2 r with
      | none => cases rdat e2 r' <;> rfl
      | some d =>
        cases d with
        | int i =>
          show _ = oB (rdat e2 r') (itR4 e2 i)
          cases rdat e2 r' with
          | none => rfl
          | some d' => cases d' with
            | int j => exact gB_if _ _
            | _ => rfl
        | _ => cases rdat e2 r' <;> rfl
def enC (ds : List D) (e : Sl) : Res (List D) := .ok (enumD 0 ds) e
@[simp] theorem v_enC (ds : List D) (e : Sl) : enC ds e = .ok (enumD 0 ds) e := id rfl
@[simp] theorem v_itEnum (f : M RV) (e : Sl) : itEnum f e = (itSeq f e).bnd enC := id rfl
@[simp] theorem v_sFor (it : M (List D)) (t : D → M Unit) (b : M Flo) (e : Sl) : sFor it t b e = (it e).bnd (forRun t b) := id rfl
def for2 (t : D → M Unit) (b : M Flo) (ds : List D) : Flo → Sl → Res Flo
  | .nx, e => forRun t b ds e
  | .ct, e => forRun t b ds e
  | .bk, e => .ok .nx e
  | .rt v, e => .ok (.rt v) e
@[simp] theorem v_for2n (t : D → M Unit) (b : M Flo) (ds : List D) (e : Sl) : for2 t b ds .nx e = forRun t b ds e := id rfl
@[simp] theorem v_for2c (t : D → M Unit) (b : M Flo) (ds : List D) (e : Sl) : for2 t b ds .ct e = forRun t b ds e := id rfl
@[simp] theorem v_for2b (t : D → M Unit) (b : M Flo) (ds : List D) (e : Sl) : for2 t b ds .bk e = .ok .nx e := id rfl
@[simp] theorem v_for2r (t : D → M Unit) (b : M Flo) (ds : List D) (v : RV) (e : Sl) : for2 t b ds (.rt v) e = .ok (.rt v) e := id rfl
def for1 (t : D → M Unit) (b : M Flo) (ds : List D) (_u : Unit) (e : Sl) : Res Flo := (b e).bnd (for2 t b ds)
@[simp] theorem v_for1 (t : D → M Unit) (b : M Flo) (ds : List D) (u : Unit) (e : Sl) : for1 t b ds u e = (b e).bnd (for2 t b ds) := id rfl
theorem v_forN (t : D → M Unit) (b : M Flo) (e : Sl) : forRun t b [] e = .ok .nx e := id rfl
theorem v_forC (t : D → M Unit) (b : M Flo) (d : D) (ds : List D) (e : Sl) : forRun t b (d :: ds) e = (noEx (t d e)).bnd (for1 t b ds) := by
  show (match t d e with
    | .ok _ e1 => (match b e1 with
      | .ok .nx e2 => forRun t b ds e2
      | .ok .ct e2 => forRun t b ds e2
      | .ok .bk e2 => .ok .nx e2
      | .ok (.rt v) e2 => .ok (.rt v) e2
      | .ex x e2 => .ex x e2
      | .bad => .bad)
    | _ => .bad) = _
  cases t d e with
  | bad => rfl
  | ex x e' => rfl
  | ok u e' =>
    show _ = (b e').bnd (for2 t b ds)
    dsimp only
    cases b e' with
    | bad => rfl
    | ex x e2 => rfl
    | ok fl e2 => cases fl <;> rfl
def lcC (e0 : Sl) (vs : List Nat) (acc : List D) (e : Sl) : Res RV := .ok (.own (.lst acc)) (unw e0 e vs)
@[simp] theorem v_lcC0 (e0 : Sl) (vs : List Nat) (acc : List D) (e : Sl) : lcC e0 vs acc e = .ok (.own (.lst acc)) (unw e0 e vs) := id rfl
def lcB (t : D → M Unit) (p : M Bool) (f : M RV) (vs : List Nat) (ds : List D) (e : Sl) : Res RV := gB (noOwn e vs) ((noEx (lcRun t p f vs ds [] (wip e vs))).bnd (lcC e vs))
@[simp] theorem v_lcB (t : D → M Unit) (p : M Bool) (f : M RV) (vs : List Nat) (ds : List D) (e : Sl) : lcB t p f vs ds e = gB (noOwn e vs) ((noEx (lcRun t p f vs ds [] (wip e vs))).bnd (lcC e vs)) := id rfl
@[simp] theorem v_eLc (it : M (List D)) (t : D → M Unit) (p : M Bool) (f : M RV) (vs : List Nat) (e : Sl) : eLc it t p f vs e = (it e).bnd (lcB t p f vs) := by
  unfold eLc M.bind
  cases it e with
  | bad => rfl
  | ex x e' => rfl
  | ok ds e' =>
    show _ = gB (noOwn e' vs) ((noEx (lcRun t p f vs ds [] (wip e' vs))).bnd (lcC e' vs))
    dsimp only
    rw [← gB_iff]
    cases noOwn e' vs with
    | false => rfl
    | true =>
      cases lcRun t p f vs ds [] (wip e' vs) <;> rfl
@[simp] theorem v_wipN (e : Sl) : wip e [] = e := id rfl
@[simp] theorem v_wipC (e : Sl) (v : Nat) (vs : List Nat) : wip e (v :: vs) = (wip e vs).set v .no := id rfl
@[simp] theorem v_unwN (e0 e : Sl) : unw e0 e [] = e := id rfl
def unwS (l : Sl) (v : Nat) : Option Slot → Sl
  | some s => l.set v s
  | none => l
@[simp] theorem v_unwS (l : Sl) (v : Nat) (s : Slot) : unwS l v (some s) = l.set v s := id rfl
@[simp] theorem v_unwC (e0 e : Sl) (v : Nat) (vs : List Nat) : unw e0 e (v :: vs) = unwS (unw e0 e vs) v e0[v]? := by
  show (match e0[v]? with
    | some s => (unw e0 e vs).set v s
    | none => unw e0 e vs) = _
  cases e0[v]? <;> rfl
@[simp] theorem v_noOwnN (e : Sl) : noOwn e [] = true := id rfl
def noOS : Option Slot → Bool
  | some (.own _ _) => false
  | _ => true
@[simp] theorem v_noOSv (d : D) : noOS (some (.val d)) = true := id rfl
@[simp] theorem v_noOSn : noOS (some .no) = true := id rfl
@[simp] theorem v_noOSo (f : Bool) (c : Cont) : noOS (some (.own f c)) = false := id rfl
@[simp] theorem v_noOwnC (e : Sl) (v : Nat) (vs : List Nat) : noOwn e (v :: vs) = (noOS e[v]? && noOwn e vs) := by
  show ((match e[v]? with
    | some (.own _ _) => false
    | _ => true) && noOwn e vs) = _
  cases e[v]? with
  | none => rfl
  | some s => cases s <;> rfl
@[simp] theorem v_tYes (e : Sl) : tYesD e = .ok true e := id rfl
theorem v_lcN (t : D → M Unit) (p : M Bool) (f : M RV) (vs : List Nat) (acc : List D) (e : Sl) : lcRun t p f vs [] acc e = .ok acc e := id rfl
/-- one turn of a comprehension whose parts come out -/
theorem lc_keep {t : D → M Unit} {p : M Bool} {f : M RV} {vs : List Nat} {d y : D} {r acc : List D} {e e1 e2 e3 : Sl} {u : Unit} (h1 : t d e = .ok u e1) (h2 : p e1 = .ok true e2) (h3 : M.bind f frz e2 = .ok y e3) (h4 : acc.length < sizeLine) :
    lcRun t p f vs (d :: r) acc e = lcRun t p f vs r (acc ++ [y]) (wip e3 vs) := by
  conv => lhs; unfold lcRun
  rw [h1]
  dsimp only
  rw [h2]
  dsimp only
  rw [h3]
  dsimp only
  rw [if_pos h4]
theorem lc_skip {t : D → M Unit} {p : M Bool} {f : M RV} {vs : List Nat} {d : D} {r acc : List D} {e e1 e2 : Sl} {u : Unit} (h1 : t d e = .ok u e1) (h2 : p e1 = .ok false e2) :
    lcRun t p f vs (d :: r) acc e = lcRun t p f vs r acc (wip e2 vs) := by
  conv => lhs; unfold lcRun
  rw [h1]
  dsimp only
  rw [h2]
/-- a comprehension that leaves the slots as they are -/
theorem lc_pure {t : D → M Unit} {p : M Bool} {f : M RV} {vs : List Nat} {e : Sl} (q : D → Bool) (g : D → D) : ∀ (ds acc : List D), acc.length + ds.length ≤ sizeLine →
    (∀ d ∈ ds, ∃ u e1 e2, t d e = .ok u e1 ∧ p e1 = .ok (q d) e2 ∧ (q d = false → wip e2 vs = e) ∧ (q d = true → ∃ e3, M.bind f frz e2 = .ok (g d) e3 ∧ wip e3 vs = e)) →
    lcRun t p f vs ds acc e = .ok (acc ++ (ds.filter q).map g) e
  | [], acc, _, _ => by
    rw [v_lcN, List.filter_nil, List.map_nil, List.append_nil]
  | d :: r, acc, hl, h => by
    obtain ⟨u, e1, e2, h1, h2, h3, h4⟩ := h d List.mem_cons_self
    have ih := fun acc hl => lc_pure (t := t) (p := p) (f := f) (vs := vs) (e := e) q g r acc hl fun d hd => h d (List.mem_cons_of_mem _ hd)
    rw [List.length_cons] at hl
    cases hq : q d with
    | false =>
      rw [hq] at h2
      rw [lc_skip h1 h2, h3 hq, ih acc (by omega), List.filter_cons_of_neg (by rw [hq]; exact Bool.false_ne_true)]
    | true =>
      rw [hq] at h2
      obtain ⟨e3, h5, h6⟩ := h4 hq
      rw [lc_keep h1 h2 h5 (by omega), h6, ih _ (by rw [List.length_append]; simp only [List.length_cons, List.length_nil]; omega), List.filter_cons_of_pos hq, List.map_cons, List.append_assoc]
      rfl
/-! calls -/
def fnX (args : Sl) : Res Flo → Res RV
  | .ok (.rt (.val d)) e => .ok (.val d) (outs args e)
  | .ok (.rt (.own c)) e => .ok (.own c) (outs args e)
  | .ok .nx e => .ok (.val .non) (outs args e)
  | .ex x e => .ex x (outs args e)
  | _ => .bad
@[simp] theorem v_fnXv (args : Sl) (d : D) (e : Sl) : fnX args (.ok (.rt (.val d)) e) = .ok (.val d) (outs args e) := id rfl
@[simp] theorem v_fnXo (args : Sl) (c : Cont) (e : Sl) : fnX args (.ok (.rt (.own c)) e) = .ok (.own c) (outs args e) := id rfl
@[simp] theorem v_fnXn (args : Sl) (e : Sl) : fnX args (.ok .nx e) = .ok (.val .non) (outs args e) := id rfl
@[simp] theorem v_fnXx (args : Sl) (x : Xn) (e : Sl) : fnX args (.ex x e) = .ex x (outs args e) := id rfl
@[simp] theorem v_fnXb (args : Sl) : fnX args .bad = .bad := id rfl
@[simp] theorem v_fnD (np n : Nat) (b : M Flo) (args : Sl) : fnD np n b args = gB (decide (args.length = np)) (fnX args (b (args ++ List.replicate (n - np) .no))) := by
  unfold fnD
  rw [← gB_if]
  split
  · cases b (args ++ List.replicate (n - np) .no) with
    | bad => rfl
    | ex x e => rfl
    | ok fl e => cases fl with
      | rt r => cases r <;> rfl
      | _ => rfl
  · rfl
@[simp] theorem v_outsO (f : Bool) (c : Cont) (r : Sl) (s : Slot) (t : Sl) : outs (.own f c :: r) (s :: t) = s :: outs r t := id rfl
@[simp] theorem v_outsV (d : D) (r : Sl) (s : Slot) (t : Sl) : outs (.val d :: r) (s :: t) = .val d :: outs r t := id rfl
@[simp] theorem v_outsN (t : Sl) : outs [] t = [] := by cases t <;> rfl
def callX (e : Sl) (rs : List RV) : Res RV → Res RV
  | .ok (.val d) sl' => .ok (.val d) (back e rs sl')
  | .ok (.own c) sl' => .ok (.own c) (back e rs sl')
  | .ex x sl' => .ex x (back e rs sl')
  | _ => .bad
@[simp] theorem v_callXv (e : Sl) (rs : List RV) (d : D) (sl : Sl) : callX e rs (.ok (.val d) sl) = .ok (.val d) (back e rs sl) := id rfl
@[simp] theorem v_callXo (e : Sl) (rs : List RV) (c : Cont) (sl : Sl) : callX e rs (.ok (.own c) sl) = .ok (.own c) (back e rs sl) := id rfl
@[simp] theorem v_callXx (e : Sl) (rs : List RV) (x : Xn) (sl : Sl) : callX e rs (.ex x sl) = .ex x (back e rs sl) := id rfl
def callS (fn : Fn) (rs : List RV) (e sl : Sl) : Res RV := callX e rs (fn sl)
@[simp] theorem v_callS (fn : Fn) (rs : List RV) (e sl : Sl) : callS fn rs e sl = callX e rs (fn sl) := id rfl
@[simp] theorem v_eCall (fn : Fn) (as : M (List RV)) (e : Sl) : eCall fn as e = (as e).bnd (callK fn) := id rfl
@[simp] theorem v_callK (fn : Fn) (rs : List RV) (e : Sl) : callK fn rs e = gB (pkOk rs) (oB (argSl e rs) (callS fn rs e)) := by
  unfold callK
  rw [← gB_iff]
  split
  · cases argSl e rs with
    | none => rfl
    | some sl =>
      show _ = callX e rs (fn sl)
      dsimp only
      cases fn sl with
      | bad => rfl
      | ex x s => rfl
      | ok r s => cases r <;> rfl
  · rfl
@[simp] theorem v_pkN : pkOk [] = true := id rfl
@[simp] theorem v_pkP (i : Nat) (rs : List RV) : pkOk (.pk i :: rs) = (!(pks rs).contains i && pkOk rs) := id rfl
@[simp] theorem v_pkV (d : D) (rs : List RV) : pkOk (.val d :: rs) = pkOk rs := id rfl
@[simp] theorem v_pksN : pks [] = [] := id rfl
@[simp] theorem v_pksP (i : Nat) (rs : List RV) : pks (.pk i :: rs) = i :: pks rs := id rfl
@[simp] theorem v_pksV (d : D) (rs : List RV) : pks (.val d :: rs) = pks rs := id rfl
@[simp] theorem v_argN (e : Sl) : argSl e [] = some [] := id rfl
@[simp] theorem v_argV (e : Sl) (d : D) (rs : List RV) : argSl e (.val d :: rs) = (argSl e rs).map (.val d :: ·) := id rfl
def argS (t : Option Sl) : Option Slot → Option Sl
  | some (.own _ c) => t.map (.own true c :: ·)
  | _ => none
@[simp] theorem v_argS (t : Option Sl) (f : Bool) (c : Cont) : argS t (some (.own f c)) = t.map (.own true c :: ·) := id rfl
@[simp] theorem v_argP (e : Sl) (i : Nat) (rs : List RV) : argSl e (.pk i :: rs) = argS (argSl e rs) e[i]? := by
  show (match e[i]? with
    | some (Slot.own _ c) => (argSl e rs).map (fun l => Slot.own true c :: l)
    | _ => none) = _
  cases e[i]? with
  | none => rfl
  | some s => cases s <;> rfl
@[simp] theorem v_backN (e sl : Sl) : back e [] sl = e := by unfold back; rfl
@[simp] theorem v_backP (e : Sl) (i : Nat) (rs : List RV) (f : Bool) (c : Cont) (sl : Sl) : back e (.pk i :: rs) (.own f c :: sl) = back (chg e i c) rs sl := id rfl
@[simp] theorem v_backV (e : Sl) (d : D) (rs : List RV) (s : Slot) (sl : Sl) : back e (.val d :: rs) (s :: sl) = back e rs sl := id rfl
def chgS (e : Sl) (i : Nat) (c : Cont) : Option Slot → Sl
  | some (.own f _) => e.set i (.own f c)
  | _ => e
@[simp] theorem v_chgS (e : Sl) (i : Nat) (c : Cont) (f : Bool) (c0 : Cont) : chgS e i c (some (.own f c0)) = e.set i (.own f c) := id rfl
@[simp] theorem v_chg (e : Sl) (i : Nat) (c : Cont) : chg e i c = chgS e i c e[i]? := by
  unfold chg
  cases e[i]? with
  | none => rfl
  | some s => cases s <;> rfl
def augB (k : D → D → M RV) (d : D) (i : Nat) (e : Sl) (d' : D) : Res Flo := (k d d' e).bnd (stor i)
@[simp] theorem v_augB (k : D → D → M RV) (d : D) (i : Nat) (e : Sl) (d' : D) : augB k d i e d' = (k d d' e).bnd (stor i) := id rfl
@[simp] theorem v_augK (k : D → D → M RV) (d : D) (i : Nat) (r : RV) (e : Sl) : augK k d i r e = oB (rdat e r) (augB k d i e) := by
  unfold augK
  cases rdat e r <;> rfl
def augS (f : M RV) (k : D → D → M RV) (i : Nat) (e : Sl) : Slot → Res Flo
  | .val d => (f e).bnd (augK k d i)
  | _ => .bad
@[simp] theorem v_augS (f : M RV) (k : D → D → M RV) (i : Nat) (e : Sl) (d : D) : augS f k i e (.val d) = (f e).bnd (augK k d i) := id rfl
@[simp] theorem v_augI (i : Nat) (f : M RV) (k : D → D → M RV) (e : Sl) : sAugI i f k e = oB e[i]? (augS f k i e) := by
  unfold sAugI
  cases e[i]? with
  | none => rfl
  | some s => cases s <;> rfl
@[simp] theorem v_kI2 (g : Int → Int → Option D) (i j : Int) (e : Sl) : kI2 g (.int i) (.int j) e = oB (g i j) (okV e) := by
  unfold kI2
  dsimp only
  cases g i j <;> rfl
/-! equality -/
theorem eq_int (i j : Int) : eqD (.int i) (.int j) = some (decide (i = j)) := by
  have s : ∀ k : Int, SeqAt.shaped (.int k) = true := fun k => rfl
  show (if SeqAt.shaped (.int i) = true ∧ SeqAt.shaped (.int j) = true then some (PyData.eqv (.int i) (.int j)) else none) = _
  rw [if_pos ⟨s i, s j⟩]
  show some (i == j) = _
  by_cases h : i = j
  · subst h; simp
  · simp [h]
theorem eq_in (i : Int) : eqD (.int i) .non = some false := rfl
theorem eq_ni (i : Int) : eqD .non (.int i) = some false := rfl
theorem eq_nn : eqD .non .non = some true := rfl
theorem eq_bl (i j : Bool) : eqD (.bl i) (.bl j) = some (i == j) := by cases i <;> cases j <;> rfl
def okB (e : Sl) (c : Bool) : Res RV := .ok (.val (.bl c)) e
@[simp] theorem v_okB (e : Sl) (c : Bool) : okB e c = .ok (.val (.bl c)) e := id rfl
@[simp] theorem v_eqK (a b : D) (e : Sl) : eqK a b e = oB (eqD a b) (okB e) := by
  unfold eqK kOB
  cases eqD a b <;> rfl
@[simp] theorem v_neK (a b : D) (e : Sl) : neK a b e = oB ((eqD a b).map not) (okB e) := by
  unfold neK kOB
  dsimp only
  cases eqD a b <;> rfl
@[simp] theorem v_inK (a b : D) (e : Sl) : inK a b e = oB (inL a b) (okB e) := by
  unfold inK kOB
  cases inL a b <;> rfl
@[simp] theorem v_ninK (a b : D) (e : Sl) : ninK a b e = oB ((inL a b).map not) (okB e) := by
  unfold ninK kOB
  dsimp only
  cases inL a b <;> rfl
theorem atI_ofNat {α : Type} (xs : List α) (j : Nat) : atI xs (j : Int) = xs[j]? := by
  cases h : xs[j]? with
  | some v => exact atI_nat h
  | none =>
    have hl := List.getElem?_eq_none_iff.mp h
    unfold atI ixN
    rw [if_pos (by omega), if_neg (by omega)]
    rfl
@[simp] theorem at0 {α : Type} (x : α) (r : List α) : atI (x :: r) 0 = some x := atI_ofNat _ 0
@[simp] theorem at1 {α : Type} (x y : α) (r : List α) : atI (x :: y :: r) 1 = some y := atI_ofNat _ 1
@[simp] theorem at2 {α : Type} (x y z : α) (r : List α) : atI (x :: y :: z :: r) 2 = some z := atI_ofNat _ 2
@[simp] theorem at3 {α : Type} (x y z w : α) (r : List α) : atI (x :: y :: z :: w :: r) 3 = some w := atI_ofNat _ 3
theorem small_line {n : Nat} (h : n ≤ 10000) : n < sizeLine := Nat.lt_of_le_of_lt h (by decide)
/-! new instances -/
def mkS (e : Sl) : Sl → Res RV
  | .own _ (.ins c' fs) :: _ => .ok (.own (.ins c' fs)) e
  | _ => .bad
@[simp] theorem v_mkS (e : Sl) (f : Bool) (c : Str) (fs : List (Str × D)) (r : Sl) : mkS e (.own f (.ins c fs) :: r) = .ok (.own (.ins c fs)) e := id rfl
def mkX (e : Sl) : Res RV → Res RV
  | .ok (.val .non) sl => mkS e sl
  | .ex x _ => .ex x e
  | _ => .bad
@[simp] theorem v_mkXn (e sl : Sl) : mkX e (.ok (.val .non) sl) = mkS e sl := id rfl
@[simp] theorem v_mkXx (e sl : Sl) (x : Xn) : mkX e (.ex x sl) = .ex x e := id rfl
def mk4 (fn : Fn) (c : Str) (nn mm : Nat) (g : List D → List D → List D) (ds : List D) (e : Sl) (dk : List D) : Res RV := gB (decide (ds.length = nn ∧ dk.length = mm)) (mkX e (fn (.own true (.ins c []) :: (g ds dk).map Slot.val)))
@[simp] theorem v_mk4 (fn : Fn) (c : Str) (nn mm : Nat) (g : List D → List D → List D) (ds : List D) (e : Sl) (dk : List D) : mk4 fn c nn mm g ds e dk = gB (decide (ds.length = nn ∧ dk.length = mm)) (mkX e (fn (.own true (.ins c []) :: (g ds dk).map Slot.val))) := id rfl
def mk3 (fn : Fn) (c : Str) (nn mm : Nat) (g : List D → List D → List D) (rk : List RV) (e : Sl) (ds : List D) : Res RV := oB (valsOf rk) (mk4 fn c nn mm g ds e)
@[simp] theorem v_mk3 (fn : Fn) (c : Str) (nn mm : Nat) (g : List D → List D → List D) (rk : List RV) (e : Sl) (ds : List D) : mk3 fn c nn mm g rk e ds = oB (valsOf rk) (mk4 fn c nn mm g ds e) := id rfl
@[simp] theorem v_mkK (fn : Fn) (c : Str) (nn mm : Nat) (g : List D → List D → List D) (rs rk : List RV) (e : Sl) : mkK fn c nn mm g rs rk e = oB (valsOf rs) (mk3 fn c nn mm g rk e) := by
  unfold mkK
  cases valsOf rs with
  | none => cases valsOf rk <;> rfl
  | some ds =>
    rw [oB_some]
    unfold mk3
    cases valsOf rk with
    | none => rfl
    | some dk =>
      rw [oB_some]
      unfold mk4
      rw [← gB_if]
      dsimp only
      congr 1
      generalize fn _ = r
      cases r with
      | bad => rfl
      | ex x s => rfl
      | ok v s => cases v with
        | own _ => rfl
        | pk _ => rfl
        | val d => cases d with
          | non => cases s with
            | nil => rfl
            | cons h t => cases h with
              | no => rfl
              | val _ => rfl
              | own f c => cases c <;> rfl
          | _ => rfl
def mk1 (fn : Fn) (c : Str) (nn mm : Nat) (g : List D → List D → List D) (ks : M (List RV)) (rs : List RV) (e : Sl) : Res RV := (ks e).bnd (mkK fn c nn mm g rs)
@[simp] theorem v_mk1 (fn : Fn) (c : Str) (nn mm : Nat) (g : List D → List D → List D) (ks : M (List RV)) (rs : List RV) (e : Sl) : mk1 fn c nn mm g ks rs e = (ks e).bnd (mkK fn c nn mm g rs) := id rfl
@[simp] theorem v_eMake (fn : Fn) (c : Str) (nn mm : Nat) (g : List D → List D → List D) (as ks : M (List RV)) (e : Sl) : eMake fn c nn mm g as ks e = (as e).bnd (mk1 fn c nn mm g ks) := by kernel_rfl
def fsS (i : Nat) (c n : Str) (d : D) (e : Sl) : Slot → Res Flo
  | .own fx (.ins c' fs) => gB (decide (c' = c ∧ fs.length < 1000)) (.ok .nx (e.set i (.own fx (.ins c' (putD n d fs)))))
  | _ => .bad
@[simp] theorem v_fsS (i : Nat) (c n : Str) (d : D) (e : Sl) (fx : Bool) (c' : Str) (fs : List (Str × D)) : fsS i c n d e (.own fx (.ins c' fs)) = gB (decide (c' = c ∧ fs.length < 1000)) (.ok .nx (e.set i (.own fx (.ins c' (putD n d fs))))) := id rfl
def fs2 (i : Nat) (c n : Str) (d : D) (e : Sl) : Res Flo := oB e[i]? (fsS i c n d e)
@[simp] theorem v_fs2 (i : Nat) (c n : Str) (d : D) (e : Sl) : fs2 i c n d e = oB e[i]? (fsS i c n d e) := id rfl
def fs1 (i : Nat) (c n : Str) (r : RV) (e : Sl) : Res Flo := (frz r e).bnd (fs2 i c n)
@[simp] theorem v_fs1 (i : Nat) (c n : Str) (r : RV) (e : Sl) : fs1 i c n r e = (frz r e).bnd (fs2 i c n) := id rfl
@[simp] theorem v_sFldSet (i : Nat) (c n : Str) (f : M RV) (e : Sl) : sFldSet i c n f e = (f e).bnd (fs1 i c n) := by
  unfold sFldSet
  rw [v_bind]
  cases f e with
  | bad => rfl
  | ex x e' => rfl
  | ok r e' =>
    rw [bnd_ok, bnd_ok, v_bind, v_fs1]
    cases frz r e' with
    | bad => rfl
    | ex x e' => rfl
    | ok d e2 =>
      rw [bnd_ok, bnd_ok, v_fs2]
      cases e2[i]? with
      | none => rfl
      | some s => cases s with
        | no => rfl
        | val _ => rfl
        | own f c => cases c with
          | lst _ => rfl
          | dK _ => rfl
          | dT _ => rfl
          | ins c' fs => exact gB_if _ _
@[simp] theorem v_isiCi (c : Str) (fs : List (Str × D)) (e : Sl) : isiC c (.ins c fs) e = .ok (.val (.bl true)) e := by
  unfold isiC
  dsimp only
  rw [if_pos rfl]
def wh2 (p : M Bool) (b : M Flo) (n : Nat) : Flo → Sl → Res Flo
  | .nx, e => whRun p b n e
  | .ct, e => whRun p b n e
  | .bk, e => .ok .nx e
  | .rt v, e => .ok (.rt v) e
@[simp] theorem v_wh2n (p : M Bool) (b : M Flo) (n : Nat) (e : Sl) : wh2 p b n .nx e = whRun p b n e := id rfl
@[simp] theorem v_wh2c (p : M Bool) (b : M Flo) (n : Nat) (e : Sl) : wh2 p b n .ct e = whRun p b n e := id rfl
@[simp] theorem v_wh2b (p : M Bool) (b : M Flo) (n : Nat) (e : Sl) : wh2 p b n .bk e = .ok .nx e := id rfl
@[simp] theorem v_wh2r (p : M Bool) (b : M Flo) (n : Nat) (v : RV) (e : Sl) : wh2 p b n (.rt v) e = .ok (.rt v) e := id rfl
def wh1 (p : M Bool) (b : M Flo) (n : Nat) (c : Bool) (e : Sl) : Res Flo := match c with
  | true => (b e).bnd (wh2 p b n)
  | false => .ok .nx e
@[simp] theorem v_wh1t (p : M Bool) (b : M Flo) (n : Nat) (e : Sl) : wh1 p b n true e = (b e).bnd (wh2 p b n) := id rfl
@[simp] theorem v_wh1f (p : M Bool) (b : M Flo) (n : Nat) (e : Sl) : wh1 p b n false e = .ok .nx e := id rfl
theorem v_wh (p : M Bool) (b : M Flo) (n : Nat) (e : Sl) : whRun p b (n + 1) e = (p e).bnd (wh1 p b n) := by
  conv => lhs; unfold whRun
  cases p e with
  | bad => rfl
  | ex x e' => rfl
  | ok c e' => cases c with
    | false => rfl
    | true =>
      rw [bnd_ok, v_wh1t]
      dsimp only
      cases b e' with
      | bad => rfl
      | ex x e' => rfl
      | ok f e' => cases f <;> rfl
@[simp] theorem v_tTupL (n : Nat) (t : List D → M Unit) (ds : List D) (e : Sl) : tTupL n t (.lst ds) e = gB (decide (ds.length = n)) (t ds e) := gB_if _ _
@[simp] theorem v_repK (b : Bool) (e : Sl) : repK (.bl b) e = .ok (.val (.str (repS b))) e := id rfl
theorem eq_rep (a b : Bool) : eqD (.str (repS a)) (.str (repS b)) = some (a == b) := by
  cases a <;> cases b <;> decide +kernel
end Y

set_option Elab.async false
set_option linter.all false
set_option maxRecDepth 100000
set_option maxHeartbeats 4000000
namespace Y
open PySem PySem.Spec PySem.W L2
set_option autoImplicit false
variable [TB]
/-! ### == by a class's own __eq__ -/
def ownEqK (c : Str) (fn : Fn) : D → D → M RV := fun d d' e => match d with
  | .ins c' fs => if c' = c then (match d' with
    | .non => (match fn [.val (.ins c' fs), .val d'] with
      | .ok (.val (.bl b)) _ => .ok (.val (.bl b)) e
      | _ => .bad)
    | .tup _ => (match fn [.val (.ins c' fs), .val d'] with
      | .ok (.val (.bl b)) _ => .ok (.val (.bl b)) e
      | _ => .bad)
    | .ins c2 _ => if c2 = c then (match fn [.val (.ins c' fs), .val d'] with
      | .ok (.val (.bl b)) _ => .ok (.val (.bl b)) e
      | _ => .bad) else .bad
    | _ => .bad) else .bad
  | _ => .bad
/-- all but the tables stay -/
structure SmT (H H' : Hp) : Prop where
  kp : ∀ b o, H b = some o → NoTbl o → H' b = some o
  tb : TabOk H'
  dm : ∀ b, H' b = none → H b = none
/-- what == with an own __eq__ wants, and gives -/
def rOwnEq (K : PySem.W.Frag) (mg : Mg) (C : Addr) (fn : Fn) : R2 := fun x y H Q => ∃ a dx gs d d', x = .ref a ∧ H a = some (.ins C dx gs) ∧ Rep K mg H x d ∧ Rep K mg H y d' ∧
  (d' = .non ∨ (∃ ds, d' = .tup ds) ∨ ∃ b dy hs, y = .ref b ∧ H b = some (.ins C dy hs)) ∧ TabOk H ∧ ∃ b sl, fn [.val d, .val d'] = .ok (.val (.bl b)) sl ∧ ∀ H', SmT H H' → Q (.bl b) H'
theorem Rel.ext {K : PySem.W.Frag} {mg : Mg} {F H H' : Hp} {e : Sl} {σ : St} (R : Rel K mg F e σ H) (s : SmT H H') : Rel K mg F e σ H' where
  sub := fun b o q => s.kp b o (R.sub b o q) (R.ftb b o q)
  len := R.len
  ok := fun i sl o h1 h2 => by
    have := R.ok i sl o h1 h2
    cases sl with
    | no => trivial
    | val d => exact this
    | own f c =>
      obtain ⟨a, h, e1, e2, e3, e4⟩ := this
      exact ⟨a, h, e1, e2, s.kp _ _ e3 e4.notbl, e4⟩
  inj := R.inj
  tab := s.tb
  ftb := R.ftb
theorem Stp.ext {K : PySem.W.Frag} {mg : Mg} {F H H' : Hp} {e : Sl} {σ : St} (R : Rel K mg F e σ H) (s : SmT H H') : Stp F H e σ F H' e σ where
  fro := Same.refl _
  kept := fun b o h _ m => s.kp b o h m
  dom := s.dm
  newF := fun _ h h' => absurd h h'
  newO := fun _ h => .inr h
  fix := fun i c h => ⟨⟨c, h⟩, rfl⟩
  len := rfl
theorem k2_ownEq {K : PySem.W.Frag} {mg : Mg} {W : WX} {c : Str} {C : Addr} {fn : Fn} (hC : mg c = some (.ref C)) : K2 K mg W (rOwnEq K mg C fn) (ownEqK c fn) := by
  intro F H e σ x y d d' Q R rx ry h
  have px := rx.rep R.sub
  have py := ry.rep R.sub
  have fin : ∀ (b : Bool), post K mg W (rV K mg) F H e σ (.ok (.val (.bl b)) e) Q → ∀ H', SmT H H' → Q (.bl b) H' := fun b h H' s => h _ F H' (Stp.ext R s) (R.ext s) (.bl b)
  unfold ownEqK at h
  split at h
  · rename_i c' fs
    split at h
    · rename_i hc
      subst hc
      obtain ⟨a, C', dx, gs, rfl, m, q, p⟩ := rx
      rw [hC] at m
      cases m
      split at h
      · split at h
        · rename_i b sl w
          exact ⟨a, dx, gs, _, _, rfl, q, px, py, .inl rfl, R.tab, b, sl, w, fin b h⟩
        · exact h.elim
      · split at h
        · rename_i b sl w
          exact ⟨a, dx, gs, _, _, rfl, q, px, py, .inr (.inl ⟨_, rfl⟩), R.tab, b, sl, w, fin b h⟩
        · exact h.elim
      · rename_i c2 fs2
        split at h
        · rename_i hc
          subst hc
          split at h
          · rename_i b sl w
            obtain ⟨a2, C2, dx2, gs2, rfl, m, q2, p2⟩ := ry
            rw [hC] at m
            cases m
            exact ⟨a, dx, gs, _, _, rfl, q, px, py, .inr (.inr ⟨a2, dx2, gs2, rfl, q2⟩), R.tab, b, sl, w, fin b h⟩
          · exact h.elim
        · exact h.elim
      · exact h.elim
    · exact h.elim
  · exact h.elim
/-- a class whose own __eq__ stands at f -/
structure EqF (K : PySem.W.Frag) (C f : Addr) : Prop where
  hs : PySem.W.findIn K (.ref C) "__eq__" = some (some (.ref f))
  hf : PySem.W.isFn K (.ref f) = true
  n0 : PySem.W.subIn K (.type "NoneType") (.ref C) = some false
  n5 : PySem.W.subIn K (.type "tuple") (.ref C) = some false
section
variable {X : Cx} {W : WX} {C f : Addr} {fd : FuncData} {ps : List Str} {k : Nat} {fn : Fn}
theorem rel_two {K : PySem.W.Frag} {mg : Mg} {H : Hp} {x y : V} {d d' : D} (p : Rep K mg H x d) (q : Rep K mg H y d') (t : TabOk H) : Rel K mg (strip H) [.val d, .val d'] ([x, y].map some) H where
  tab := t
  ftb := fun b o h => (strip_some h).2
  sub := strip_same H
  len := rfl
  ok := fun i s o h1 h2 => by
    match i, h1, h2 with
    | 0, h1, h2 => cases h1; cases h2; exact ⟨_, rfl, p.strip⟩
    | 1, h1, h2 => cases h1; cases h2; exact ⟨_, rfl, q.strip⟩
    | i + 2, h1, h2 => cases h1
  inj := fun i j f g c d a h1 h2 h3 h4 => by
    match i, h1 with
    | 0, h1 => cases h1
    | 1, h1 => cases h1
    | i + 2, h1 => cases h1
theorem own_run {pins : List (Addr × Obj)} {s : Shared} {σ : St} {H : Hp} {a : Addr} {y : V} {u : Value} {d d' : D} {b : Bool} {sl : Sl} {A : Around} (tk : Takes X W) (G : FnOk X.prog X.w X.K X.mg X.base (L2.CX X.prog X.w) k f fd ps (cSp X.K X.mg fn)) (hb : BA fd ps) (hr : Room k A) (hA : A.frames = X.A.frames)
    (I : Inv X pins σ H s) (ry : RelV y u) (p : Rep X.K X.mg H (.ref a) d) (q : Rep X.K X.mg H y d') (w : fn [.val d, .val d'] = .ok (.val (.bl b)) sl) (tH : TabOk H) :
    wpAny (model X.prog X.w) A (call (.ref f) [.ref a, u]) (fun v s' => v = .bool b ∧ ∃ H', Inv X pins σ H' s' ∧ SmT H H') X.xe s := by
  have hsp : cSp X.K X.mg fn [.ref a, y] H (fun v H' => v = .bl b ∧ SmT H H') (fun _ _ _ => False) := by
    refine ⟨[.val d, .val d'], strip H, rel_two p q tH, rfl, ?_⟩
    rw [w]
    intro v F' H' st R' rv
    cases rv
    exact ⟨rfl, ⟨fun b o h n => R'.sub b o (st.fro b o (strip_of h n)), R'.tab, st.dom⟩⟩
  have hl := G.len _ _ _ _ hsp
  have r2 : Vals [V.ref a, y] [Value.ref a, u] := .cons rfl (.cons ry .nil)
  have e0 : Env0 X.prog X.w X.K X.mg X.base A X.stack s H := by
    have e := I.env0
    exact ⟨hA.trans e.frames, e.mod, e.bs, e.bsz, e.funs, e.frf, e.hok, e.bare⟩
  refine wpAny_call (codeAny_mono (G.run A X.stack s H ⟨[.ref a, u], []⟩ [.ref a, u] [.ref a, y] _ _ hr e0 (by
    exact BindsTo.of_looks fun M => Looks.of_pure (hb [.ref a, u] (by simpa using hl))) r2 hsp) fun r s' hq => ?_)
  cases r with
  | error e => exact passes_call tk (fun _ _ _ _ z => z.elim) pins σ H s e s' I hq
  | ok fl =>
    cases fl with
    | ret w =>
      obtain ⟨z, H', I', rz, ez, ex⟩ := I.after hq
      subst ez
      cases rz
      exact ⟨rfl, H', I', ex⟩
    | next => exact False.elim hq
    | brk => exact False.elim hq
    | cont => exact False.elim hq
theorem own_ty {pins : List (Addr × Obj)} {s : Shared} {σ : St} {H : Hp} {y : V} {u : Value} {d' : D} (E : EqF X.K C f) (I : Inv X pins σ H s) (ry : RelV y u) (q : Rep X.K X.mg H y d') (hy : d' = .non ∨ (∃ ds, d' = .tup ds) ∨ ∃ b dy hs, y = .ref b ∧ H b = some (.ins C dy hs)) :
    ∃ tb, Looks (model X.prog X.w) s.heap (typeOf u) tb ∧ PySem.W.notFirst X.K C tb = true := by
  rcases hy with rfl | ⟨ds, rfl⟩ | ⟨b, dy, hs, rfl, hb⟩
  · cases q
    cases ry
    exact ⟨.type "NoneType", .of_pure rfl, by unfold PySem.W.notFirst; rw [E.n0]; simp⟩
  · cases q with
    | tup q r =>
      cases ry
      obtain ⟨its, r, e, z⟩ := I.tuple q
      obtain ⟨o, ho, hc, _⟩ := e
      refine ⟨.type "tuple", ?_, by unfold PySem.W.notFirst; rw [E.n5]; simp⟩
      rw [← hc]
      exact (Looks.ld (part := none) ho).andThen .now
  · cases ry
    obtain ⟨mB, J', _⟩ := ins_get I.hok hb
    obtain ⟨od', J', _⟩ := J'.look
    exact ⟨.ref C, J'.type, by simp [PySem.W.notFirst]⟩
theorem op_ownEq (tk : Takes X W) (G : FnOk X.prog X.w X.K X.mg X.base (L2.CX X.prog X.w) k f fd ps (cSp X.K X.mg fn)) (E : EqF X.K C f) (hb : BA fd ps) (hr : Room k X.A) : OpR X (compareOp .Eq) (rOwnEq X.K X.mg C fn) := by
  intro pins s σ H x y v u Q I rx ry h
  obtain ⟨a, dx, gs, d, d', rfl, ha, p, q, hy, tH, b, sl, w, hQ⟩ := h
  cases rx
  obtain ⟨mA, J, _⟩ := ins_get I.hok ha
  obtain ⟨od, J, _⟩ := J.look
  obtain ⟨m, hF⟩ := I.fr
  obtain ⟨tb, ht, hn⟩ := own_ty E I ry q hy
  show wpAny (model X.prog X.w) X.A (richCompare .Eq (.ref a) u) (EP X pins σ Q) X.xe s
  refine PySem.W.cmp_K (op := .Eq) hr.units0 hF I.ok.mod.kin J ht hn E.hs E.hf (wpAny_mono (own_run tk G hb hr rfl I ry p q w tH) (fun v s' z => ?_) fun _ _ z => z)
  obtain ⟨rfl, H', I', sm⟩ := z
  exact ⟨.bl b, H', I', rfl, hQ H' sm⟩
end
section
variable {prog : Program} {w : World} {A : Around} {E : Value → Shared → Prop} {s : Shared} {K : PySem.W.Frag} {x C L f : Addr} {h₀ : Heap} {m : Str → Option Value} {ox : Obj} {od : Option Obj} {b tb : Value}
/-- a special that a builtin gives -/
theorem ifBound_B {M : Model} {id : String} {name : Str} {T : String} {args : List Value} {Q : Option Value → Shared → Prop} (X : K.In s.heap) (I : InstAt s.heap x ox C od) (hs : findIn K (.ref C) name = some (some (.builtin id))) (S : PySem.Slot T name id)
    (h : wpAny M A (call (.builtin id) (.ref x :: args)) (fun v => Q (some v)) E s) : wpAny M A (callSpecialIfBound? (.ref x) name args) Q E s := by
  simp only [callSpecialIfBound?, bindSpecialIfBound?]
  refine wpAny_holding (wpAny_bind (wpAny_bind (wpAny_bind (I.type.here ((looks_findIn X hs).here ?_)))))
  simp only [S.bind]
  refine wpAny_bind (wpAny_askSetting (wpAny_ite ?_))
  have last : wpAny M A (call (.builtin id) ([.ref x] ++ args) >>= fun v => pure (some v)) Q E s := wpAny_bind (wpAny_mono h (fun v s' z => wpAny_pure z) fun _ _ z => z)
  split
  · exact wpAny_bind (wpAny_pure (wpAny_pure last))
  · exact wpAny_tryCatch (wpAny_bind (wpAny_pure (wpAny_pure last)))
theorem objNe_in {Q : Fin → Shared → Prop} (X : K.In s.heap) (I : InstAt s.heap x ox C od) (hs : findIn K (.ref C) "__eq__" = some (some (.ref f))) (hf : isFn K (.ref f) = true) (hu : A.units < cLine)
    (h : wpAny (model prog w) A (call (.ref f) [.ref x, b]) (fun v s' => ∃ c, v = .bool c ∧ Q (.done (.ret (.bool (!c)))) s') E s) : wpAny (model prog w) A (Builtin.«object.__ne__» ⟨[.ref x, b], []⟩) Q E s := by
  obtain ⟨hp, g, dr, t, os⟩ := s
  unfold Builtin.«object.__ne__»
  repeat (first
    | with_reducible refine wpAny_cRoomFor hu ?_
    | (refine wpAny_bind (m := callSpecialIfBound? (.ref x) (Str.ofString "__eq__") [b]) (ifBound_K X I hs hf (wpAny_mono h (fun r s' hr => by
          obtain ⟨c, rfl, hq⟩ := hr
          repeat (first | exact hq | exact wpAny_pure hq | exact wpAny_truthy_bool hq | (refine wpAny_bind (m := truthy (.bool _)) (wpAny_truthy_bool ?_)) | wp_step)) fun _ _ z => z)))
    | wp_step)
theorem ne_own {oy : Obj} {y : Addr} {od' : Option Obj} {Q : Value → Shared → Prop} (hu : A.units + 1 < cLine) (X : K.In s.heap) (I : InstAt s.heap x ox C od) (I' : InstAt s.heap y oy C od') (hn : findIn K (.ref C) "__ne__" = some (some (.builtin "object.__ne__"))) (hm : mroIn K C (.type "object") = some true)
    (hs : findIn K (.ref C) "__eq__" = some (some (.ref f))) (hf : isFn K (.ref f) = true)
    (h : wpAny (model prog w) A.in1 (call (.ref f) [.ref x, .ref y]) (fun v s' => ∃ c, v = .bool c ∧ Q (.bool (!c)) s') E s) : wpAny (model prog w) A (richCompare .NotEq (.ref x) (.ref y)) Q E s := by
  have one : wpAny (model prog w) A (tryCompare (.ref x) (cmpInfo .NotEq).2.1 (.ref y)) (fun r s' => ∃ v, r = some v ∧ Q v s') E s := by
    unfold tryCompare
    refine wpAny_bind (ifBound_B (id := "object.__ne__") (T := "object") X I hn PySem.F.cmp_object.ne (wpAny_call (codeAny_call_builtin PySem.F.cmp_object.ne.plain PySem.F.cmpEntry_ne
      (check_slot (i := "object.__ne__") (owner := "object") (n := "__ne__") PySem.F.cmpKind_ne PySem.F.cmpSplit_ne (I.type.andThen (looks_mroIn X hm)) (PySem.F.cmpArgs_ne _ _) (objNe_in (A := A.in1) X I hs hf hu (wpAny_mono h (fun v s' z => ?_) fun _ _ z => z))))))
    obtain ⟨c, rfl, hq⟩ := z
    exact ⟨c, rfl, wpAny_pure ⟨_, rfl, hq⟩⟩
  unfold richCompare
  simp only [oneThing_ref]
  refine wpAny_holding (wpAny_bind (wpAny_cRoomFor (Nat.lt_of_succ_lt hu) ?_))
  refine wpAny_bind (I.type.here (wpAny_bind (I'.type.here ?_)))
  rw [show (Value.ref C != Value.ref C) = false by simp]
  simp only [Bool.false_eq_true, if_false]
  refine wpAny_bind (wpAny_pure ?_)
  simp only [Bool.false_eq_true, if_false]
  refine wpAny_bind (wpAny_mono one (fun r s' z => ?_) fun _ _ z => z)
  obtain ⟨v, rfl, hq⟩ := z
  exact wpAny_pure hq
end
def ownNeK (c : Str) (fn : Fn) : D → D → M RV := fun d d' e => match d, d' with
  | .ins c' fs, .ins c2 gs => if c' = c ∧ c2 = c then (match fn [.val (.ins c' fs), .val (.ins c2 gs)] with
      | .ok (.val (.bl b)) _ => .ok (.val (.bl (!b))) e
      | _ => .bad) else .bad
  | _, _ => .bad
def rOwnNe (K : PySem.W.Frag) (mg : Mg) (C : Addr) (fn : Fn) : R2 := fun x y H Q => ∃ a dx gs a2 dx2 gs2 d d', x = .ref a ∧ H a = some (.ins C dx gs) ∧ y = .ref a2 ∧ H a2 = some (.ins C dx2 gs2) ∧ Rep K mg H x d ∧ Rep K mg H y d' ∧
  TabOk H ∧ ∃ b sl, fn [.val d, .val d'] = .ok (.val (.bl b)) sl ∧ ∀ H', SmT H H' → Q (.bl (!b)) H'
theorem k2_ownNe {K : PySem.W.Frag} {mg : Mg} {W : WX} {c : Str} {C : Addr} {fn : Fn} (hC : mg c = some (.ref C)) : K2 K mg W (rOwnNe K mg C fn) (ownNeK c fn) := by
  intro F H e σ x y d d' Q R rx ry h
  have px := rx.rep R.sub
  have py := ry.rep R.sub
  unfold ownNeK at h
  split at h
  · rename_i c' fs c2 fs2
    split at h
    · rename_i hc
      obtain ⟨rfl, rfl⟩ := hc
      obtain ⟨a, C', dx, gs, rfl, m, q, p⟩ := rx
      rw [hC] at m
      cases m
      obtain ⟨a2, C2, dx2, gs2, rfl, m, q2, p2⟩ := ry
      rw [hC] at m
      cases m
      split at h
      · rename_i b sl w
        exact ⟨a, dx, gs, a2, dx2, gs2, _, _, rfl, q, rfl, q2, px, py, R.tab, b, sl, w, fun H' s => h _ F H' (Stp.ext R s) (R.ext s) (.bl _)⟩
      · exact h.elim
    · exact h.elim
  · exact h.elim
structure NeF (K : PySem.W.Frag) (C : Addr) : Prop where
  hn : PySem.W.findIn K (.ref C) "__ne__" = some (some (.builtin "object.__ne__"))
  hm : PySem.W.mroIn K C (.type "object") = some true
section
variable {X : Cx} {W : WX} {C f : Addr} {fd : FuncData} {ps : List Str} {k : Nat} {fn : Fn}
theorem op_ownNe (tk : Takes X W) (G : FnOk X.prog X.w X.K X.mg X.base (L2.CX X.prog X.w) k f fd ps (cSp X.K X.mg fn)) (E : EqF X.K C f) (N : NeF X.K C) (hb : BA fd ps) (hr : Room (k + 1) X.A) : OpR X (compareOp .NotEq) (rOwnNe X.K X.mg C fn) := by
  intro pins s σ H x y v u Q I rx ry h
  obtain ⟨a, dx, gs, a2, dx2, gs2, d, d', rfl, ha, rfl, ha2, p, q, tH, b, sl, w, hQ⟩ := h
  cases rx
  cases ry
  obtain ⟨mA, J, _⟩ := ins_get I.hok ha
  obtain ⟨od, J, _⟩ := J.look
  obtain ⟨mB, J', _⟩ := ins_get I.hok ha2
  obtain ⟨od', J', _⟩ := J'.look
  show wpAny (model X.prog X.w) X.A (richCompare .NotEq (.ref a) (.ref a2)) (EP X pins σ Q) X.xe s
  refine ne_own (by have := hr.un; omega) I.kIn J J' N.hn N.hm E.hs E.hf (wpAny_mono (own_run (A := X.A.in1) (y := .ref a2) tk G hb hr.in1 rfl I (show RelV (.ref a2) (.ref a2) from rfl) p q w tH) (fun v s' z => ?_) fun _ _ z => z)
  obtain ⟨rfl, H', I', sm⟩ := z
  exact ⟨b, rfl, .bl (!b), H', I', rfl, hQ H' sm⟩
variable {a b : Expr} {g h : M RV} {pos : Pos} {c : Str}
/-- a class's own == by name -/
def EqOk (P : Program) (w : World) (K : PySem.W.Frag) (mg : Mg) (c : Str) (k : Nat) (ps : List Str) (fn : Fn) : Prop :=
  ∃ C f fd, mg c = some (.ref C) ∧ EqF K C f ∧ NeF K C ∧ (∀ base, BaseOk mg base → FnOk P w K mg base (L2.CX P w) k f fd ps (cSp K mg fn)) ∧ BA fd ps
theorem de_ownEq (O : EqOk X.prog X.w X.K X.mg c k ps fn) (hB : BaseOk X.mg X.base) (hr : Room k X.A) (tk : Takes X W) (ha : DE X W a g) (hb : DE X W b h) : DE X W (.Compare a [.Eq] [b] pos) (rd2 g h (ownEqK c fn)) := by
  obtain ⟨C, f, fd, m, E, N, G, B⟩ := O
  exact de_cmp (op_ownEq tk (G X.base hB) E B hr) (k2_ownEq m) ha hb (nomark _)
theorem dt_ownEq (O : EqOk X.prog X.w X.K X.mg c k ps fn) (hB : BaseOk X.mg X.base) (hr : Room k X.A) (tk : Takes X W) (ha : DE X W a g) (hb : DE X W b h) : DT X W (.Compare a [.Eq] [b] pos) (asB (rd2 g h (ownEqK c fn))) := by
  obtain ⟨C, f, fd, m, E, N, G, B⟩ := O
  exact dt_cmp (op_ownEq tk (G X.base hB) E B hr) (k2_ownEq m) ha hb (nomark _)
theorem dt_ownNe (O : EqOk X.prog X.w X.K X.mg c k ps fn) (hB : BaseOk X.mg X.base) (hr : Room (k + 1) X.A) (tk : Takes X W) (ha : DE X W a g) (hb : DE X W b h) : DT X W (.Compare a [.NotEq] [b] pos) (asB (rd2 g h (ownNeK c fn))) := by
  obtain ⟨C, f, fd, m, E, N, G, B⟩ := O
  exact dt_cmp (op_ownNe tk (G X.base hB) E N B hr) (k2_ownNe m) ha hb (nomark _)
end
/-! ### a fresh list times an int; a tuple times an int -/
def eRepL (f g : M RV) : M RV := M.bind f fun r => M.bind g fun r' => fun e => match r, rdat e r' with
  | .own (.lst xs), some (.int k) => if -(2 ^ 63) ≤ k ∧ k < 2 ^ 63 ∧ xs.length * k.toNat ≤ sizeLine then .ok (.own (.lst (List.replicate k.toNat xs).flatten)) e else .bad
  | _, _ => .bad
def repT : D → D → M RV
  | .tup xs, .int k => fun e => if xs ≠ [] ∧ 2 ≤ k ∧ k ≤ 1000 ∧ xs.length ≤ 1000 then .ok (.val (.tup (List.replicate k.toNat xs).flatten)) e else .bad
  | _, _ => M.bad
theorem reps_app {K : PySem.W.Frag} {mg : Mg} {F : Hp} : ∀ {vs ws : List V} {ds es : List D}, Reps K mg F vs ds → Reps K mg F ws es → Reps K mg F (vs ++ ws) (ds ++ es)
  | _, _, _, _, .nil, h => h
  | _, _, _, _, .cons a b, h => .cons a (reps_app b h)
theorem reps_rep {K : PySem.W.Frag} {mg : Mg} {F : Hp} {vs : List V} {ds : List D} (r : Reps K mg F vs ds) : ∀ n, Reps K mg F (List.replicate n vs).flatten (List.replicate n ds).flatten
  | 0 => .nil
  | n + 1 => by
    rw [List.replicate_succ, List.replicate_succ, List.flatten_cons, List.flatten_cons]
    exact reps_app r (reps_rep r n)
section
variable {X : Cx} {W : WX} {a b : Expr} {f g : M RV} {pos : Pos} {K : PySem.W.Frag} {mg : Mg} {σ : St} {H : Hp} {Q : VK}
theorem eRepL_ok (h : cE K mg W (eRepL f g) σ H Q) : cE K mg W f σ H fun x H1 => cE K mg W g σ H1 fun y H2 => rRep x y H2 Q := by
  obtain ⟨e, F, R, h⟩ := h
  refine ⟨e, F, R, post_imp (post_seq up_V h) ?_⟩
  rintro x H1 ⟨r1, e1, F1, q1, R1, s1, h1⟩
  refine ⟨e1, F1, R1, post_imp (post_seq up_V h1) ?_⟩
  rintro y H2 ⟨r2, e2, F2, q2, R2, s2, h2⟩
  have q1 := q1.step s2
  cases r1 with
  | val _ => exact h2.elim
  | pk _ => exact h2.elim
  | own c => cases c with
    | ins _ _ => exact h2.elim
    | dK _ => exact h2.elim
    | dT _ => exact h2.elim
    | lst xs =>
      cases w : rdat e2 r2 with
      | none => rw [w] at h2; exact h2.elim
      | some d => cases d with
        | int k =>
          rw [w] at h2
          dsimp only at h2
          split at h2
          · rename_i hk
            have ry := R2.rd q2 w
            cases ry
            obtain ⟨a, o, rfl, hF, hH, hc, _⟩ := q1
            obtain ⟨vs, rfl, r⟩ := hc
            exact ⟨a, k, vs, rfl, rfl, hH, hk.1, hk.2.1, by rw [r.length]; exact hk.2.2, fun p hp => post_newL R2 h2 (reps_rep r _) hp⟩
          · exact h2.elim
        | _ => rw [w] at h2; exact h2.elim
theorem de_repL (ha : DE X W a f) (hb : DE X W b g) : DE X W (.BinOp a .Mult b pos) (eRepL f g) := peW (pe_op op_rep ha hb) fun σ H Q h => eRepL_ok h
theorem k2_repT : K2 K mg W (rRepT K) repT := by
  intro F H e σ x y d d' Q R rx ry h
  unfold repT at h
  split at h
  · split at h
    · rename_i xs k hk
      cases ry
      obtain ⟨a, vs, rfl, q, r⟩ := rx
      exact ⟨a, k, vs, rfl, rfl, sqT_mono R.sub q, fun z => hk.1 (by rw [z] at r; cases r; rfl), hk.2.1, hk.2.2.1, by rw [r.length]; exact hk.2.2.2, fun p hp => post_newT R h (reps_rep r _) hp⟩
    · exact h.elim
  · exact h.elim
theorem de_repT (ha : DE X W a f) (hb : DE X W b g) : DE X W (.BinOp a .Mult b pos) (rd2 f g repT) := de_bin op_repT k2_repT ha hb
end
/-! ### C(k = v, ..), by keywords alone -/
section
variable {X : Cx} {W : WX} {ks : M (List RV)} {fn : Fn} {pos p : Pos} {k : Nat} {ps nms : List Str} {c : Str} {kws : List Keyword} {gD : List D → List D → List D}
theorem de_makeN0 (G : MakeOk X.prog X.w X.K X.mg c k ps fn 0 nms gD) (hB : BaseOk X.mg X.base) (hr : Room (k + 1) X.A) (tk : Takes X W) (hW : ∀ c d σ σ' H, W c d σ H → W c d σ' H) (hg : Gl X c) (hk : DK X W kws ks)
    (hall : (backToKw pos (keywordEach kws X.env)).all (·.1.isSome) = true := by rfl) (hks : (backToKw pos (keywordEach kws X.env)).filterMap (·.1) = nms := by rfl) (hdb : (c == ("__debug__" : Str)) = false := by decide)
    (hpl : ((backTo pos (starEach [] X.env)).any (·.1) || (backToKw pos (keywordEach kws X.env)).any (·.1.isNone)) = false := by rfl) :
    DE X W (.Call (.Name c p) [] kws pos) (eMake fn c 0 nms.length gD aNil ks) := by
  obtain ⟨C, f, fd, m, mkd, G, gu, gV, kb, hgD⟩ := G
  refine peW (pe_makeK0 (E := fun c d H => ∃ σ, W c d σ H) mkd (G X.base hB) hr hg m kb (passes_call tk fun c d σ H ⟨σ', z⟩ => hW c d σ' σ H z) hk hall hks hdb hpl) fun σ H Q ⟨e, F, R, h⟩ => ?_
  change post X.K X.mg W (rV X.K X.mg) F H e σ (M.bind ks (fun rk => mkK fn c 0 nms.length gD [] rk) e) Q at h
  refine ⟨e, F, R, post_imp (post_seq up_V h) ?_⟩
  rintro zs H2 ⟨rk, e2, F2, q2, R2, s2, h2⟩
  unfold mkK at h2
  cases w2 : valsOf rk with
  | none => rw [w2] at h2; exact h2.elim
  | some dk =>
    rw [w2] at h2
    dsimp only [valsOf] at h2
    split at h2
    · rename_i hl
      have r2 := q2.reps w2
      refine ⟨rfl, by rw [r2.length]; exact hl.2, fun x dx hx hdx hne => ?_⟩
      obtain ⟨ws, e1, e2⟩ := hgD F2 (.ref x) [] zs [] dk .nil r2 rfl hl.2
      rw [e1]
      obtain ⟨args, F3, R3, a3, p3⟩ := mkK_ok (W := W) R2 m e2 hx hdx hne rfl h2
      refine ⟨args, F3, R3, a3, ?_⟩
      revert p3
      cases fn args with
      | bad => exact id
      | ok r s => exact id
      | ex y s => exact fun p3 cls d F' H' s' R' z => ⟨σ, p3 cls d F' H' s' R' z⟩
    · exact h2.elim
end
/-- an own __eq__, by the fragment -/
theorem eq_mk {K : PySem.W.Frag} {h : Heap} {mg : Mg} {c qual : Str} {st : Stmt} {ps : List Str} {C f : Addr} {oc kV dc pm cd ct : Value} {od an : Option Addr} {sl : Array (Option Value)} (X : K.In h) (G : h.Ns mainGlobals mg) (a : PySem.W.nsIn K mainGlobals c = some (some (.ref C)))
    (hs : PySem.W.findIn K (.ref C) "__eq__" = some (some (.ref f))) (hf : PySem.W.isFn K (.ref f) = true) (n0 : PySem.W.subIn K (.type "NoneType") (.ref C) = some false) (n5 : PySem.W.subIn K (.type "tuple") (.ref C) = some false)
    (hn : PySem.W.findIn K (.ref C) "__ne__" = some (some (.builtin "object.__ne__"))) (hm : PySem.W.mroIn K C (.type "object") = some true)
    (l : K.lookup f = some ⟨oc, od, .func (PySem.W.fnOf "__eq__" qual (defArgs st) (defBody st) (defScope st) .none kV dc pm an cd ct), sl⟩) (ci : PySem.W.codeIn K cd qual = true) (k : PySem.W.keepIn K (.ref f) = true)
    (hb : ∀ (kV doc pm : Value) (an : Option Addr) (cdv ct : Value) (us : List Value), us.length = ps.length → bindArgs (PySem.W.fnOf "__eq__" qual (defArgs st) (defBody st) (defScope st) .none kV doc pm an cdv ct) ⟨us, []⟩ = pure (ps.zip us)) :
    ∃ C f fd, mg c = some (.ref C) ∧ EqF K C f ∧ NeF K C ∧ FunD K "__eq__" qual (defArgs st) (defBody st) (defScope st) [] [] f fd ∧ BA fd ps :=
  ⟨C, f, _, PySem.W.mg_of X G a, ⟨hs, hf, n0, n5⟩, ⟨hn, hm⟩, ⟨⟨oc, od, .none, kV, dc, pm, an, cd, ct, sl, rfl, l, ci, .inl ⟨rfl, rfl⟩, .inl rfl⟩, k⟩, fun us hl => hb kV dc pm an cd ct us hl⟩
/-- two keywords the other way round -/
def swap2 {α : Type} : List α → List α
  | [a, b] => [b, a]
  | l => l
theorem vals_swap2 {zs : List V} {ws : List Value} (r : Vals zs ws) : Vals (swap2 zs) (swap2 ws) := by
  cases r with
  | nil => exact .nil
  | cons a r => cases r with
    | nil => exact .cons a .nil
    | cons b r => cases r with
      | nil => exact .cons b (.cons a .nil)
      | cons c r => exact .cons a (.cons b (.cons c r))
end Y

set_option Elab.async false
set_option linter.all false
set_option maxRecDepth 100000
set_option maxHeartbeats 4000000
namespace Y
open PySem L2
set_option autoImplicit false
variable [TB]
def eqB (e : Sl) : Res RV → Res RV
  | .ok (.val (.bl b)) _ => .ok (.val (.bl b)) e
  | _ => .bad
@[simp] theorem v_eqB (e sl : Sl) (b : Bool) : eqB e (.ok (.val (.bl b)) sl) = .ok (.val (.bl b)) e := id rfl
def neB (e : Sl) : Res RV → Res RV
  | .ok (.val (.bl b)) _ => .ok (.val (.bl (!b))) e
  | _ => .bad
@[simp] theorem v_neB (e sl : Sl) (b : Bool) : neB e (.ok (.val (.bl b)) sl) = .ok (.val (.bl (!b))) e := id rfl
theorem v_ownEqI (c : Str) (fn : Fn) (fs gs : List (Str × D)) (e : Sl) : ownEqK c fn (.ins c fs) (.ins c gs) e = eqB e (fn [.val (.ins c fs), .val (.ins c gs)]) := by
  unfold ownEqK
  dsimp only
  rw [if_pos rfl, if_pos rfl]
  cases fn [.val (.ins c fs), .val (.ins c gs)] with
  | ok r s => cases r with
    | val d => cases d <;> rfl
    | _ => rfl
  | _ => rfl
theorem v_ownEqT (c : Str) (fn : Fn) (fs : List (Str × D)) (ds : List D) (e : Sl) : ownEqK c fn (.ins c fs) (.tup ds) e = eqB e (fn [.val (.ins c fs), .val (.tup ds)]) := by
  unfold ownEqK
  dsimp only
  rw [if_pos rfl]
  cases fn [.val (.ins c fs), .val (.tup ds)] with
  | ok r s => cases r with
    | val d => cases d <;> rfl
    | _ => rfl
  | _ => rfl
theorem v_ownEqN (c : Str) (fn : Fn) (fs : List (Str × D)) (e : Sl) : ownEqK c fn (.ins c fs) .non e = eqB e (fn [.val (.ins c fs), .val .non]) := by
  unfold ownEqK
  dsimp only
  rw [if_pos rfl]
  cases fn [.val (.ins c fs), .val .non] with
  | ok r s => cases r with
    | val d => cases d <;> rfl
    | _ => rfl
  | _ => rfl
theorem v_ownNe (c : Str) (fn : Fn) (fs gs : List (Str × D)) (e : Sl) : ownNeK c fn (.ins c fs) (.ins c gs) e = neB e (fn [.val (.ins c fs), .val (.ins c gs)]) := by
  unfold ownNeK
  dsimp only
  rw [if_pos ⟨rfl, rfl⟩]
  cases fn [.val (.ins c fs), .val (.ins c gs)] with
  | ok r s => cases r with
    | val d => cases d <;> rfl
    | _ => rfl
  | _ => rfl
@[simp] theorem v_repT (xs : List D) (k : Int) (e : Sl) : repT (.tup xs) (.int k) e = gB (decide (xs ≠ [] ∧ 2 ≤ k ∧ k ≤ 1000 ∧ xs.length ≤ 1000)) (.ok (.val (.tup (List.replicate k.toNat xs).flatten)) e) := gB_if _ _
theorem p63 : (2 : Int) ^ 63 = 9223372036854775808 := by decide +kernel
def rep3 (xs : List D) (e : Sl) : D → Res RV
  | .int k => gB (decide (-9223372036854775808 ≤ k ∧ k < 9223372036854775808 ∧ xs.length * k.toNat ≤ sizeLine)) (.ok (.own (.lst (List.replicate k.toNat xs).flatten)) e)
  | _ => .bad
@[simp] theorem v_rep3 (xs : List D) (e : Sl) (k : Int) : rep3 xs e (.int k) = gB (decide (-9223372036854775808 ≤ k ∧ k < 9223372036854775808 ∧ xs.length * k.toNat ≤ sizeLine)) (.ok (.own (.lst (List.replicate k.toNat xs).flatten)) e) := id rfl
def rep2 (xs : List D) (r' : RV) (e : Sl) : Res RV := oB (rdat e r') (rep3 xs e)
@[simp] theorem v_rep2 (xs : List D) (r' : RV) (e : Sl) : rep2 xs r' e = oB (rdat e r') (rep3 xs e) := id rfl
def rep1 (g : M RV) : RV → Sl → Res RV
  | .own (.lst xs), e => (g e).bnd (rep2 xs)
  | _, e => (g e).bnd fun _ _ => .bad
@[simp] theorem v_rep1 (g : M RV) (xs : List D) (e : Sl) : rep1 g (.own (.lst xs)) e = (g e).bnd (rep2 xs) := id rfl
@[simp] theorem v_eRepL (f g : M RV) (e : Sl) : eRepL f g e = (f e).bnd (rep1 g) := by
  unfold eRepL
  rw [v_bind]
  cases f e with
  | bad => rfl
  | ex x e' => rfl
  | ok r e' =>
    rw [bnd_ok, bnd_ok, v_bind]
    cases r with
    | val d => rfl
    | pk i => rfl
    | own c => cases c with
      | ins _ _ => rfl
      | dK _ => rfl
      | dT _ => rfl
      | lst xs =>
        rw [v_rep1]
        cases g e' with
        | bad => rfl
        | ex x e' => rfl
        | ok r e2 =>
          rw [bnd_ok, bnd_ok, v_rep2]
          cases rdat e2 r with
          | none => rfl
          | some d => cases d with
            | int k =>
              rw [oB_some, v_rep3, ← gB_if]
              dsimp only
              rw [p63]
            | _ => rfl
end Y

set_option Elab.async false
set_option linter.all false
set_option maxRecDepth 100000
set_option maxHeartbeats 4000000
namespace Y
open PySem PySem.Spec L2
set_option autoImplicit false
variable [TB]
def absK : D → M RV
  | .int i => fun e => .ok (.val (.int (if i < 0 then -i else i))) e
  | _ => M.bad
def blsOf : List D → Option (List Bool)
  | [] => some []
  | .bl b :: r => (blsOf r).map (b :: ·)
  | _ => none
theorem Reps.bls {K : PySem.W.Frag} {mg : Mg} {F : Hp} : ∀ {vs : List V} {ds : List D} {ns : List Bool}, Reps K mg F vs ds → blsOf ds = some ns → vs = ns.map V.bl
  | _, _, _, .nil, e => by cases e; rfl
  | _, _, _, .cons (.bl i) b, e => by
    unfold blsOf at e
    obtain ⟨zs, q, e⟩ := Option.map_eq_some_iff.mp e
    subst e
    rw [Reps.bls b q]
    rfl
  | _, _, _, .cons .non _, e => by cases e
  | _, _, _, .cons (.int _) _, e => by cases e
  | _, _, _, .cons (.str _) _, e => by cases e
  | _, _, _, .cons (.raw _) _, e => by cases e
  | _, _, _, .cons (.lst _ _) _, e => by cases e
  | _, _, _, .cons (.tup _ _) _, e => by cases e
  | _, _, _, .cons (.ins _ _ _) _, e => by cases e
def anyK : D → M RV
  | .lst xs => fun e => match blsOf xs with
    | some bs => .ok (.val (.bl (bs.any id))) e
    | none => .bad
  | _ => M.bad
def allK : D → M RV
  | .lst xs => fun e => match blsOf xs with
    | some bs => .ok (.val (.bl (bs.all id))) e
    | none => .bad
  | _ => M.bad
section
variable {X : Cx} {W : WX} {a : Expr} {f : M RV} {pos p : Pos}
theorem de_abs (hg : Gl X "abs") (hm : X.mg "abs" = none) (ha : DE X W a f) (he : starEach [a] X.env = (false, eval a X.env) :: starEach [] X.env := by rfl) (hpl : (backTo pos (starEach [] X.env)).any (·.1) = false := by rfl) :
    DE X W (.Call (.Name "abs" p) [a] [] pos) (rd1 f absK) := de_b1 call_abs (fun F H e σ x d Q R rx h => by
  unfold absK at h
  split at h
  · cases rx
    exact ⟨_, rfl, post_val R h (.int _)⟩
  · exact h.elim) hg hm (by decide +kernel) ha (he := he) (hpl := hpl)
theorem de_any (hc : X.calm = true) (hg : Gl X "any") (hm : X.mg "any" = none) (ha : DE X W a f) (he : starEach [a] X.env = (false, eval a X.env) :: starEach [] X.env := by rfl) (hpl : (backTo pos (starEach [] X.env)).any (·.1) = false := by rfl) :
    DE X W (.Call (.Name "any" p) [a] [] pos) (rd1 f anyK) := de_b1 (cr_any hc) (fun F H e σ x d Q R rx h => by
  unfold anyK at h
  split at h
  · obtain ⟨l, vs, rfl, q, r⟩ := rx
    split at h
    · rename_i bs w
      rw [Reps.bls r w] at q
      exact ⟨l, bs, rfl, q, post_val R h (.bl _)⟩
    · exact h.elim
  · exact h.elim) hg hm (by decide +kernel) ha (he := he) (hpl := hpl)
theorem de_all (hc : X.calm = true) (hg : Gl X "all") (hm : X.mg "all" = none) (ha : DE X W a f) (he : starEach [a] X.env = (false, eval a X.env) :: starEach [] X.env := by rfl) (hpl : (backTo pos (starEach [] X.env)).any (·.1) = false := by rfl) :
    DE X W (.Call (.Name "all" p) [a] [] pos) (rd1 f allK) := de_b1 (cr_all hc) (fun F H e σ x d Q R rx h => by
  unfold allK at h
  split at h
  · obtain ⟨l, vs, rfl, q, r⟩ := rx
    split at h
    · rename_i bs w
      rw [Reps.bls r w] at q
      exact ⟨l, bs, rfl, q, post_val R h (.bl _)⟩
    · exact h.elim
  · exact h.elim) hg hm (by decide +kernel) ha (he := he) (hpl := hpl)
/-- the greatest, the least of a list -/
def maxL : D → M RV
  | .lst xs => fun e => match intsOf xs with
    | some ns => if ns = [] then .bad else .ok (.val (.int (ns.foldl max (ns.headD 0)))) e
    | none => .bad
  | _ => M.bad
def minL : D → M RV
  | .lst xs => fun e => match intsOf xs with
    | some ns => if ns = [] then .bad else .ok (.val (.int (ns.foldl min (ns.headD 0)))) e
    | none => .bad
  | _ => M.bad
theorem fold_max : ∀ (ns : List Int) (i : Int), i ≤ ns.foldl max i ∧ (∀ x ∈ ns, x ≤ ns.foldl max i) ∧ (ns.foldl max i = i ∨ ns.foldl max i ∈ ns)
  | [], i => ⟨Int.le_refl _, fun x h => (by cases h), .inl rfl⟩
  | a :: r, i => by
    obtain ⟨h1, h2, h3⟩ := fold_max r (max i a)
    have e1 : i ≤ max i a := Int.le_max_left ..
    have e2 : a ≤ max i a := Int.le_max_right ..
    refine ⟨Int.le_trans e1 h1, fun x hx => ?_, ?_⟩
    · rcases List.mem_cons.mp hx with rfl | hx
      · exact Int.le_trans e2 h1
      · exact h2 x hx
    · show r.foldl max (max i a) = i ∨ r.foldl max (max i a) ∈ a :: r
      rcases h3 with h3 | h3
      · rcases (show max i a = i ∨ max i a = a by omega) with q | q
        · exact .inl (h3.trans q)
        · exact .inr (by rw [h3, q]; exact List.mem_cons_self)
      · exact .inr (List.mem_cons_of_mem _ h3)
theorem fold_min : ∀ (ns : List Int) (i : Int), ns.foldl min i ≤ i ∧ (∀ x ∈ ns, ns.foldl min i ≤ x) ∧ (ns.foldl min i = i ∨ ns.foldl min i ∈ ns)
  | [], i => ⟨Int.le_refl _, fun x h => (by cases h), .inl rfl⟩
  | a :: r, i => by
    obtain ⟨h1, h2, h3⟩ := fold_min r (min i a)
    have e1 : min i a ≤ i := Int.min_le_left ..
    have e2 : min i a ≤ a := Int.min_le_right ..
    refine ⟨Int.le_trans h1 e1, fun x hx => ?_, ?_⟩
    · rcases List.mem_cons.mp hx with rfl | hx
      · exact Int.le_trans h1 e2
      · exact h2 x hx
    · show r.foldl min (min i a) = i ∨ r.foldl min (min i a) ∈ a :: r
      rcases h3 with h3 | h3
      · rcases (show min i a = i ∨ min i a = a by omega) with q | q
        · exact .inl (h3.trans q)
        · exact .inr (by rw [h3, q]; exact List.mem_cons_self)
      · exact .inr (List.mem_cons_of_mem _ h3)
theorem de_maxL (hc : X.calm = true) (hg : Gl X "max") (hm : X.mg "max" = none) (ha : DE X W a f) (he : starEach [a] X.env = (false, eval a X.env) :: starEach [] X.env := by rfl) (hpl : (backTo pos (starEach [] X.env)).any (·.1) = false := by rfl) :
    DE X W (.Call (.Name "max" p) [a] [] pos) (rd1 f maxL) := de_b1 (cr_max hc) (fun F H e σ x d Q R rx h => by
  unfold maxL at h
  split at h
  · obtain ⟨l, vs, rfl, q, r⟩ := rx
    split at h
    · rename_i ns w
      rw [Reps.ints r w] at q
      split at h
      · exact h.elim
      · rename_i hne
        cases ns with
        | nil => exact absurd rfl hne
        | cons n ns =>
          obtain ⟨h1, h2, h3⟩ := fold_max (n :: ns) n
          refine ⟨l, n :: ns, rfl, q, by simp, fun m hm hy => ?_⟩
          have e1 : m = (n :: ns).foldl max n := by
            have a1 := h2 m hm
            have a2 : (n :: ns).foldl max n ≤ m := hy _ (h3.elim (fun z => by rw [z]; exact List.mem_cons_self) id)
            omega
          rw [e1]
          exact post_val R h (.int _)
    · exact h.elim
  · exact h.elim) hg hm (by decide +kernel) ha (he := he) (hpl := hpl)
theorem srt_uniq : ∀ {a b : List Int}, a.Perm b → a.Pairwise (· ≤ ·) → b.Pairwise (· ≤ ·) → a = b
  | [], b, p, _, _ => (List.Perm.nil_eq p)
  | x :: a, [], p, _, _ => absurd p.length_eq (by simp)
  | x :: a, y :: b, p, ha, hb => by
    rw [List.pairwise_cons] at ha hb
    have hx : x ∈ y :: b := p.subset List.mem_cons_self
    have hy : y ∈ x :: a := p.symm.subset List.mem_cons_self
    have e : x = y := by
      rcases List.mem_cons.mp hx with q | q
      · exact q
      · rcases List.mem_cons.mp hy with q2 | q2
        · exact q2.symm
        · have := ha.1 y q2; have := hb.1 x q; omega
    subst e
    rw [srt_uniq (List.Perm.cons_inv p) ha.2 hb.2]
def srt (ns : List Int) : List Int := ns.mergeSort fun i j => decide (i ≤ j)
theorem srt_ok (ns : List Int) : (srt ns).Perm ns ∧ (srt ns).Pairwise (· ≤ ·) := by
  refine ⟨List.mergeSort_perm _ _, ?_⟩
  have := List.pairwise_mergeSort (le := fun i j : Int => decide (i ≤ j)) (fun a b c h1 h2 => by simp at h1 h2 ⊢; omega) (fun a b => by simp; omega) ns
  exact this.imp fun h => by simpa using h
def sortedK : D → M RV
  | .lst xs => fun e => match intsOf xs with
    | some ns => .ok (.own (.lst ((srt ns).map D.int))) e
    | none => .bad
  | _ => M.bad
theorem reps_int {K : PySem.W.Frag} {mg : Mg} {F : Hp} : ∀ ns : List Int, Reps K mg F (ns.map V.int) (ns.map D.int)
  | [] => .nil
  | n :: r => .cons (.int n) (reps_int r)
theorem de_sorted (hg : Gl X "sorted") (hm : X.mg "sorted" = none) (ha : DE X W a f) (he : starEach [a] X.env = (false, eval a X.env) :: starEach [] X.env := by rfl) (hpl : (backTo pos (starEach [] X.env)).any (·.1) = false := by rfl) :
    DE X W (.Call (.Name "sorted" p) [a] [] pos) (rd1 f sortedK) := de_b1 cr_sortedI (fun F H e σ x d Q R rx h => by
  unfold sortedK at h
  split at h
  · obtain ⟨l, vs, rfl, q, r⟩ := rx
    split at h
    · rename_i ns w
      rw [Reps.ints r w] at q
      refine ⟨l, ns, rfl, q, fun ns' p pe so hp => ?_⟩
      have e1 : ns' = srt ns := srt_uniq (pe.trans (srt_ok ns).1.symm) so (srt_ok ns).2
      rw [e1]
      exact post_newL R h (reps_int _) hp
    · exact h.elim
  · exact h.elim) hg hm (by decide +kernel) ha (he := he) (hpl := hpl)
end
end Y

set_option Elab.async false
set_option linter.all false
set_option maxRecDepth 100000
set_option maxHeartbeats 4000000
namespace Y
open PySem PySem.Spec L2 PyProof.Rows
set_option autoImplicit false
variable [TB]
/-! ### tuple * 1, products of both kinds, list(range ..), ranges of any size -/
theorem tuple_mul1 (l : Addr) (items : Array Value) (n : Nat) (sl : Array (Option Value)) (dd : Option Addr) (x : Int) (u : Tok) (c0 : (decide (x < -(2 ^ 63)) || decide (x ≥ 2 ^ 63)) = false) (c1 : (items.isEmpty || x == 1) = true) :
    Meets (Builtin.«tuple.__mul__» ⟨[.ref l, .int x u], []⟩) (fun _ R s => s.heap.get? l = some { cls := .type "tuple", dict := dd, data := .seq items n, slots := sl } ∧
      R (.ok (.ret (Value.ref l))) s) :=
  .of_wp fun prog w A R s h => by
    obtain ⟨hp, g, d, tk, os⟩ := s
    obtain ⟨hl, h⟩ := h
    have f1 := AutoSeq1.idx_int
    wp_walk using wpAny_loadPart' hl
    repeat (first
      | (refine wpAny_ite_false (decide_eq_false (by rw [c0]; exact Bool.false_ne_true)) ?_; wp_walk using wpAny_loadPart' hl)
      | (refine wpAny_ite_true (decide_eq_true c1) ?_; wp_walk using wpAny_loadPart' hl))
    exact ⟨_, rfl, h⟩
def rRepT1 (K : PySem.W.Frag) : R2 := fun x y H Q => ∃ l k xs, x = .ref l ∧ y = .int k ∧ SqT K H l xs ∧ (xs = [] ∨ k = 1) ∧ -1000 ≤ k ∧ k ≤ 1000 ∧ Q (.ref l) H
theorem op_repT1 {X : Cx} : OpR X (binaryOp .Mult) (rRepT1 X.K) := by
  intro pins s σ H x y v u Q I rx ry h
  obtain ⟨l, k, xs, rfl, rfl, hT, hne, h1, h2, q⟩ := h
  cases rx
  obtain ⟨t, rfl⟩ := ry
  obtain ⟨its, r, ⟨⟨cls, dd, data, sl⟩, ho, hc, n, hd⟩, hs⟩ := I.tuple hT
  simp only at hc hd
  subst hc hd
  have hle : its.length = xs.length := r.length.symm
  have c0 : (decide (k < -(2 ^ 63)) || decide (k ≥ 2 ^ 63)) = false := by
    rw [decide_eq_false (by omega), decide_eq_false (by omega)] <;> rfl
  have c1 : (its.toArray.isEmpty || k == 1) = true := by
    rcases hne with z | z
    · rw [z] at hle
      have : its = [] := List.eq_nil_of_length_eq_zero hle
      subst this
      rfl
    · subst z
      simp
  refine wpAny_binaryOp_repeat_ref (T := "tuple") (U := "int") (by decide) ⟨_, ho, rfl⟩ (fun s' => typeIs_int s' k t) noFill_tuple_mul F.fills_int_mul F.slot_int_rmul repeat_tuple F.slot_int_index.lookup
    (call_meets F.slot_int_rmul (typeIs_int s k t) F.entry_int_rmul (F.args_int_rmul_2 _ _) (int_rmul_tuple k t l its.toArray n dd sl)
      ⟨ho, rfl, ⟨_, ho, rfl⟩, call_meets F.slot_tuple_mul ⟨_, ho, rfl⟩ F.entry_tuple_mul (F.args_tuple_mul_2 _ _) (tuple_mul1 l its.toArray n sl dd k t c0 c1) ⟨ho, ?_⟩⟩)
  exact ⟨.ref l, H, I, rfl, q⟩
def mulK : D → D → M RV
  | .int i, .int j => mulI (.int i) (.int j)
  | .tup xs, .int k => fun e => if xs ≠ [] ∧ 2 ≤ k ∧ k ≤ 1000 ∧ xs.length ≤ 1000 then .ok (.val (.tup (List.replicate k.toNat xs).flatten)) e else if (xs = [] ∨ k = 1) ∧ -1000 ≤ k ∧ k ≤ 1000 then .ok (.val (.tup xs)) e else .bad
  | _, _ => M.bad
section
variable {X : Cx} {W : WX} {a b tg : Expr} {f g : M RV} {pos p p2 pos2 : Pos}
theorem k2_mulK {K : PySem.W.Frag} {mg : Mg} : K2 K mg W (fun x y H Q => rI (fun i j => (-(2 ^ 64) < i ∧ i < 2 ^ 64) ∨ (-(2 ^ 64) < j ∧ j < 2 ^ 64)) (fun i j => .int (i * j)) x y H Q ∨ rRepT K x y H Q ∨ rRepT1 K x y H Q) mulK := by
  intro F H e σ x y d d' Q R rx ry h
  unfold mulK at h
  split at h
  · rename_i i j
    unfold mulI kI2 at h
    dsimp only at h
    by_cases c : (-(2 ^ 64) < i ∧ i < 2 ^ 64) ∨ (-(2 ^ 64) < j ∧ j < 2 ^ 64)
    · rw [if_pos c] at h
      exact .inl ⟨i, j, rx, ry, c, post_val R h (.int _)⟩
    · rw [if_neg c] at h
      exact h.elim
  · rename_i xs k
    obtain ⟨l, vs, rfl, q, r⟩ := rx
    split at h
    · rename_i hk
      cases ry
      exact .inr (.inl ⟨l, k, vs, rfl, rfl, sqT_mono R.sub q, fun z => hk.1 (by rw [z] at r; cases r; rfl), hk.2.1, hk.2.2.1, by rw [r.length]; exact hk.2.2.2, fun p hp => post_newT R h (reps_rep r _) hp⟩)
    · split at h
      · rename_i hk
        cases ry
        refine .inr (.inr ⟨l, k, vs, rfl, rfl, sqT_mono R.sub q, hk.1.imp_left (fun z => ?_), hk.2.1, hk.2.2, post_val R h (.tup q r)⟩)
        rw [z] at r; cases r; rfl
      · exact h.elim
  · exact h.elim
theorem de_mulK (ha : DE X W a f) (hb : DE X W b g) : DE X W (.BinOp a .Mult b pos) (rd2 f g mulK) := de_bin (op_mul.or (op_repT.or op_repT1)) k2_mulK ha hb
/-! list(range(..)) -/
def lrK (i j : Int) : M RV := fun e => if (-(2 ^ 62) ≤ i ∧ i < 2 ^ 62 ∧ -(2 ^ 62) ≤ j ∧ j < 2 ^ 62) ∧ (j - i).toNat ≤ 2 ^ 24 then .ok (.own (.lst (rangeD i (j - i).toNat))) e else .bad
def eLR1 (f : M RV) : M RV := M.bind f fun r => fun e => match rdat e r with
  | some (.int n) => lrK 0 n e
  | _ => .bad
def eLR2 (f g : M RV) : M RV := rd2 f g fun d d' => match d, d' with
  | .int i, .int j => lrK i j
  | _, _ => M.bad
theorem reps_rg {K : PySem.W.Frag} {mg : Mg} {F : Hp} (i j : Int) : Reps K mg F (rgV i j) (rangeD i (j - i).toNat) := by
  unfold rgV rangeD
  generalize List.range (j - i).toNat = l
  induction l with
  | nil => exact .nil
  | cons x r ih => exact .cons (.int _) ih
theorem lrK_ok {K : PySem.W.Frag} {mg : Mg} {F H : Hp} {e : Sl} {σ : L2.St} {Q : VK} {i j : Int} (R : Rel K mg F e σ H) (h : post K mg W (rV K mg) F H e σ (lrK i j e) Q) : RgOk i j ∧ ∀ q, H q = none → Q (.ref q) (upd H q (.lst (rgV i j))) := by
  unfold lrK at h
  split at h
  · rename_i c
    exact ⟨⟨c.1.1, c.1.2.1, c.1.2.2.1, c.1.2.2.2, c.2⟩, fun q hq => post_newL R h (reps_rg i j) hq⟩
  · exact h.elim
theorem de_LR1 (hc : X.calm = true) (hg : Gl X "list") (hm : X.mg "list" = none) (hg2 : Gl X "range") (hm2 : X.mg "range" = none) (ha : DE X W a f)
    (na : starEach [a] X.env = (false, eval a X.env) :: starEach [] X.env := by rfl) (nb : starEach [.Call (.Name "range" p2) [a] [] pos2] X.env = (false, eval (.Call (.Name "range" p2) [a] [] pos2) X.env) :: starEach [] X.env := by rfl) :
    DE X W (.Call (.Name "list" p) [.Call (.Name "range" p2) [a] [] pos2] [] pos) (eLR1 f) := peW (pe_listRg hc hg hm (prg_1 hg2 hm2 ha na) nb) fun σ H Q ⟨e, F, R, h⟩ => by
  refine ⟨e, F, R, post_imp (post_seq up_V h) ?_⟩
  rintro x H1 ⟨r1, e1, F1, q1, R1, s1, h1⟩
  split at h1
  · rename_i n w
    exact ⟨n, R1.rd q1 w, lrK_ok R1 h1⟩
  · exact h1.elim
theorem de_LR2 (hc : X.calm = true) (hg : Gl X "list") (hm : X.mg "list" = none) (hg2 : Gl X "range") (hm2 : X.mg "range" = none) (ha : DE X W a f) (hb : DE X W b g)
    (na : starEach [a, b] X.env = (false, eval a X.env) :: starEach [b] X.env := by rfl) (nb0 : starEach [b] X.env = (false, eval b X.env) :: starEach [] X.env := by rfl) (hp2 : (backTo pos2 (starEach [b] X.env)).any (·.1) = false := by rfl) (nb : starEach [.Call (.Name "range" p2) [a, b] [] pos2] X.env = (false, eval (.Call (.Name "range" p2) [a, b] [] pos2) X.env) :: starEach [] X.env := by rfl) :
    DE X W (.Call (.Name "list" p) [.Call (.Name "range" p2) [a, b] [] pos2] [] pos) (eLR2 f g) := peW (pe_listRg hc hg hm (prg_2 hg2 hm2 ha hb na nb0 hp2) nb) fun σ H Q h =>
  rd2_ok (r := fun x y H Q => ∃ i j, x = .int i ∧ y = .int j ∧ RgOk i j ∧ ∀ q, H q = none → Q (.ref q) (upd H q (.lst (rgV i j)))) (fun F H e σ x y d d' Q R rx ry h => by
    split at h
    · rename_i i j
      exact ⟨i, j, rx, ry, lrK_ok R h⟩
    · exact h.elim) h
end
end Y

set_option Elab.async false
set_option linter.all false
set_option maxRecDepth 100000
set_option maxHeartbeats 4000000
namespace Y
open PySem PySem.Spec L2 PyProof.Rows
set_option autoImplicit false
variable [TB]
/-! ### ranges of any size, walked -/
theorem turn_longrange {P : Program} {w : World} {K : PySem.W.Frag} {tg : Expr} (it : Addr) (lo : Int) (n : Nat) : Turn P w K tg (Itr lo n) [it] it (fun i h => IsLongIter h it (lo + (i : Nat) * 1) ((n : Int) - (i : Nat)) 1) where
  mem := by simp
  obj := fun i h st b hb => by
    have e : b = it := by simpa using hb
    subst e
    exact ⟨_, st, fun v z => by
      have z' : Data.fields _ = Data.cell v := z
      cases z'⟩
  keep := fun i h h' st k => k it (by simp) _ st
  item := by
    intro X hP hw hK hc i pins s σ H E I hf st hg
    subst hP hw hK
    obtain ⟨f0, f1, f2, f3, f4, f5⟩ := hf it (by simp)
    have W := Walks.longrange (prog := X.prog) (w := X.w) (I.ok.hd hc) it lo 1 n
    refine W.item i s _ _ hg st fun v h' tk hv st' kk => ?_
    obtain ⟨t, rfl⟩ := hv
    have I1 : Inv X pins σ H { s with heap := h', toks := tk } := I.turned (fun b o hb e => kk b o (by simpa using hb) e) f0 f1 f3 f4 f5
    refine ⟨_, rfl, go_of (s := { s with heap := h', toks := tk }) (n := "longrange_iterator") st' rfl rfl (by decide) ⟨.int (lo + i), H, I1, ⟨t, ?_⟩, ⟨rfl, rfl⟩, st', fun b hb => (hf b hb).1⟩⟩
    rw [Int.mul_one]
  done := by
    intro X hP hw hK hc i pins s σ H E I hf st hg
    subst hP hw hK
    obtain ⟨f0, f1, f2, f3, f4, f5⟩ := hf it (by simp)
    exact wpAny_pyNext_long_end (I.ok.hd hc) st (by have : n ≤ i := hg; omega) fun h' eb => ⟨rfl, I.turned (t' := s.toks) (fun b o hb e => eb b o hb e) f0 f1 f3 f4 f5⟩
  self := fun _ _ _ _ _ st h => wpAny_pyIter_longiter st h
section
variable {X : Cx} {tg : Expr}
theorem range_itW {pins : List (Addr × Obj)} {σ : L2.St} {H : Hp} {s : Shared} {R : It → Hp → Prop} {E : Value → Shared → Prop} {lo hi : Int} {t u v : Tok} {tk : Nat} (I : Inv X pins σ H s)
    (q : R (Itr lo (hi - lo).toNat) H) : wpAny (model X.prog X.w) X.A (pyIter (.ref s.heap.objs.size)) (PIE X pins σ tg R) E { s with heap := s.heap.push { cls := .type "range", data := .fields #[.int lo t, .int hi u, .int 1 v] }, toks := tk } := by
  have I1 : Inv X pins σ H { s with heap := s.heap.push { cls := .type "range", data := .fields #[.int lo t, .int hi u, .int 1 v] }, toks := tk } := I.kept fun b o e => Heap.get?_push_of_some _ e
  have e1 : lo + ((0 : Nat) : Int) * 1 = lo := by simp
  have e2 : (((hi - lo).toNat : Nat) : Int) - ((0 : Nat) : Int) = Builtin.Range.rangeSize lo hi 1 := by rw [rangeSize_one]; split <;> omega
  have e3 : ∀ b, b ∈ [(s.heap.push { cls := .type "range", data := .fields #[.int lo t, .int hi u, .int 1 v] }).objs.size] → b = (s.heap.push { cls := .type "range", data := .fields #[.int lo t, .int hi u, .int 1 v] }).objs.size := fun b hb => by simpa using hb
  cases sm : Builtin.Range.small lo hi 1 with
  | true =>
    refine wpAny_pyIter_range (IsRange.new ..) sm ?_
    refine ⟨(s.heap.push { cls := .type "range", data := .fields #[.int lo t, .int hi u, .int 1 v] }).objs.size, [(s.heap.push { cls := .type "range", data := .fields #[.int lo t, .int hi u, .int 1 v] }).objs.size], _, _, H, rfl,
      I1.kept (t' := tk) fun b o e => Heap.get?_push_of_some _ e, turn_range _ lo (hi - lo).toNat, ?_, fun b hb => ?_, q⟩
    · show IsRangeIter _ _ (lo + ((0 : Nat) : Int) * 1) ((((hi - lo).toNat : Nat) : Int) - ((0 : Nat) : Int)) 1
      rw [e1, e2]
      exact Heap.get?_push_size _ rfl
    · have e := e3 b hb
      subst e
      exact I1.fpOk (Nat.le_refl _) (I1.hok.fresh (Nat.le_refl _))
  | false =>
    refine wpAny_pyIter_longrange (IsRange.new ..) sm ?_
    refine ⟨(s.heap.push { cls := .type "range", data := .fields #[.int lo t, .int hi u, .int 1 v] }).objs.size, [(s.heap.push { cls := .type "range", data := .fields #[.int lo t, .int hi u, .int 1 v] }).objs.size], _, _, H, rfl,
      I1.kept (t' := tk) fun b o e => Heap.get?_push_of_some _ e, turn_longrange _ lo (hi - lo).toNat, ?_, fun b hb => ?_, q⟩
    · show IsLongIter _ _ (lo + ((0 : Nat) : Int) * 1) ((((hi - lo).toNat : Nat) : Int) - ((0 : Nat) : Int)) 1
      rw [e1, e2]
      exact Heap.get?_push_size _ rfl
    · have e := e3 b hb
      subst e
      exact I1.fpOk (Nat.le_refl _) (I1.hok.fresh (Nat.le_refl _))
def iRngW1 (ta : TA) : TI := fun σ H R => ta σ H fun vs H1 => ∃ j : Int, vs = [.int j] ∧ R (Itr 0 j.toNat) H1
def iRngW2 (ta : TA) : TI := fun σ H R => ta σ H fun vs H1 => ∃ i j : Int, vs = [.int i, .int j] ∧ R (Itr i (j - i).toNat) H1
theorem pi_rangeW1 {a : Expr} {ta : TA} {p pos : Pos} (hg : Gl X "range") (hm : X.mg "range" = none) (ha : PA X [a] ta) (hs : starEach [a] X.env = [(false, eval a X.env)] := by rfl) : PI X tg (.Call (.Name "range" p) [a] [] pos) (iRngW1 ta) := by
  refine ⟨fun pins s σ H R I h => ?_⟩
  refine Call_ (ld_blt I hg hm boot_range (PyProof.Rows.callWith_type1 (thn (ha.run pos pins s σ H _ I h) fun us s1 ⟨vs, H1, I1, r1, q1⟩ => ?_) hs rfl))
  obtain ⟨j, e, q⟩ := q1
  subst e
  cases r1 with
  | cons r rr =>
    cases rr
    obtain ⟨t, rfl⟩ := r
    exact call_range_1 (range_itW I1 (by simpa using q))
theorem pi_rangeW2 {a b : Expr} {ta : TA} {p pos : Pos} (hg : Gl X "range") (hm : X.mg "range" = none) (ha : PA X [a, b] ta) (hs : starEach [a, b] X.env = [(false, eval a X.env), (false, eval b X.env)] := by rfl) (hs2 : starEach [b] X.env = [(false, eval b X.env)] := by rfl) :
    PI X tg (.Call (.Name "range" p) [a, b] [] pos) (iRngW2 ta) := by
  refine ⟨fun pins s σ H R I h => ?_⟩
  refine Call_ (ld_blt I hg hm boot_range (PyProof.Rows.callWith_type1 (thn (ha.run pos pins s σ H _ I h) fun us s1 ⟨vs, H1, I1, r1, q1⟩ => ?_) (by rw [hs, hs2]) (by rw [hs2]; rfl)))
  obtain ⟨i, j, e, q⟩ := q1
  subst e
  cases r1 with
  | cons r rr =>
    cases rr with
    | cons r' rr =>
      cases rr
      obtain ⟨t, rfl⟩ := r
      obtain ⟨t', rfl⟩ := r'
      exact call_range_2 (range_itW I1 q)
end
def itW1 (f : M RV) : M (List D) := M.bind f fun r => fun e => match rdat e r with
  | some (.int j) => .ok (rangeD 0 j.toNat) e
  | _ => .bad
def itW2 (f g : M RV) : M (List D) := M.bind f fun r => M.bind g fun r' => fun e => match rdat e r, rdat e r' with
  | some (.int i), some (.int j) => .ok (rangeD i (j - i).toNat) e
  | _, _ => .bad
section
variable {X : Cx} {W : WX} {a b tg : Expr} {f g : M RV} {pos p : Pos}
theorem di_rangeW1 (hg : Gl X "range") (hm : X.mg "range" = none) (ha : DE X W a f) (hs : starEach [a] X.env = [(false, eval a X.env)] := by rfl) (hs' : starEach [a] X.env = (false, eval a X.env) :: starEach [] X.env := by rfl) :
    DI X W tg (.Call (.Name "range" p) [a] [] pos) (itW1 f) := piW (pi_rangeW1 hg hm (pa_cons ha pa_nil hs') hs) fun σ H Q ⟨e, F, R, h⟩ => by
  refine ⟨e, F, R, ?_⟩
  unfold itW1 M.bind at h
  cases w : f e with
  | bad => rw [w] at h; exact h.elim
  | ex x e' => rw [w] at h; exact h
  | ok r e1 =>
    rw [w] at h
    dsimp only at h
    intro x F1 H1 s1 R1 q1
    split at h
    · rename_i ds e2 w2
      split at w2
      · rename_i j wj
        cases w2
        exact ⟨j, congrArg (· :: []) (R1.rd q1 wj), h _ F1 H1 s1 R1 (walkD_range 0 j.toNat)⟩
      · cases w2
    · rename_i x e2 w2
      split at w2 <;> cases w2
    · exact h.elim
theorem di_rangeW2 (hg : Gl X "range") (hm : X.mg "range" = none) (ha : DE X W a f) (hb : DE X W b g) (hs : starEach [a, b] X.env = [(false, eval a X.env), (false, eval b X.env)] := by rfl) (hs2 : starEach [b] X.env = [(false, eval b X.env)] := by rfl)
    (he : starEach [a, b] X.env = (false, eval a X.env) :: starEach [b] X.env := by rfl) (he2 : starEach [b] X.env = (false, eval b X.env) :: starEach [] X.env := by rfl) :
    DI X W tg (.Call (.Name "range" p) [a, b] [] pos) (itW2 f g) := piW (pi_rangeW2 hg hm (pa_cons ha (pa_cons hb pa_nil he2) he) hs hs2) fun σ H Q ⟨e, F, R, h⟩ => by
  refine ⟨e, F, R, ?_⟩
  unfold itW2 M.bind at h
  cases w : f e with
  | bad => rw [w] at h; exact h.elim
  | ex x e' => rw [w] at h; exact h
  | ok r e1 =>
    rw [w] at h
    dsimp only at h
    intro x F1 H1 s1 R1 q1
    refine ⟨e1, F1, R1, ?_⟩
    cases w' : g e1 with
    | bad => rw [w'] at h; exact h.elim
    | ex x e' => rw [w'] at h; exact fun cls d F' H' s q z => h cls d F' H' (s1.trans s) q z
    | ok r' e2 =>
      rw [w'] at h
      dsimp only at h
      intro y F2 H2 s2 R2 q2
      have q1 := q1.step s2
      split at h
      · rename_i ds e3 w2
        split at w2
        · rename_i i j wi wj
          cases w2
          have e1 := R2.rd q1 wi
          have e2 := R2.rd q2 wj
          exact ⟨i, j, by rw [e1, e2], h _ F2 H2 (s1.trans s2) R2 (walkD_range i (j - i).toNat)⟩
        · cases w2
      · rename_i x e3 w2
        split at w2 <;> cases w2
      · exact h.elim
end
end Y

set_option Elab.async false
set_option linter.all false
set_option maxRecDepth 100000
set_option maxHeartbeats 1000000
namespace Y
open PySem L2
set_option autoImplicit false
/-! ### equality of plain data, told over D -/
mutual
def okD : D → Bool
  | .non => true
  | .bl _ => true
  | .int _ => true
  | .str x => PyData.strOk x
  | .lst xs => okDs xs
  | .tup xs => okDs xs
  | .ins _ _ => false
  | .raw _ => false
  | .dK _ => false
  | .dT _ => false
  | .exc _ _ => false
def okDs : List D → Bool
  | [] => true
  | x :: xs => okD x && okDs xs
end
mutual
def dpD : D → Nat
  | .lst xs => dpDs xs + 1
  | .tup xs => dpDs xs + 1
  | .non => 0
  | .bl _ => 0
  | .int _ => 0
  | .str _ => 0
  | .ins _ _ => 0
  | .raw _ => 0
  | .dK _ => 0
  | .dT _ => 0
  | .exc _ _ => 0
def dpDs : List D → Nat
  | [] => 0
  | x :: xs => max (dpD x) (dpDs xs)
end
mutual
def eqd : D → D → Bool
  | .non, .non => true
  | .bl a, .bl b => a == b
  | .bl a, .int j => (if a then 1 else 0) == j
  | .int i, .bl b => i == (if b then 1 else 0)
  | .int i, .int j => decide (i = j)
  | .str x, .str y => x == y
  | .lst xs, .lst ys => eqds xs ys
  | .tup xs, .tup ys => eqds xs ys
  | _, _ => false
def eqds : List D → List D → Bool
  | [], [] => true
  | x :: xs, y :: ys => eqd x y && eqds xs ys
  | [], _ :: _ => false
  | _ :: _, [] => false
end
mutual
theorem okD_py : ∀ (d : D), okD d = true → ∃ p, toPy d = some p ∧ PyData.canLay0 p = true ∧ PyData.depth p = dpD d
  | .non, _ => ⟨_, rfl, by simp [PyData.canLay0], by simp [PyData.depth, dpD]⟩
  | .bl _, _ => ⟨_, rfl, by simp [PyData.canLay0], by simp [PyData.depth, dpD]⟩
  | .int _, _ => ⟨_, rfl, by simp [PyData.canLay0], by simp [PyData.depth, dpD]⟩
  | .str x, h => ⟨_, rfl, by simp only [PyData.canLay0]; simpa [okD] using h, by simp [PyData.depth, dpD]⟩
  | .lst xs, h => by
    obtain ⟨ps, h1, h2, h3⟩ := okDs_py xs (by simpa [okD] using h)
    exact ⟨.list ps, by unfold toPy; rw [h1]; rfl, by simpa [PyData.canLay0] using h2, by simp [PyData.depth, dpD, h3]⟩
  | .tup xs, h => by
    obtain ⟨ps, h1, h2, h3⟩ := okDs_py xs (by simpa [okD] using h)
    exact ⟨.tuple ps, by unfold toPy; rw [h1]; rfl, by simpa [PyData.canLay0] using h2, by simp [PyData.depth, dpD, h3]⟩
  | .ins _ _, h => by simp [okD] at h
  | .raw _, h => by simp [okD] at h
  | .dK _, h => by simp [okD] at h
  | .dT _, h => by simp [okD] at h
  | .exc _ _, h => by simp [okD] at h
theorem okDs_py : ∀ (ds : List D), okDs ds = true → ∃ ps, toPys ds = some ps ∧ PyData.canLayAll0 ps = true ∧ PyData.depthAll ps = dpDs ds
  | [], _ => ⟨[], rfl, by simp [PyData.canLayAll0], by simp [PyData.depthAll, dpDs]⟩
  | d :: ds, h => by
    simp only [okDs, Bool.and_eq_true] at h
    obtain ⟨p, h1, h2, h3⟩ := okD_py d h.1
    obtain ⟨ps, g1, g2, g3⟩ := okDs_py ds h.2
    exact ⟨p :: ps, by unfold toPys; rw [h1, g1], by simp [PyData.canLayAll0, h2, g2], by simp [PyData.depthAll, dpDs, h3, g3]⟩
end
mutual
theorem eqd_py : ∀ (a b : D) (p q : PyData), toPy a = some p → toPy b = some q → PyData.eqv p q = eqd a b
  | a, b, p, q, ha, hb => by
    cases a <;> cases b <;> simp only [toPy, Option.map_eq_some_iff, Option.some.injEq, reduceCtorEq] at ha hb
    all_goals (try obtain ⟨ps, e1, rfl⟩ := ha)
    all_goals (try obtain ⟨qs, e2, rfl⟩ := hb)
    all_goals (try subst ha)
    all_goals (try subst hb)
    all_goals (try simp only [PyData.eqv, eqd])
    all_goals (try rfl)
    · exact eqds_py _ _ _ _ e1 e2
    · exact eqds_py _ _ _ _ e1 e2
theorem eqds_py : ∀ (a b : List D) (p q : List PyData), toPys a = some p → toPys b = some q → PyData.eqvAll p q = eqds a b
  | [], [], p, q, ha, hb => by cases ha; cases hb; simp [PyData.eqvAll, eqds]
  | x :: xs, [], p, q, ha, hb => by
    cases hb
    unfold toPys at ha
    split at ha
    · cases ha; simp [PyData.eqvAll, eqds]
    · cases ha
  | [], y :: ys, p, q, ha, hb => by
    cases ha
    unfold toPys at hb
    split at hb
    · cases hb; simp [PyData.eqvAll, eqds]
    · cases hb
  | x :: xs, y :: ys, p, q, ha, hb => by
    unfold toPys at ha hb
    split at ha
    · rename_i a1 a2 w1 w2
      cases ha
      split at hb
      · rename_i b1 b2 z1 z2
        cases hb
        simp only [PyData.eqvAll, eqds]
        rw [eqd_py x y _ _ w1 z1, eqds_py xs ys _ _ w2 z2]
      · cases hb
    · cases ha
end
theorem eqD_of {a b : D} (ha : okD a = true) (hb : okD b = true) (da : dpD a ≤ 64) (db : dpD b ≤ 64) : eqD a b = some (eqd a b) := by
  obtain ⟨p, a1, a2, a3⟩ := okD_py a ha
  obtain ⟨q, b1, b2, b3⟩ := okD_py b hb
  unfold eqD
  rw [a1, b1]
  dsimp only
  rw [if_pos ⟨by simp [SeqAt.shaped, a2, a3, da], by simp [SeqAt.shaped, b2, b3, db]⟩, eqd_py a b p q a1 b1]
theorem any_py (a : D) (p : PyData) (hp : toPy a = some p) : ∀ (xs : List D) (qs : List PyData), toPys xs = some qs → (qs.any fun z => PyData.eqv z p) = xs.any fun z => eqd z a
  | [], qs, h => by cases h; rfl
  | x :: xs, qs, h => by
    unfold toPys at h
    split at h
    · rename_i q qs' w1 w2
      cases h
      rw [List.any_cons, List.any_cons, eqd_py x a q p w1 hp, any_py a p hp xs qs' w2]
    · cases h
theorem inL_lst {a : D} {xs : List D} (ha : okD a = true) (hb : okDs xs = true) (da : dpD a ≤ 64) (db : dpDs xs ≤ 63) : inL a (.lst xs) = some (xs.any fun z => eqd z a) := by
  obtain ⟨p, a1, a2, a3⟩ := okD_py a ha
  obtain ⟨qs, b1, b2, b3⟩ := okDs_py xs hb
  unfold inL
  have b4 : toPy (.lst xs) = some (.list qs) := by unfold toPy; rw [b1]; rfl
  rw [a1, b4]
  dsimp only
  rw [if_pos ⟨by simp [SeqAt.shaped, a2, a3, da], by simp [SeqAt.shaped, PyData.canLay0, PyData.depth, b2, b3]; omega⟩, any_py a p a1 xs qs b1]
theorem inL_tup {a : D} {xs : List D} (ha : okD a = true) (hb : okDs xs = true) (da : dpD a ≤ 64) (db : dpDs xs ≤ 63) : inL a (.tup xs) = some (xs.any fun z => eqd z a) := by
  obtain ⟨p, a1, a2, a3⟩ := okD_py a ha
  obtain ⟨qs, b1, b2, b3⟩ := okDs_py xs hb
  unfold inL
  have b4 : toPy (.tup xs) = some (.tuple qs) := by unfold toPy; rw [b1]; rfl
  rw [a1, b4]
  dsimp only
  rw [if_pos ⟨by simp [SeqAt.shaped, a2, a3, da], by simp [SeqAt.shaped, PyData.canLay0, PyData.depth, b2, b3]; omega⟩, any_py a p a1 xs qs b1]
/-! typed lists -/
section
variable {α : Type} {f : α → D}
theorem okDs_map (h : ∀ a, okD (f a) = true) : ∀ xs : List α, okDs (xs.map f) = true
  | [] => by simp [okDs]
  | x :: xs => by simp [okDs, h x, okDs_map h xs]
theorem dpDs_map {n : Nat} (h : ∀ a, dpD (f a) ≤ n) : ∀ xs : List α, dpDs (xs.map f) ≤ n
  | [] => by simp [dpDs]
  | x :: xs => by
    have h1 := h x
    have h2 := dpDs_map h xs
    simp only [List.map_cons, dpDs]
    omega
theorem eqds_map [DecidableEq α] (h : ∀ a b, eqd (f a) (f b) = decide (a = b)) : ∀ xs ys : List α, eqds (xs.map f) (ys.map f) = decide (xs = ys)
  | [], [] => by simp [eqds]
  | x :: xs, [] => by simp [eqds]
  | [], y :: ys => by simp [eqds]
  | x :: xs, y :: ys => by
    simp only [List.map_cons, eqds, h x y, eqds_map h xs ys]
    by_cases h1 : x = y <;> by_cases h2 : xs = ys <;> simp [h1, h2]
theorem any_map [DecidableEq α] (h : ∀ a b, eqd (f a) (f b) = decide (a = b)) (x : α) : ∀ ys : List α, ((ys.map f).any fun z => eqd z (f x)) = decide (x ∈ ys)
  | [] => by simp
  | y :: ys => by
    rw [List.map_cons, List.any_cons, h y x, any_map h x ys]
    by_cases h1 : y = x
    · subst h1; simp
    · have h2 : ¬ x = y := fun z => h1 z.symm
      simp [h1, h2]
end
end Y

set_option Elab.async false
set_option linter.all false
set_option maxRecDepth 100000
set_option maxHeartbeats 4000000
namespace Y
open PySem L2
set_option autoImplicit false
variable [TB]
/-! ### reckoning with the later words -/
@[simp] theorem v_abs (i : Int) (e : Sl) : absK (.int i) e = .ok (.val (.int (if i < 0 then -i else i))) e := id rfl
def anyC (e : Sl) (bs : List Bool) : Res RV := .ok (.val (.bl (bs.any id))) e
@[simp] theorem v_anyC (e : Sl) (bs : List Bool) : anyC e bs = .ok (.val (.bl (bs.any id))) e := id rfl
@[simp] theorem v_any (xs : List D) (e : Sl) : anyK (.lst xs) e = oB (blsOf xs) (anyC e) := by
  unfold anyK
  dsimp only
  cases blsOf xs <;> rfl
def allC (e : Sl) (bs : List Bool) : Res RV := .ok (.val (.bl (bs.all id))) e
@[simp] theorem v_allC (e : Sl) (bs : List Bool) : allC e bs = .ok (.val (.bl (bs.all id))) e := id rfl
@[simp] theorem v_all (xs : List D) (e : Sl) : allK (.lst xs) e = oB (blsOf xs) (allC e) := by
  unfold allK
  dsimp only
  cases blsOf xs <;> rfl
def maxC (e : Sl) (ns : List Int) : Res RV := gB (decide (ns ≠ [])) (.ok (.val (.int (ns.foldl max (ns.headD 0)))) e)
@[simp] theorem v_maxC (e : Sl) (ns : List Int) : maxC e ns = gB (decide (ns ≠ [])) (.ok (.val (.int (ns.foldl max (ns.headD 0)))) e) := id rfl
@[simp] theorem v_maxL (xs : List D) (e : Sl) : maxL (.lst xs) e = oB (intsOf xs) (maxC e) := by
  unfold maxL
  dsimp only
  cases intsOf xs with
  | none => rfl
  | some ns =>
    show _ = gB (decide (ns ≠ [])) _
    cases ns with
    | nil => rfl
    | cons a b => rfl
def srtC (e : Sl) (ns : List Int) : Res RV := .ok (.own (.lst ((srt ns).map D.int))) e
@[simp] theorem v_srtC (e : Sl) (ns : List Int) : srtC e ns = .ok (.own (.lst ((srt ns).map D.int))) e := id rfl
@[simp] theorem v_sorted (xs : List D) (e : Sl) : sortedK (.lst xs) e = oB (intsOf xs) (srtC e) := by
  unfold sortedK
  dsimp only
  cases intsOf xs <;> rfl
@[simp] theorem v_mulKI (i j : Int) (e : Sl) : mulK (.int i) (.int j) e = gB (decide ((-(2 ^ 64) < i ∧ i < 2 ^ 64) ∨ (-(2 ^ 64) < j ∧ j < 2 ^ 64))) (.ok (.val (.int (i * j))) e) := v_mul i j e
theorem v_mulKT (xs : List D) (k : Nat) (e : Sl) (hk : k ≤ 1000) (hx : xs.length ≤ 1000) (h1 : 1 ≤ k) : mulK (.tup xs) (.int k) e = .ok (.val (.tup (List.replicate k xs).flatten)) e := by
  unfold mulK
  dsimp only
  by_cases c : xs ≠ [] ∧ (2 : Int) ≤ k ∧ (k : Int) ≤ 1000 ∧ xs.length ≤ 1000
  · rw [if_pos c]
    rfl
  · rw [if_neg c, if_pos]
    · by_cases z : xs = []
      · subst z; simp
      · have : k = 1 := by
          have : ¬ (2 : Int) ≤ k := fun w => c ⟨z, w, by omega, hx⟩
          omega
        subst this
        simp
    · refine ⟨?_, by omega, by omega⟩
      by_cases z : xs = []
      · exact .inl z
      · refine .inr ?_
        have : ¬ (2 : Int) ≤ k := fun w => c ⟨z, w, by omega, hx⟩
        omega
@[simp] theorem v_lrK (i j : Int) (e : Sl) : lrK i j e = gB (decide ((-4611686018427387904 ≤ i ∧ i < 4611686018427387904 ∧ -4611686018427387904 ≤ j ∧ j < 4611686018427387904) ∧ (j - i).toNat ≤ 16777216)) (.ok (.own (.lst (rangeD i (j - i).toNat))) e) := gB_if _ _
def lr1d (e : Sl) : D → Res RV
  | .int n => lrK 0 n e
  | _ => .bad
@[simp] theorem v_lr1d (e : Sl) (n : Int) : lr1d e (.int n) = lrK 0 n e := id rfl
def lr1c (r : RV) (e : Sl) : Res RV := oB (rdat e r) (lr1d e)
@[simp] theorem v_lr1c (r : RV) (e : Sl) : lr1c r e = oB (rdat e r) (lr1d e) := id rfl
@[simp] theorem v_eLR1 (f : M RV) (e : Sl) : eLR1 f e = (f e).bnd lr1c := by
  unfold eLR1
  rw [v_bind]
  cases f e with
  | bad => rfl
  | ex x e' => rfl
  | ok r e' =>
    rw [bnd_ok, bnd_ok, v_lr1c]
    cases rdat e' r with
    | none => rfl
    | some d => cases d <;> rfl
def lr2k : D → D → M RV
  | .int i, .int j => lrK i j
  | _, _ => M.bad
@[simp] theorem v_lr2k (i j : Int) (e : Sl) : lr2k (.int i) (.int j) e = lrK i j e := id rfl
@[simp] theorem v_eLR2 (f g : M RV) (e : Sl) : eLR2 f g e = rd2 f g lr2k e := by
  unfold eLR2
  congr 1
def itWd (e : Sl) : D → Res (List D)
  | .int j => .ok (rangeD 0 j.toNat) e
  | _ => .bad
@[simp] theorem v_itWd (e : Sl) (j : Int) : itWd e (.int j) = .ok (rangeD 0 j.toNat) e := id rfl
def itWc (r : RV) (e : Sl) : Res (List D) := oB (rdat e r) (itWd e)
@[simp] theorem v_itWc (r : RV) (e : Sl) : itWc r e = oB (rdat e r) (itWd e) := id rfl
@[simp] theorem v_itW1 (f : M RV) (e : Sl) : itW1 f e = (f e).bnd itWc := by
  unfold itW1
  rw [v_bind]
  cases f e with
  | bad => rfl
  | ex x e' => rfl
  | ok r e' =>
    rw [bnd_ok, bnd_ok, v_itWc]
    cases rdat e' r with
    | none => rfl
    | some d => cases d <;> rfl
def itW4 (e : Sl) (i : Int) : D → Res (List D)
  | .int j => .ok (rangeD i (j - i).toNat) e
  | _ => .bad
@[simp] theorem v_itW4 (e : Sl) (i j : Int) : itW4 e i (.int j) = .ok (rangeD i (j - i).toNat) e := id rfl
def itW5 (r' : RV) (e : Sl) : D → Res (List D)
  | .int i => oB (rdat e r') (itW4 e i)
  | _ => .bad
@[simp] theorem v_itW5 (r' : RV) (e : Sl) (i : Int) : itW5 r' e (.int i) = oB (rdat e r') (itW4 e i) := id rfl
def itW6 (r r' : RV) (e : Sl) : Res (List D) := oB (rdat e r) (itW5 r' e)
@[simp] theorem v_itW6 (r r' : RV) (e : Sl) : itW6 r r' e = oB (rdat e r) (itW5 r' e) := id rfl
def itW7 (g : M RV) (r : RV) (e : Sl) : Res (List D) := (g e).bnd (itW6 r)
@[simp] theorem v_itW7 (g : M RV) (r : RV) (e : Sl) : itW7 g r e = (g e).bnd (itW6 r) := id rfl
@[simp] theorem v_itW2 (f g : M RV) (e : Sl) : itW2 f g e = (f e).bnd (itW7 g) := by
  unfold itW2
  rw [v_bind]
  cases f e with
  | bad => rfl
  | ex x e' => rfl
  | ok r e' =>
    rw [bnd_ok, bnd_ok, v_itW7, v_bind]
    cases g e' with
    | bad => rfl
    | ex x e2 => rfl
    | ok r' e2 =>
      rw [bnd_ok, bnd_ok, v_itW6]
      cases rdat e2 r with
      | none => rfl
      | some d =>
        rw [oB_some]
        cases d with
        | int i =>
          rw [v_itW5]
          cases rdat e2 r' with
          | none => rfl
          | some d' => cases d' <;> rfl
        | _ => cases rdat e2 r' <;> rfl
/-! ### what holds behind a run -/
def wp {α : Type} (r : Res α) (Q : α → Sl → Prop) : Prop := match r with
  | .ok a e => Q a e
  | _ => False
section
variable {α β : Type} {r : Res α} {k : α → Sl → Res β} {Q Q' : α → Sl → Prop} {Z : β → Sl → Prop}
@[simp] theorem wp_ok (a : α) (e : Sl) : wp (.ok a e) Q = Q a e := rfl
@[simp] theorem wp_bad : wp (.bad : Res α) Q = False := rfl
@[simp] theorem wp_ex (x : Xn) (e : Sl) : wp (.ex x e : Res α) Q = False := rfl
theorem wp_bnd : wp (r.bnd k) Z = wp r (fun a e => wp (k a e) Z) := by cases r <;> rfl
theorem wp_imp (h : wp r Q) (i : ∀ a e, Q a e → Q' a e) : wp r Q' := by
  cases r with
  | ok a e => exact i a e h
  | _ => exact h
theorem wp_get (h : wp r Q) : ∃ a e, r = .ok a e ∧ Q a e := by
  cases r with
  | ok a e => exact ⟨a, e, rfl, h⟩
  | _ => exact h.elim
theorem wp_of {a : α} {e : Sl} (h : r = .ok a e) (q : Q a e) : wp r Q := by rw [h]; exact q
theorem wp_noEx : wp (noEx r) Q = wp r Q := by cases r <;> rfl
end
def floQ (I : Sl → Prop) (Q : Flo → Sl → Prop) : Flo → Sl → Prop
  | .nx, e => I e
  | .ct, e => I e
  | .bk, e => Q .nx e
  | .rt r, e => Q (.rt r) e
@[simp] theorem floQ_nx (I : Sl → Prop) (Q : Flo → Sl → Prop) (e : Sl) : floQ I Q .nx e = I e := rfl
@[simp] theorem floQ_ct (I : Sl → Prop) (Q : Flo → Sl → Prop) (e : Sl) : floQ I Q .ct e = I e := rfl
@[simp] theorem floQ_bk (I : Sl → Prop) (Q : Flo → Sl → Prop) (e : Sl) : floQ I Q .bk e = Q .nx e := rfl
@[simp] theorem floQ_rt (I : Sl → Prop) (Q : Flo → Sl → Prop) (r : RV) (e : Sl) : floQ I Q (.rt r) e = Q (.rt r) e := rfl
def runB (b : M Flo) (_u : Unit) (e : Sl) : Res Flo := b e
@[simp] theorem v_runB (b : M Flo) (u : Unit) (e : Sl) : runB b u e = b e := id rfl
/-- a loop by its invariant: what is left to walk, and the slots -/
theorem wp_for {t : D → M Unit} {b : M Flo} {Q : Flo → Sl → Prop} (I : List D → Sl → Prop) (step : ∀ d ds e, I (d :: ds) e → wp ((noEx (t d e)).bnd (runB b)) (floQ (I ds) Q)) (fin : ∀ e, I [] e → Q .nx e) : ∀ ds e, I ds e → wp (forRun t b ds e) Q
  | [], e, h => by rw [v_forN]; exact fin e h
  | d :: ds, e, h => by
    rw [v_forC]
    have s := step d ds e h
    cases q : noEx (t d e) with
    | bad => rw [q] at s; exact s
    | ex x e' => rw [q] at s; exact s
    | ok u e' =>
      rw [q, bnd_ok, v_runB] at s
      rw [bnd_ok, v_for1, wp_bnd]
      refine wp_imp s fun fl e2 h2 => ?_
      cases fl with
      | nx => rw [v_for2n]; exact wp_for I step fin ds e2 h2
      | ct => rw [v_for2c]; exact wp_for I step fin ds e2 h2
      | bk => rw [v_for2b]; exact h2
      | rt r => rw [v_for2r]; exact h2
end Y

set_option Elab.async false
set_option linter.all false
set_option maxRecDepth 100000
set_option maxHeartbeats 4000000
namespace Y
open PySem L2
set_option autoImplicit false
variable [TB]
/-! ### comprehensions and loops over typed lists -/
def lcS3 (vs : List Nat) (y : D) (e : Sl) : Res (Option D) := .ok (some y) (wip e vs)
@[simp] theorem v_lcS3 (vs : List Nat) (y : D) (e : Sl) : lcS3 vs y e = .ok (some y) (wip e vs) := id rfl
def lcF (r : RV) (e : Sl) : Res D := frz r e
@[simp] theorem v_lcF (r : RV) (e : Sl) : lcF r e = frz r e := id rfl
def lcS2 (f : M RV) (vs : List Nat) (c : Bool) (e : Sl) : Res (Option D) := match c with
  | true => ((f e).bnd lcF).bnd (lcS3 vs)
  | false => .ok none (wip e vs)
@[simp] theorem v_lcS2t (f : M RV) (vs : List Nat) (e : Sl) : lcS2 f vs true e = ((f e).bnd lcF).bnd (lcS3 vs) := id rfl
@[simp] theorem v_lcS2f (f : M RV) (vs : List Nat) (e : Sl) : lcS2 f vs false e = .ok none (wip e vs) := id rfl
def lcS1 (p : M Bool) (f : M RV) (vs : List Nat) (_u : Unit) (e : Sl) : Res (Option D) := (p e).bnd (lcS2 f vs)
@[simp] theorem v_lcS1 (p : M Bool) (f : M RV) (vs : List Nat) (u : Unit) (e : Sl) : lcS1 p f vs u e = (p e).bnd (lcS2 f vs) := id rfl
def lcStep (t : D → M Unit) (p : M Bool) (f : M RV) (vs : List Nat) (d : D) (e : Sl) : Res (Option D) := (t d e).bnd (lcS1 p f vs)
@[simp] theorem v_lcStep (t : D → M Unit) (p : M Bool) (f : M RV) (vs : List Nat) (d : D) (e : Sl) : lcStep t p f vs d e = (t d e).bnd (lcS1 p f vs) := id rfl
section
variable {α : Type} {enc : α → D} {t : D → M Unit} {p : M Bool} {f : M RV} {vs : List Nat} {e : Sl}
theorem lc_step {d : D} {e' : Sl} {o : Option D} {r acc : List D} (hl : acc.length < sizeLine) (h : lcStep t p f vs d e = .ok o e') : lcRun t p f vs (d :: r) acc e = lcRun t p f vs r (acc ++ o.toList) e' := by
  rw [v_lcStep] at h
  cases h1 : t d e with
  | bad => rw [h1] at h; cases h
  | ex x e1 => rw [h1] at h; cases h
  | ok u e1 =>
    rw [h1, bnd_ok, v_lcS1] at h
    cases h2 : p e1 with
    | bad => rw [h2] at h; cases h
    | ex x e2 => rw [h2] at h; cases h
    | ok c e2 =>
      rw [h2, bnd_ok] at h
      cases c with
      | false =>
        rw [v_lcS2f] at h
        cases h
        rw [lc_skip h1 h2, Option.toList_none, List.append_nil]
      | true =>
        rw [v_lcS2t] at h
        cases h3 : (f e2).bnd lcF with
        | bad => rw [h3] at h; cases h
        | ex x e3 => rw [h3] at h; cases h
        | ok y e3 =>
          rw [h3, bnd_ok, v_lcS3] at h
          cases h
          rw [lc_keep h1 h2 h3 hl]
          rfl
theorem lc_opt (r : α → Option D) : ∀ (xs : List α) (acc : List D), acc.length + xs.length ≤ 10000 → (∀ a ∈ xs, lcStep t p f vs (enc a) e = .ok (r a) e) → lcRun t p f vs (xs.map enc) acc e = .ok (acc ++ xs.filterMap r) e
  | [], acc, _, _ => by rw [List.map_nil, v_lcN, List.filterMap_nil, List.append_nil]
  | a :: xs, acc, hl, h => by
    rw [List.length_cons] at hl
    rw [List.map_cons, lc_step (small_line (by omega)) (h a List.mem_cons_self), lc_opt r xs _ (by
      rw [List.length_append]
      have : (r a).toList.length ≤ 1 := by cases r a <;> simp
      omega) fun b hb => h b (List.mem_cons_of_mem _ hb), List.append_assoc]
    congr 2
    cases q : r a with
    | none => rw [List.filterMap_cons_none q]; rfl
    | some y => rw [List.filterMap_cons_some q]; rfl
/-- [g a for a in xs] -/
theorem lc_map (g : α → D) (xs : List α) (hl : xs.length ≤ 10000) (h : ∀ a ∈ xs, lcStep t p f vs (enc a) e = .ok (some (g a)) e) : lcRun t p f vs (xs.map enc) [] e = .ok (xs.map g) e := by
  rw [lc_opt (fun a => some (g a)) xs [] (by simpa using hl) h, List.nil_append]
  congr 1
  clear hl h
  induction xs with
  | nil => rfl
  | cons a r ih => rw [List.filterMap_cons, ih]; rfl
/-- [g a for a in xs if q a] -/
theorem lc_filter (q : α → Bool) (g : α → D) (xs : List α) (hl : xs.length ≤ 10000) (h : ∀ a ∈ xs, lcStep t p f vs (enc a) e = .ok (if q a then some (g a) else none) e) : lcRun t p f vs (xs.map enc) [] e = .ok ((xs.filter q).map g) e := by
  rw [lc_opt (fun a => if q a then some (g a) else none) xs [] (by simpa using hl) h, List.nil_append]
  congr 1
  clear hl h
  induction xs with
  | nil => rfl
  | cons a r ih =>
    cases w : q a with
    | true => rw [List.filterMap_cons_some (by rw [w]; rfl), List.filter_cons_of_pos w, ih]; rfl
    | false => rw [List.filterMap_cons_none (by rw [w]; rfl), List.filter_cons_of_neg (by simp [w]), ih]
end
section
variable {α σ : Type} {ea : α → D} {t : D → M Unit} {b : M Flo}
theorem for_step {d : D} {ds : List D} {e e' : Sl} (h : (noEx (t d e)).bnd (runB b) = .ok .nx e') : forRun t b (d :: ds) e = forRun t b ds e' := by
  rw [v_forC]
  cases q : noEx (t d e) with
  | bad => rw [q] at h; cases h
  | ex x e1 => rw [q] at h; cases h
  | ok u e1 =>
    rw [q, bnd_ok, v_runB] at h
    rw [bnd_ok, v_for1, h, bnd_ok, v_for2n]
theorem for_stepC {d : D} {ds : List D} {e e' : Sl} (h : (noEx (t d e)).bnd (runB b) = .ok .ct e') : forRun t b (d :: ds) e = forRun t b ds e' := by
  rw [v_forC]
  cases q : noEx (t d e) with
  | bad => rw [q] at h; cases h
  | ex x e1 => rw [q] at h; cases h
  | ok u e1 =>
    rw [q, bnd_ok, v_runB] at h
    rw [bnd_ok, v_for1, h, bnd_ok, v_for2c]
theorem for_ret {d : D} {ds : List D} {e e' : Sl} {r : RV} (h : (noEx (t d e)).bnd (runB b) = .ok (.rt r) e') : forRun t b (d :: ds) e = .ok (.rt r) e' := by
  rw [v_forC]
  cases q : noEx (t d e) with
  | bad => rw [q] at h; cases h
  | ex x e1 => rw [q] at h; cases h
  | ok u e1 =>
    rw [q, bnd_ok, v_runB] at h
    rw [bnd_ok, v_for1, h, bnd_ok, v_for2r]
/-- a loop that changes a state -/
theorem for_fold (E : σ → Sl) (f : σ → α → σ) : ∀ (xs : List α) (s : σ), (∀ s a, a ∈ xs → (noEx (t (ea a) (E s))).bnd (runB b) = .ok .nx (E (f s a))) → forRun t b (xs.map ea) (E s) = .ok .nx (E (xs.foldl f s))
  | [], s, _ => by rw [List.map_nil, v_forN]; rfl
  | a :: xs, s, h => by
    rw [List.map_cons, for_step (h s a List.mem_cons_self), for_fold E f xs _ fun s b hb => h s b (List.mem_cons_of_mem _ hb)]
    rfl
def fndF {α : Type} (R : α → RV) : Option α → Flo
  | some a => .rt (R a)
  | none => .nx
@[simp] theorem fndF_s {α : Type} (R : α → RV) (a : α) : fndF R (some a) = .rt (R a) := id rfl
@[simp] theorem fndF_n {α : Type} (R : α → RV) : fndF R none = .nx := id rfl
/-- a loop that looks for something -/
theorem for_find (E : Slot → Sl) (P : α → Bool) (R : α → RV) : ∀ (xs : List α) (s : Slot), stoS (some s) = true → (∀ s a, a ∈ xs → stoS (some s) = true → (noEx (t (ea a) (E s))).bnd (runB b) = .ok (if P a then .rt (R a) else .nx) (E (.val (ea a)))) →
    ∃ s', stoS (some s') = true ∧ forRun t b (xs.map ea) (E s) = .ok (fndF R (xs.find? P)) (E s')
  | [], s, hs, _ => ⟨s, hs, by rw [List.map_nil, v_forN]; rfl⟩
  | a :: xs, s, hs, h => by
    have h1 := h s a List.mem_cons_self hs
    cases q : P a with
    | true =>
      rw [q] at h1
      refine ⟨.val (ea a), rfl, ?_⟩
      rw [List.map_cons, for_ret h1, List.find?_cons_of_pos q, fndF_s]
    | false =>
      rw [q] at h1
      obtain ⟨s', hs', e⟩ := for_find E P R xs (.val (ea a)) rfl fun s b hb => h s b (List.mem_cons_of_mem _ hb)
      refine ⟨s', hs', ?_⟩
      rw [List.map_cons, for_step h1, List.find?_cons_of_neg (by simp [q]), e]
end
end Y

set_option Elab.async false
set_option linter.all false
set_option maxRecDepth 100000
set_option maxHeartbeats 4000000
namespace Y
open PySem PySem.Spec L2 PyProof.Rows
set_option autoImplicit false
variable [TB]
/-! ### a lambda that captures nothing: called -/
abbrev lamO (q : Str) (params : Arguments) (body : Expr) (scope : Scope) (pm : Value) (c' : Addr) (ctv : Value) : Obj := PySem.W.kla_obj "<lambda>" q params body scope [] pm c' ctv
theorem lam_run {CX : CXT} {P : Program} {w : World} {K : PySem.W.Frag} {mg : Str → Option Value} {base : Heap} {k : Nat} {f c' : Addr} {q : Str} {params : Arguments} {body : Expr} {scope : Scope} {pm ctv : Value} {N ps : List Str}
    {A : Around} {outer : List Env} {s : Shared} {H : Hp} {us : List Value} {vs : List V} {Q : VK} {E : XK} (hf : s.heap.get? f = some (lamO q params body scope pm c' ctv))
    (hc : ∃ (oc : Obj) (vs : Array Value) (t : Tok), s.heap.get? c' = some oc ∧ oc.data = .fields vs ∧ vs[1]? = some (.str q t)) (S : FnScope N ps scope) (hr : Room (k + 1) A) (e0 : Env0 P w K mg base A outer s H)
    (hb : bindArgs (PySem.W.kla_fn "<lambda>" q params body scope [] pm (.ref c') ctv) ⟨us, []⟩ = pure (ps.zip us)) (r : Vals vs us) (hl : vs.length = ps.length)
    (hbody : Room k (A.deeper (envOfC q scope s.heap.objs.size f (.ref c'))) → ∃ t, PE (cxOf CX P w K mg base N q scope f (.ref c') A outer s H E) body t ∧ t (L2.start N vs) H Q) :
    codeAny (model P w) A (.call (.ref f) ⟨us, []⟩) (CR CX outer P w H s Q E) s := by
  have lim : s.heap.NoLimit := e0.mod.nolimit.keeps fun b o e => (e0.bs b o e).1
  have hkind : ∀ y ∈ ps.zip us, scope.names.lookup y.1 = some .local ∨ (scope.names.lookup y.1 = some .cell ∧ ((cellsFrom (s.heap.objs.size + 1) scope.names []).lookup y.1).isSome = true) := fun ⟨n, v⟩ hy => by
    rcases S.par n (List.of_mem_zip hy).1 with q | q
    · exact .inl q
    · exact .inr ⟨q, PySem.W.cellsFrom_some _ _ _ (.inl q)⟩
  obtain ⟨oc, vs0, t0, h1, h2, h3⟩ := hc
  refine PySem.W.kla_callFunE hr.depth hf rfl S.co S.gen rfl ⟨c', oc, vs0, t0, rfl, h1, h2, h3⟩ ?_
  rw [hb]
  refine wpAny_pure ?_
  refine wpAny_newFunctionEnv_cells S.kind hkind fun env he s1 x => ?_
  subst he
  refine ⟨lim.keeps x.toInCall.keep, ?_⟩
  obtain ⟨t, ht, hq⟩ := hbody (hr.deeper _)
  have I : Inv (cxOf CX P w K mg base N q scope f (.ref c') A outer s H E) [] (L2.start N vs) H s1 := inv_start S hr.hd e0 hl r x
  refine PySem.W.kla_codeExpr (wpAny_mono (ht.run [] s1 (L2.start N vs) H _ I hq) (fun u s' hs => ?_) fun e s' hs => hs)
  obtain ⟨v, H', J, rv, q⟩ := hs
  exact ⟨v, H', J.os, J.bare, J.base, J.hok, rv, q⟩
end Y
namespace Y
open PySem PySem.Spec L2 PyProof.Rows
set_option autoImplicit false
variable [TB]
/-- (len(x), x) -/
abbrev lenB (x : Str) (p1 p2 p3 p4 p5 : Pos) (j : Nat) : Expr := .Tuple [.Call (.Name "len" p1) [.Name x p2] [] p3, .Name x p4] j p5
theorem key_len {P : Program} {w : World} {K : PySem.W.Frag} {mg : Str → Option Value} {base : Heap} {k : Nat} {f c' t : Addr} {q x : Str} {params : Arguments} {scope : Scope} {pm ctv : Value} {p1 p2 p3 p4 p5 : Pos} {j : Nat}
    {A : Around} {outer : List Env} {s : Shared} {H : Hp} {its : List Value} {d : PyData} (hf : s.heap.get? f = some (lamO q params (lenB x p1 p2 p3 p4 p5 j) scope pm c' ctv))
    (hc : ∃ (oc : Obj) (vs : Array Value) (t : Tok), s.heap.get? c' = some oc ∧ oc.data = .fields vs ∧ vs[1]? = some (.str q t)) (S : FnScope [x] [x] scope) (hx : scope.names.lookup x = some .local) (hl : scope.names.lookup ("len" : Str) = some .globalImplicit) (hxd : (x == ("__debug__" : Str)) = false)
    (hxc : (x == ("__classdict__" : Str)) = false) (hr : Room (k + 1) A) (e0 : Env0 P w K mg base A outer s H) (hm : mg "len" = none) (hb : bindArgs (PySem.W.kla_fn "<lambda>" q params (lenB x p1 p2 p3 p4 p5 j) scope [] pm (.ref c') ctv) ⟨[.ref t], []⟩ = pure [(x, .ref t)])
    (ht : IsTup s.heap t its.toArray) (hz : its.length ≤ sizeLine) (rd : Reads s.heap (.ref t) d []) :
    wpAny (model P w) A (call (.ref f) [.ref t]) (PySem.W.KeyPure (.tuple [.int its.length, d]) s) (fun _ _ => False) s := by
  have lim : s.heap.NoLimit := e0.mod.nolimit.keeps fun b o e => (e0.bs b o e).1
  obtain ⟨oc, vs0, t0, h1, h2, h3⟩ := hc
  refine wpAny_call ?_
  refine PySem.W.kla_callFunE hr.depth hf rfl S.co S.gen rfl ⟨c', oc, vs0, t0, rfl, h1, h2, h3⟩ ?_
  rw [hb]
  refine wpAny_pure ?_
  refine wpAny_newFunctionEnv_cells S.kind (fun y hy => ?_) fun env he s1 z => ?_
  · have e : y = (x, Value.ref t) := by simpa using hy
    subst e
    exact .inl hx
  subst he
  refine ⟨lim.keeps z.toInCall.keep, ?_⟩
  have I : Inv (cxOf (L2.CX P w) P w K mg base [x] q scope f (.ref c') A outer s H (fun _ _ _ => False)) [] (L2.start [x] [V.ref t]) H s1 := inv_start (us := [.ref t]) S hr.hd e0 rfl (.cons rfl .nil) z
  obtain ⟨h', tk, es, kp⟩ := z.done
  -- the slot holds the tuple
  have var : ∀ {p : Pos} {E : Value → Shared → Prop} {Q : Value → Shared → Prop} {t' : Nat}, Q (.ref t) { s1 with toks := t' } → wpAny (model P w) (A.deeper (envOfC q scope s.heap.objs.size f (.ref c'))) (eval (.Name x p) (envOfC q scope s.heap.objs.size f (.ref c'))) Q E { s1 with toks := t' } := fun {p E Q t'} h => by
    obtain ⟨m, hn, hlk⟩ := (I.tok t').loc
    obtain ⟨u, ru, l⟩ := hlk 0 x (V.ref t) rfl rfl (.inl hx)
    obtain rfl : u = Value.ref t := ru
    rcases l with ⟨hk, hmx⟩ | ⟨hk, _⟩
    · exact wpAny_Name (wpAny_loadName_local S.kind hx hn hmx h) hxd
    · rcases hk with hk | hk
      · have hk' : scope.names.lookup x = some .cell := hk
        rw [hx] at hk'; cases hk'
      · have hk' : scope.names.lookup x = some .free := hk
        rw [hx] at hk'; cases hk'
  have tup1 : IsTup s1.heap t its.toArray := by
    obtain ⟨o, ho, r⟩ := ht
    exact ⟨o, z.toInCall.keep _ _ ho, r⟩
  have rd1 : ∀ {g : Heap}, (∀ b o, s1.heap.get? b = some o → g.get? b = some o) → Reads g (.ref t) d [] := fun {g} k => PyProof.Rows.Reads.keeps (fun b o e => k b o (z.toInCall.keep b o e)) rd
  refine PySem.W.kla_codeExpr ?_
  refine wpAny_Tuple_spliced ?_
  refine Calls.spliced_cons ?_
  refine wpAny_Call_Name_kw (ld_blt I hl hm PySem.boot_len ?_)
  refine PyProof.Rows.callWith_builtin1 (Calls.spliced_cons (var (t' := s1.toks) ?_)) rfl rfl
  refine Calls.spliced_nil ?_
  have hn := line63
  refine len_tuple tup1 (by simp only [List.size_toArray] <;> omega) ?_
  refine Calls.spliced_cons (var ?_)
  refine Calls.spliced_nil ⟨by show 2 ≤ sizeLine; decide, ?_⟩
  obtain ⟨h0, tk0, e0'⟩ := z.toInCall.same
  show PySem.W.KeyPure (.tuple [.int its.length, d]) s (.ref s1.heap.objs.size) { s1 with heap := s1.heap.push { cls := .type "tuple", data := .seq #[Value.int (its.toArray.size : Nat) (s1.toks + 1), .ref t] }, toks := s1.toks + 1 + 1 }
  refine ⟨s1.heap.push { cls := .type "tuple", data := .seq #[Value.int (its.toArray.size : Nat) (s1.toks + 1), .ref t] }, s1.toks + 1 + 1, by rw [e0'], fun b o e => Heap.get?_push_of_some _ (z.toInCall.keep b o e), ?_⟩
  rw [show (its.length : Int) = ((its.toArray.size : Nat) : Int) by rw [List.size_toArray]]
  exact .tuple (Heap.get?_push_size _ rfl) rfl rfl (.cons (.int _ _) (.cons (rd1 fun b o e => Heap.get?_push_of_some _ e) .nil))
end Y

set_option Elab.async false
set_option linter.all false
set_option maxRecDepth 100000
set_option maxHeartbeats 4000000
namespace Y
open PySem PySem.Spec PyProof.Rows L2 LamX
set_option autoImplicit false
variable [TB]
/-! ### a lambda that captures nothing, made -/
def LamH (f : Addr) (q : Str) (params : Arguments) (body : Expr) (scope : Scope) (c' : Addr) : HO := .ext fun h => ∃ pm ctv, h.get? f = some (lamO q params body scope pm c' ctv)
theorem lamH_ok {P : Program} {w : World} {H : Hp} {h : Heap} {f : Addr} {q : Str} {params : Arguments} {body : Expr} {scope : Scope} {c' : Addr} {pm ctv : Value} (e : h.get? f = some (lamO q params body scope pm c' ctv)) : ObjOk P w H h f (LamH f q params body scope c') :=
  ⟨⟨pm, ctv, e⟩, ⟨_, e⟩, fun h1 h2 z k => by
    obtain ⟨pm, ctv, q⟩ := z
    exact ⟨pm, ctv, k _ q⟩⟩
theorem lamH_at {P : Program} {w : World} {H : Hp} {h : Heap} {f : Addr} {q : Str} {params : Arguments} {body : Expr} {scope : Scope} {c' : Addr} (hok : HOk P w H h) (e : H f = some (LamH f q params body scope c')) : ∃ pm ctv, h.get? f = some (lamO q params body scope pm c' ctv) := by
  have x : ObjOk P w H h f (.ext fun h => ∃ pm ctv, h.get? f = some (lamO q params body scope pm c' ctv)) := hok f _ e
  exact x.1
theorem cloFrom_nofree (cells : List (Str × Addr)) : ∀ (l : List (Str × NameKind)) (acc : List (Str × Addr)), (∀ y ∈ l, y.2 ≠ .free) → cloFrom cells l acc = acc
  | [], acc, _ => rfl
  | (n, k) :: r, acc, h => by
    unfold cloFrom
    rw [if_neg]
    · exact cloFrom_nofree cells r acc fun y hy => h y (List.mem_cons_of_mem _ hy)
    · have := h (n, k) List.mem_cons_self
      simpa using this
section
variable {X : Cx} {pins : List (Addr × Obj)} {σ : L2.St} {H : Hp} {s : Shared}
theorem lam_make3 {c P : Addr} {params : Arguments} {body : Expr} {scope : Scope} {pos : Pos} {E : Value → Shared → Prop} {Q : Value → Shared → Prop} (I : Inv X pins σ H s) (hB : BaseOk X.mg X.base) (hcode : X.env.code = .ref c)
    (hm : (c, P, X.env.qual ++ "<lambda>") ∈ TB.T) (hT : TabOk H) (hdef : defaultsOf params X.env = ([], [])) (hfree : ∀ y ∈ scope.names, y.2 ≠ .free)
    (h : ∀ (f c' : Addr) (H1 : Hp) (s' : Shared), Inv X pins σ H1 s' → ExtN H H1 → TabOk H1 → (∀ b, H1 b = none → H b = none) → H f = none → H1 f = some (LamH f (X.env.qual ++ "<lambda>") params body scope c') → H1 c' = some (CodeO c' (X.env.qual ++ "<lambda>")) → Q (.ref f) s') :
    wpAny (model X.prog X.w) X.A (eval (.Lambda params body scope pos) X.env) Q E s := by
  have TBB := hB _ hm
  have hmem : (P, X.env.qual ++ "<lambda>") ∈ TB.T.map (·.2) := List.mem_map.mpr ⟨_, hm, rfl⟩
  have hu : ∀ p ∈ TB.T.map (·.2), p.1 = P → p.2 = X.env.qual ++ "<lambda>" := fun p hp e => by
    obtain ⟨p', hp', rfl⟩ := List.mem_map.mp hp
    exact TB.uq p' hp' _ hm e
  have hcl : ∀ y ∈ scope.names, y.2 = .free → ∃ c, X.env.cells.lookup y.1 = some c := fun y hy e => absurd e (hfree y hy)
  have ecl := cloFrom_nofree X.env.cells scope.names [] hfree
  obtain ⟨ps, hP, ht, ha⟩ := hT _ hmem
  refine PySem.W.kla_eval hdef ?_
  have bP : s.heap.BuiltinsAt X.mg P := TBB.bm.keeps I.bk
  have hP' : s.heap.get? P = some { cls := .none, data := .fields ps } := I.hok P _ hP
  cases hc : codeAmong pos ps.toList with
  | none =>
    refine PySem.W.kla_makeFunction (mg := X.mg) (c := c) (P := P) (ps := ps) (closure_ok hcl) I.ok.glob (I.mod.glob.keeps I.bk) hcode (TBB.code.keeps I.bk) hP' ht hc TBB.gP bP fun c' ctv h' tk hx hge hlt hrec htb => ?_
    obtain ⟨c2, oc, vs, t, e2, hoc, hd, hv⟩ := hrec
    cases e2
    rw [ecl]
    have nC : H c' = none := I.hok.fresh hge
    have I1 := inv_table (t' := tk) (more := #[rawInt pos.line, rawInt pos.col, .ref c']) (h' := h') I hP hx htb hge ⟨oc, vs, t, hoc, hd, hv⟩
    have hE : ExtN H (upd (upd H P (.tbl (ps ++ #[rawInt pos.line, rawInt pos.col, .ref c']))) c' (CodeO c' (X.env.qual ++ "<lambda>"))) := fun b o e n => by
      rw [upd_ne (ne_of_none e nC), upd_ne (fun z => n ps (Option.some.inj (e.symm.trans (by rw [z]; exact hP))))]
      exact e
    have eL : (ps ++ #[rawInt pos.line, rawInt pos.col, .ref c']).toList = ps.toList ++ [rawInt pos.line, rawInt pos.col, .ref c'] := by simp
    have T1 : TabOk (upd (upd H P (.tbl (ps ++ #[rawInt pos.line, rawInt pos.col, .ref c']))) c' (CodeO c' (X.env.qual ++ "<lambda>"))) := fun p hp => by
      by_cases hb : p.1 = P
      · rw [hu p hp hb, hb]
        refine ⟨_, by rw [upd_ne (ne_of_none hP nC), upd_same], by rw [eL]; exact PySem.TriplesOk_snoc _ _ _ _ ht, fun p' cv hcv => ?_⟩
        rw [eL] at hcv
        rcases among_app _ ht hcv with z | z
        · obtain ⟨c0, e1, e2⟩ := ha p' cv z
          exact ⟨c0, e1, hE _ _ e2 codeO_ne⟩
        · exact ⟨c', z, upd_same⟩
      · obtain ⟨ps', a1, a2, a3⟩ := hT p hp
        refine ⟨ps', by rw [upd_ne (ne_of_none a1 nC), upd_ne hb]; exact a1, a2, fun p' cv hcv => ?_⟩
        obtain ⟨c0, e1, e2⟩ := a3 p' cv hcv
        exact ⟨c0, e1, hE _ _ e2 codeO_ne⟩
    have nf : (upd (upd H P (.tbl (ps ++ #[rawInt pos.line, rawInt pos.col, .ref c']))) c' (CodeO c' (X.env.qual ++ "<lambda>"))) h'.objs.size = none := I1.hok.fresh (Nat.le_refl _)
    have I2 := I1.laid (t' := tk) (a := h'.objs.size) (o := LamH h'.objs.size (X.env.qual ++ "<lambda>") params body scope c') (h' := h'.push (lamO (X.env.qual ++ "<lambda>") params body scope ((X.mg "__name__").getD .none) c' ctv)) (fun b u e => Heap.get?_push_of_some _ e) (Nat.le_refl _) (lamH_ok (Heap.get?_push_size _ rfl))
    have nfH : H h'.objs.size = none := I.hok.fresh (Nat.le_trans hge (Nat.le_of_lt hlt))
    refine h h'.objs.size c' _ _ I2 (hE.trans (ExtN.of fun b o e => by rw [upd_ne (ne_of_none e nf)]; exact e)) (T1.new nf) (fun b z => ?_) nfH upd_same ?_
    · by_cases q : b = h'.objs.size
      · rw [q]; exact nfH
      · rw [upd_ne q] at z
        by_cases q2 : b = c'
        · rw [q2]; exact nC
        · rw [upd_ne q2] at z
          by_cases q3 : b = P
          · rw [q3, upd_same] at z; cases z
          · rw [upd_ne q3] at z; exact z
    · rw [upd_ne (Nat.ne_of_lt hlt), upd_same]
  | some cv =>
    obtain ⟨c', e, hco⟩ := ha pos cv hc
    subst e
    refine PySem.W.kla_makeFunctionHit (mg := X.mg) (c := c) (P := P) (ps := ps) (closure_ok hcl) I.ok.glob (I.mod.glob.keeps I.bk) hcode (TBB.code.keeps I.bk) hP' ht hc bP fun ctv h' tk hx hsz => ?_
    rw [ecl]
    have I1 : Inv X pins σ H { s with heap := h', toks := tk } := I.kept fun b o e => hx b o e
    have nf : H h'.objs.size = none := I.hok.fresh hsz
    have I2 := I1.laid (t' := tk) (a := h'.objs.size) (o := LamH h'.objs.size (X.env.qual ++ "<lambda>") params body scope c') (h' := h'.push (lamO (X.env.qual ++ "<lambda>") params body scope ((X.mg "__name__").getD .none) c' ctv)) (fun b u e => Heap.get?_push_of_some _ e) (Nat.le_refl _) (lamH_ok (Heap.get?_push_size _ rfl))
    refine h h'.objs.size c' _ _ I2 (ExtN.of fun b o e => by rw [upd_ne (ne_of_none e nf)]; exact e) (TabOk.new hT nf) (fun b z => ?_) nf upd_same ?_
    · by_cases q : b = h'.objs.size
      · rw [q]; exact nf
      · rw [upd_ne q] at z; exact z
    · rw [upd_ne (ne_of_none hco nf)]; exact hco
end
/-- what a lambda's making wants, and gives -/
def tLamV (q : Str) (params : Arguments) (body : Expr) (scope : Scope) : TE := fun _ H Q => TabOk H ∧ ∀ (f c' : Addr) (H1 : Hp), ExtN H H1 → TabOk H1 → (∀ b, H1 b = none → H b = none) → H f = none → H1 f = some (LamH f q params body scope c') → H1 c' = some (CodeO c' q) → Q (.ref f) H1
theorem pe_lam {X : Cx} {c P : Addr} {params : Arguments} {body : Expr} {scope : Scope} {pos : Pos} (hB : BaseOk X.mg X.base) (hcode : X.env.code = .ref c) (hm : (c, P, X.env.qual ++ "<lambda>") ∈ TB.T) (hdef : defaultsOf params X.env = ([], []) := by rfl) (hfree : ∀ y ∈ scope.names, y.2 ≠ .free := by decide) :
    PE X (.Lambda params body scope pos) (tLamV (X.env.qual ++ "<lambda>") params body scope) := by
  refine ⟨fun pins s σ H Q I h => ?_⟩
  exact lam_make3 I hB hcode hm h.1 hdef hfree fun f c' H1 s' I' e t dm nf a b => ⟨.ref f, H1, I', rfl, h.2 f c' H1 e t dm nf a b⟩
end Y

set_option Elab.async false
set_option linter.all false
set_option maxRecDepth 100000
set_option maxHeartbeats 4000000
namespace Y
open PySem PySem.Spec PyProof.Rows L2 LamX
set_option autoImplicit false
/-! ### data without lists -/
mutual
def nlD : D → Bool
  | .lst _ => false
  | .tup xs => nlDs xs
  | .ins _ _ => false
  | .raw _ => false
  | .dK _ => false
  | .dT _ => false
  | .exc _ _ => false
  | _ => true
def nlDs : List D → Bool
  | [] => true
  | x :: xs => nlD x && nlDs xs
end
mutual
theorem nl_reads {h : Heap} : ∀ (d : D) (p : PyData) (v : Value) (as : List Addr), nlD d = true → toPy d = some p → Reads h v p as → as = []
  | .non, p, v, as, _, e, r => by cases e; cases r; rfl
  | .bl _, p, v, as, _, e, r => by cases e; cases r; rfl
  | .int _, p, v, as, _, e, r => by cases e; cases r; rfl
  | .str _, p, v, as, _, e, r => by cases e; cases r; rfl
  | .lst _, p, v, as, n, e, r => by simp [nlD] at n
  | .ins _ _, p, v, as, n, e, r => by simp [nlD] at n
  | .raw _, p, v, as, n, e, r => by simp [nlD] at n
  | .dK _, p, v, as, n, e, r => by simp [nlD] at n
  | .dT _, p, v, as, n, e, r => by simp [nlD] at n
  | .exc _ _, p, v, as, n, e, r => by simp [nlD] at n
  | .tup ds, p, v, as, n, e, r => by
    unfold toPy at e
    obtain ⟨ps, q, rfl⟩ := Option.map_eq_some_iff.mp e
    cases r with
    | tuple _ _ _ ra => exact nl_readsAll ds ps _ as (by simpa [nlD] using n) q ra
theorem nl_readsAll {h : Heap} : ∀ (ds : List D) (ps : List PyData) (vs : List Value) (as : List Addr), nlDs ds = true → toPys ds = some ps → ReadsAll h vs ps as → as = []
  | [], ps, vs, as, _, e, r => by cases e; cases r; rfl
  | d :: ds, ps, vs, as, n, e, r => by
    simp only [nlDs, Bool.and_eq_true] at n
    unfold toPys at e
    split at e
    · rename_i p ps' w1 w2
      cases e
      cases r with
      | cons r1 r2 => rw [nl_reads d p _ _ n.1 w1 r1, nl_readsAll ds ps' _ _ n.2 w2 r2]; rfl
    · cases e
end
/-! ### sorted by (len(x), x) -/
def lenD : D → Int
  | .tup xs => xs.length
  | _ => 0
def isTupD : D → Bool
  | .tup _ => true
  | _ => false
def pyD (d : D) : PyData := (toPy d).getD .none
def kD (d : D) : PyData := .tuple [.int (lenD d), pyD d]
def leLD (a b : D) : Bool := PySem.W.dataLe false kD a b
def okSort (ds : List D) : Bool := (ds.all fun d => isTupD d && (okD d && (nlD d && decide (dpD d ≤ 60)))) && ds.all fun a => ds.all fun b => PySem.W.alike (kD a) (kD b)
variable [TB]
def sortLK : D → M RV
  | .lst ds => fun e => if okSort ds = true ∧ ds.length ≤ 10000 then .ok (.own (.lst (ds.mergeSort leLD))) e else .bad
  | _ => M.bad
def rSortL (K : PySem.W.Frag) (mg : Mg) (q : Str) (params : Arguments) (body : Expr) (scope : Scope) : List V → List V → Hp → VK → Prop := fun vs zs H Q => ∃ (l f c' : Addr) (bs : List (V × D)), vs = [.ref l] ∧ zs = [.ref f] ∧ H f = some (LamH f q params body scope c') ∧ H c' = some (CodeO c' q) ∧
  SqL K H l (bs.map Prod.fst) ∧ (∀ b ∈ bs, Rep K mg H b.1 b.2) ∧ okSort (bs.map Prod.snd) = true ∧ bs.length ≤ 10000 ∧ ∀ p, H p = none → Q (.ref p) (upd H p (.lst ((bs.mergeSort fun a b => leLD a.2 b.2).map Prod.fst)))
theorem each_vals {R : Value → V × D → Prop} : ∀ {bs : List (V × D)} {us : List Value}, Vals (bs.map Prod.fst) us → (∀ b ∈ bs, ∀ u, RelV b.1 u → R u b) → PySem.W.EachIs R us bs
  | [], us, r, h => by cases r; exact .nil
  | b :: bs, us, r, h => by
    cases r with
    | cons r1 r2 => exact .cons (h b List.mem_cons_self _ r1) (each_vals r2 fun b hb => h b (List.mem_cons_of_mem _ hb))
theorem vals_each {R : Value → V × D → Prop} : ∀ {bs : List (V × D)} {us : List Value}, PySem.W.EachIs R us bs → (∀ b u, R u b → RelV b.1 u) → Vals (bs.map Prod.fst) us
  | [], us, e, h => by cases e; exact .nil
  | b :: bs, us, e, h => by
    cases e with
    | cons r1 r2 => exact .cons (h b _ r1) (vals_each r2 h)
end Y

set_option Elab.async false
set_option linter.all false
set_option maxRecDepth 100000
set_option maxHeartbeats 4000000
namespace Y
open PySem PySem.Spec PyProof.Rows L2 LamX
set_option autoImplicit false
variable [TB]
theorem okD_pyD {d : D} (h : okD d = true) : toPy d = some (pyD d) ∧ PyData.depth (pyD d) = dpD d := by
  obtain ⟨p, h1, h2, h3⟩ := okD_py d h
  unfold pyD
  rw [h1]
  exact ⟨rfl, h3⟩
theorem cr_sortL {X : Cx} {q x : Str} {params : Arguments} {scope : Scope} {p1 p2 p3 p4 p5 : Pos} {j k : Nat} (S : FnScope [x] [x] scope) (hx : scope.names.lookup x = some .local) (hl : scope.names.lookup ("len" : Str) = some .globalImplicit) (hxd : (x == ("__debug__" : Str)) = false)
    (hxc : (x == ("__classdict__" : Str)) = false) (hr : Room (k + 3) X.A) (hm : X.mg "len" = none) (hbd : ∀ (t : Addr) (pm : Value) (c' : Addr) (ctv : Value), bindArgs (PySem.W.kla_fn "<lambda>" q params (lenB x p1 p2 p3 p4 p5 j) scope [] pm (.ref c') ctv) ⟨[.ref t], []⟩ = pure [(x, .ref t)]) :
    CallRK X (.builtin "sorted") [Str.ofString "key"] (rSortL X.K X.mg q params (lenB x p1 p2 p3 p4 p5 j) scope) := by
  intro pins s σ H vs zs us ws Q I r rz h
  obtain ⟨l, f, c', bs, rfl, rfl, hf, hc, hS, hR, hk, hn, hQ⟩ := h
  obtain rfl := Vals.ref1 r
  obtain rfl := Vals.ref1 rz
  obtain ⟨its, rv, hL, hz⟩ := I.list hS
  unfold okSort at hk
  rw [Bool.and_eq_true] at hk
  obtain ⟨hk1, hk2⟩ := hk
  rw [List.all_eq_true] at hk1 hk2
  have each : ∀ b ∈ bs, isTupD b.2 = true ∧ okD b.2 = true ∧ nlD b.2 = true ∧ dpD b.2 ≤ 60 := fun b hb => by
    have := hk1 b.2 (List.mem_map.mpr ⟨b, hb, rfl⟩)
    simp only [Bool.and_eq_true, decide_eq_true_eq] at this
    exact this
  let R : Value → V × D → Prop := fun u b => RelV b.1 u ∧ ∃ (t : Addr) (es : List Value), u = .ref t ∧ IsTup s.heap t es.toArray ∧ es.length ≤ sizeLine ∧ (es.length : Int) = lenD b.2 ∧ Reads s.heap u (pyD b.2) []
  have hE : PySem.W.EachIs R its bs := each_vals rv fun b hb u ru => by
    obtain ⟨h1, h2, h3, h4⟩ := each b hb
    have rp := hR b hb
    obtain ⟨e1, e2⟩ := okD_pyD h2
    obtain ⟨as, rd⟩ := Dp.reads I _ _ _ (rp.dp e1) ru
    have ea := nl_reads b.2 _ _ _ h3 e1 rd
    subst ea
    refine ⟨ru, ?_⟩
    obtain ⟨v, d⟩ := b
    cases d with
    | tup ds =>
      cases rp with
      | tup hT rs =>
        obtain rfl : u = Value.ref _ := ru
        obtain ⟨es, r2, tp, z2⟩ := I.tuple hT
        exact ⟨_, es, rfl, tp, by rw [← r2.length]; exact z2, by show (es.length : Int) = (ds.length : Int); rw [← r2.length, rs.length], rd⟩
    | _ => simp [isTupD] at h1
  have un := hr.un
  refine PySem.W.sorted_key_data (b := false) (fun b : V × D => kD b.2) hL.isList hE ?al ?so ?le ?dp (ksk_s1 _ _) (fun _ => ksk_l1 _ _) (fun _ => ksk_t1 _ _) ?turn ?fin
  case al =>
    intro d hd d' hd'
    obtain ⟨b, hb, rfl⟩ := List.mem_map.mp hd
    obtain ⟨b', hb', rfl⟩ := List.mem_map.mp hd'
    exact (List.all_eq_true.mp (hk2 b.2 (List.mem_map.mpr ⟨b, hb, rfl⟩))) b'.2 (List.mem_map.mpr ⟨b', hb', rfl⟩)
  case so =>
    refine .inl fun d hd => ?_
    obtain ⟨b, hb, rfl⟩ := List.mem_map.mp hd
    exact ⟨_, _, rfl⟩
  case le => exact Nat.le_of_lt (small_line hn)
  case dp =>
    intro b hb
    obtain ⟨h1, h2, h3, h4⟩ := each b hb
    have := (okD_pyD h2).2
    have hd : (kD b.2).depth ≤ 61 := by
      simp [kD, PyData.depth, PyData.depthAll, this]
      omega
    omega
  case turn =>
    intro v b hRb hb hp tk kp
    obtain ⟨ru, t, es, rfl, tp, z, el, rd⟩ := hRb
    have I' : Inv X pins σ H { s with heap := hp, toks := tk } := I.kept fun b o e => kp b o e
    obtain ⟨pm, ctv, hf'⟩ := lamH_at I'.hok hf
    have hc' := I'.hok c' _ hc
    obtain ⟨⟨oc, vs, t0, c1, c2, c3⟩, _, _⟩ := hc'
    have e := I'.env0
    have e0 : Env0 X.prog X.w X.K X.mg X.base X.A.in1.in1 X.stack { s with heap := hp, toks := tk } H := ⟨e.frames, e.mod, e.bs, e.bsz, e.funs, e.frf, e.hok, e.bare⟩
    have tp' : IsTup hp t es.toArray := by
      obtain ⟨o, ho, r⟩ := tp
      exact ⟨o, kp _ _ ho, r⟩
    have := key_len (s := { s with heap := hp, toks := tk }) (d := pyD b.2) hf' ⟨oc, vs, t0, c1, c2, c3⟩ S hx hl hxd hxc hr.in1.in1 e0 hm (hbd t pm c' ctv) tp' z (PyProof.Rows.Reads.keeps (fun b o e => kp b o e) rd)
    unfold kD
    rw [← el]
    exact this
  case fin =>
    intro out c h' tk kp fresh hD hlen eo
    have rv' := vals_each eo fun b u z => z.1
    have np : H (s.heap.objs.size + 1) = none := I.hok.fresh (Nat.le_succ _)
    refine ⟨.ref _, upd H (s.heap.objs.size + 1) (.lst ((bs.mergeSort fun a b => leLD a.2 b.2).map Prod.fst)), I.laid (t' := tk) kp (Nat.le_succ _) ⟨?_, out, c, rv', hD⟩, rfl, hQ _ np⟩
    rw [List.length_map, List.length_mergeSort]
    exact Nat.le_of_lt (small_line hn)
theorem zip_fst {vs : List V} {ds : List D} (h : vs.length = ds.length) : (vs.zip ds).map Prod.fst = vs := by
  rw [List.map_fst_zip]
  omega
theorem zip_snd {vs : List V} {ds : List D} (h : vs.length = ds.length) : (vs.zip ds).map Prod.snd = ds := by
  rw [List.map_snd_zip]
  omega
theorem zip_rep {K : PySem.W.Frag} {mg : Mg} {F : Hp} : ∀ {vs : List V} {ds : List D}, Reps K mg F vs ds → ∀ b ∈ vs.zip ds, Rep K mg F b.1 b.2
  | _, _, .nil, b, hb => by simp at hb
  | _, _, .cons a r, b, hb => by
    rw [List.zip_cons_cons] at hb
    rcases List.mem_cons.mp hb with z | z
    · rw [z]; exact a
    · exact zip_rep r b z
theorem reps_of {K : PySem.W.Frag} {mg : Mg} {F : Hp} : ∀ {bs : List (V × D)}, (∀ b ∈ bs, Rep K mg F b.1 b.2) → Reps K mg F (bs.map Prod.fst) (bs.map Prod.snd)
  | [], _ => .nil
  | b :: bs, h => .cons (h b List.mem_cons_self) (reps_of fun b hb => h b (List.mem_cons_of_mem _ hb))
theorem sqL_smt {K : PySem.W.Frag} {H H' : Hp} (s : SmT H H') {a : Addr} {xs : List V} (h : SqL K H a xs) : SqL K H' a xs := by
  rcases h with (h | ⟨o, h⟩) | h
  · exact .inl (.inl (s.kp _ _ h fun ps z => by cases z))
  · exact .inl (.inr ⟨o, s.kp _ _ h fun ps z => by cases z⟩)
  · exact .inr h
theorem de_sortL {X : Cx} {W : WX} {c P : Addr} {x : Str} {params : Arguments} {scope : Scope} {p1 p2 p3 p4 p5 p lpos kpos pos : Pos} {j k : Nat} {a : Expr} {f : M RV} (hB : BaseOk X.mg X.base) (hcode : X.env.code = .ref c) (hmT : (c, P, X.env.qual ++ "<lambda>") ∈ TB.T)
    (hg : Gl X "sorted") (hms : X.mg "sorted" = none) (hm : X.mg "len" = none) (hr : Room (k + 3) X.A) (ha : DE X W a f)
    (S : FnScope [x] [x] scope := by exact ⟨rfl, rfl, rfl, by decide +kernel, rfl, by decide +kernel, by decide +kernel⟩) (hx : scope.names.lookup x = some .local := by rfl) (hl : scope.names.lookup ("len" : Str) = some .globalImplicit := by rfl) (hxd : (x == ("__debug__" : Str)) = false := by decide)
    (hxc : (x == ("__classdict__" : Str)) = false := by decide) (hbd : ∀ (q : Str) (t : Addr) (pm : Value) (c' : Addr) (ctv : Value), bindArgs (PySem.W.kla_fn "<lambda>" q params (lenB x p1 p2 p3 p4 p5 j) scope [] pm (.ref c') ctv) ⟨[.ref t], []⟩ = pure [(x, .ref t)] := by intros; rfl)
    (hdef : defaultsOf params X.env = ([], []) := by rfl) (hfree : ∀ y ∈ scope.names, y.2 ≠ .free := by decide +kernel)
    (he : starEach [a] X.env = (false, eval a X.env) :: starEach [] X.env := by rfl)
    (he2 : backTo pos (starEach [a] X.env) = (false, eval a X.env) :: backTo pos (starEach [] X.env) := by rfl) (hpl : (backTo pos (starEach [a] X.env)).any (·.1) = false := by rfl)
    (hall : (backToKw pos (keywordEach [⟨some "key", .Lambda params (lenB x p1 p2 p3 p4 p5 j) scope lpos, kpos⟩] X.env)).all (·.1.isSome) = true := by rfl) (hnone : (backToKw pos (keywordEach [⟨some "key", .Lambda params (lenB x p1 p2 p3 p4 p5 j) scope lpos, kpos⟩] X.env)).any (·.1.isNone) = false := by rfl)
    (hks : (backToKw pos (keywordEach [⟨some "key", .Lambda params (lenB x p1 p2 p3 p4 p5 j) scope lpos, kpos⟩] X.env)).filterMap (·.1) = [Str.ofString "key"] := by rfl) :
    DE X W (.Call (.Name "sorted" p) [a] [⟨some "key", .Lambda params (lenB x p1 p2 p3 p4 p5 j) scope lpos, kpos⟩] pos) (rd1 f sortLK) :=
  peW (pe_callBK (cr_sortL S hx hl hxd hxc hr hm (hbd (X.env.qual ++ "<lambda>"))) hg hms (by decide +kernel) (pa_cons ha pa_nil he) (pk_cons (pe_lam hB hcode hmT hdef hfree) pk_nil) (by decide) (by decide) he2 hpl hall hnone hks) fun σ H Q ⟨e, F, R, h⟩ => by
    refine ⟨e, F, R, post_imp (post_seq up_V h) ?_⟩
    rintro y H1 ⟨r1, e1, F1, q1, R1, s1, h1⟩
    refine ⟨R1.tab, fun f c' H2 hE hT hd nf a1 a2 => ?_⟩
    have sm : SmT H1 H2 := ⟨fun b o q n => hE b o q n, hT, hd⟩
    have R2 := R1.ext sm
    have st := Stp.ext R1 sm
    cases w : rdat e1 r1 with
    | none => rw [w] at h1; exact h1.elim
    | some d =>
      rw [w] at h1
      have rd := R1.rd q1 w
      cases d with
      | lst ds =>
        obtain ⟨l, vs, rfl, sq, rs⟩ := rd
        have h2 : post X.K X.mg W (rV X.K X.mg) F1 H2 e1 σ (sortLK (.lst ds) e1) Q := post_from up_V st h1
        unfold sortLK at h2
        dsimp only at h2
        split at h2
        · rename_i hk
          have hlen := rs.length
          have hz := zip_rep rs
          refine ⟨l, f, c', vs.zip ds, rfl, rfl, a1, a2, by rw [zip_fst hlen]; exact sqL_smt sm sq, fun b hb => (hz b hb).mono R2.sub, by rw [zip_snd hlen]; exact hk.1, by rw [List.length_zip]; omega, fun p hp => ?_⟩
          have e3 : ((vs.zip ds).mergeSort fun a b => leLD a.2 b.2).map Prod.snd = ds.mergeSort leLD := by
            rw [PySem.W.sort_maps (s := leLD) Prod.snd fun _ _ _ _ => rfl, zip_snd hlen]
          rw [← e3] at h2
          exact post_newL R2 h2 (reps_of fun b hb => hz b ((List.mergeSort_perm _ _).subset hb)) hp
        · exact h2.elim
      | _ => exact h1.elim
end Y

set_option Elab.async false
set_option linter.all false
set_option maxRecDepth 100000
set_option maxHeartbeats 4000000
/-! an own exception class over ValueError, made with keywords -/
namespace PySem
namespace YEk
open PySem.Spec PySem.W PySem.Calls PyProof.Rows PySem.HandSPX
section
variable {M : Model} {A : Around} {E : Value → Shared → Prop} {h : Heap} {g : Array GenState} {d : Drawn} {t : Nat} {os : OsState}
variable {nm q : Str} {C N : Addr} {bs bm bmB : List Value} {hdct : Bool} {sn : List Str} {sub : List Value} {ab : Bool} {col : Option Bool} {dd : Option Addr} {k0 k1 k2 k3 k5 : Option Value} {B newId initId : String}
theorem check_newK (F : ExcBaseFacts B newId initId bmB) (hT : ∀ X : String, bm.contains (.type X) = bmB.contains (.type X)) {rest : List Value} {kw : List (Str × Value)} {Q : Unit → Shared → Prop}
    (hC : h.get? C = some (excClassObj nm q C N bs bm hdct sn sub ab col dd k0 k1 k2 k3 k5 newId)) (hq : Q () ⟨h, g, d, t, os⟩) : wpAny M A (checkBuiltinCall newId ⟨.ref C :: rest, kw⟩) Q E ⟨h, g, d, t, os⟩ := by
  have hcont : (Value.ref C :: bm).contains (.type B) = true := by rw [List.contains_cons, hT, F.hasB, Bool.or_true]
  have hstar := F.noStar
  simp only [checkBuiltinCall, F.newKind, F.newSplit, F.newRow]
  repeat (first | refine wpAny_loadPart_at hC ?_ | (refine wpAny_isSubtype_exc hC ?_; rw [hcont]) | refine wpAny_staticBase_exc hC ?_ | refine wpAny_madeBy_exc hC ?_ | simp only [bne_self_eq_false, Bool.false_eq_true, if_false] | wp_step)
  exact hq
theorem check_tcK {rest : List Value} {kw : List (Str × Value)} {Q : Unit → Shared → Prop} (hC : h.get? C = some (excClassObj nm q C N bs bm hdct sn sub ab col dd k0 k1 k2 k3 k5 newId))
    (hq : Q () ⟨h, g, d, t, os⟩) : wpAny M A (checkBuiltinCall "type.__call__" ⟨.ref C :: rest, kw⟩) Q E ⟨h, g, d, t, os⟩ := by
  have f3 := tc_sub
  have hT : (⟨h, g, d, t, os⟩ : Shared).TypeIs (.ref C) "type" := ⟨_, hC, rfl⟩
  simp only [checkBuiltinCall, tc_kind, tc_split]
  repeat (any_goals (first | assumption | with_reducible refine wpAny_loadPart_at hC ?_ | with_reducible refine wpAny_onRaise ?_ | with_reducible refine wpAny_map ?_ | wp_step))
end
section
variable {prog : Program} {w : World} {A : Around} {E : Value → Shared → Prop} {R : Result → Shared → Prop} {h : Heap} {g : Array GenState} {d : Drawn} {t : Nat} {os : OsState}
variable {nm q : Str} {C N : Addr} {bs bm bmB : List Value} {hdct : Bool} {sn : List Str} {sub : List Value} {ab : Bool} {col : Option Bool} {dd : Option Addr} {k0 k1 k2 k3 k5 : Option Value} {B newId initId : String}
theorem newK (F : ExcBaseFacts B newId initId bmB) (hT : ∀ X : String, bm.contains (.type X) = bmB.contains (.type X)) {rest : List Value} {kw : List (Str × Value)}
    (hC : h.get? C = some (excClassObj nm q C N bs bm hdct sn sub ab col dd k0 k1 k2 k3 k5 newId))
    (hq : R (.ok (.ret (.ref (h.objs.size + 1)))) ⟨(h.push { cls := .type "tuple", data := .seq rest.toArray }).push
      { cls := .ref C, data := .fields #[.ref h.objs.size, .none, .none, .none, .bool false, .none] }, g, d, t, os⟩) (hrest : rest.length ≤ sizeLine) :
    codeAny (model prog w) A (.builtin newId ⟨.ref C :: rest, kw⟩) R ⟨h, g, d, t, os⟩ := by
  have hends := F.ends
  have hcB : (Value.ref C :: bm).contains (.type B) = true := by rw [List.contains_cons, hT, F.hasB, Bool.or_true]
  have hcA : (Value.ref C :: bm).contains (.type "AttributeError") = false := by rw [List.contains_cons, hT, F.noAttr]; rfl
  have hcN : (Value.ref C :: bm).contains (.type "NameError") = false := by rw [List.contains_cons, hT, F.noName]; rfl
  refine codeAny_builtinAt F.entry ?_
  unfold Builtin.«BaseException.__new__»
  refine wpAt_bind ?_
  show wpAt _ _ _ (stack >>= _) _ _ _
  refine wpAt_bind (wpAt_stack fun p below => wpAt_of_wpAny ?_)
  wp_walk
  refine wpAt_of_wpAny ?_
  rw [F.owner]
  repeat (first | with_reducible refine wpAny_madeHere_exc F.canon hC ?_ | with_reducible refine wpAny_loadPart_at hC ?_ | (with_reducible refine wpAny_isSubtype_exc hC ?_; first | rw [hcB] | rw [hcA] | rw [hcN]) | wp_step)
  show R _ _
  rw [Heap.size_push]
  exact hq
theorem type_callK (F : ExcBaseFacts B newId initId bmB) (hT : ∀ X : String, bm.contains (.type X) = bmB.contains (.type X)) {rest : List Value} {kw : List (Str × Value)} {fI : Addr} {Q : Fin → Shared → Prop}
    (hC : h.get? C = some (excClassObj nm q C N bs bm hdct sn sub ab col dd k0 k1 k2 k3 k5 newId))
    (hi : W.Looks (model prog w) h (typeLookup (.ref C) "__init__") (some (.ref fI))) (hb : ∀ self, W.Looks (model prog w) h (bindSpecial (.ref fI) self) (.ref fI, [self])) (hrest : rest.length ≤ sizeLine)
    (hq : codeAny (model prog w) A (.call (.ref fI) ⟨.ref (h.objs.size + 1) :: rest, kw⟩)
      (fun r s' => match r with | .ok (.ret v) => v = .none ∧ Q (.done (.ret (.ref (h.objs.size + 1)))) s' | .ok _ => False | .error e => E e s')
      ⟨(h.push (W.kdv_tup rest)).push (excO C h.objs.size), g, d, t, os⟩) :
    wpAny (model prog w) A (Builtin.«type.__call__» ⟨.ref C :: rest, kw⟩) Q E ⟨h, g, d, t, os⟩ := by
  repeat (first | with_reducible refine wpAny_loadPart_at hC ?_ | with_reducible refine wpAny_madeBy_exc hC ?_ | wp_step)
  refine codeAny_call_builtin_code (Code.quiet_builtin _ F.quiet) (check_newK F hT hC ?_)
  refine newK F hT hC ?_ hrest
  show wpAny _ _ _ _ _ _
  have k : ∀ b o, h.get? b = some o → ((h.push (W.kdv_tup rest)).push (excO C h.objs.size)).get? b = some o := fun b o e => Heap.get?_push_of_some _ (Heap.get?_push_of_some _ e)
  have hC₁ := k _ _ hC
  have hget : ((h.push (W.kdv_tup rest)).push (excO C h.objs.size)).get? (h.objs.size + 1) = some (excO C h.objs.size) := by heap_get
  have hcC : (Value.ref C :: bm).contains (.ref C) = true := by simp
  have i1 := hi.keeps k
  have b1 := (hb (.ref (h.objs.size + 1))).keeps k
  unfold isInstance
  repeat (first | with_reducible refine wpAny_loadPart_at hget ?_ | (with_reducible refine wpAny_isSubtype_exc hC₁ ?_; rw [hcC]) | wp_step)
  show wpAny _ _ (typeLookup (.ref C) _) _ _ _
  refine i1.at ?_
  refine wpAny_holding (wpAny_bind (b1.at ?_))
  refine wpAny_bind (wpAny_call (codeAny_mono hq fun r s' z => ?_))
  rcases r with e | (v | _ | _ | _) <;> first | exact z | exact z.elim | skip
  obtain ⟨rfl, z⟩ := z
  first
    | exact wpAny_pure (wpAny_pure z)
    | (wp_walk; exact z)
theorem callK (F : ExcBaseFacts B newId initId bmB) (hT : ∀ X : String, bm.contains (.type X) = bmB.contains (.type X)) {rest : List Value} {kw : List (Str × Value)} {fI : Addr}
    (hC : h.get? C = some (excClassObj nm q C N bs bm hdct sn sub ab col dd k0 k1 k2 k3 k5 newId))
    (hi : W.Looks (model prog w) h (typeLookup (.ref C) "__init__") (some (.ref fI))) (hb : ∀ self, W.Looks (model prog w) h (bindSpecial (.ref fI) self) (.ref fI, [self])) (hrest : rest.length ≤ sizeLine)
    (hq : codeAny (model prog w) (A.under (.builtin "type.__call__" ⟨.ref C :: rest, kw⟩)) (.call (.ref fI) ⟨.ref (h.objs.size + 1) :: rest, kw⟩) (W.InitBack (h.objs.size + 1) R)
      ⟨(h.push (W.kdv_tup rest)).push (excO C h.objs.size), g, d, t, os⟩) :
    codeAny (model prog w) A (.call (.ref C) ⟨rest, kw⟩) R ⟨h, g, d, t, os⟩ := by
  have f1 := tc_lookup
  have f2 := tc_bind (.ref C)
  have hTy : (⟨h, g, d, t, os⟩ : Shared).TypeIs (.ref C) "type" := ⟨_, hC, rfl⟩
  refine codeAny_of_tree ?_
  show wpAny _ _ (callAny (.ref C) _) _ _ _
  repeat (any_goals (first | assumption | with_reducible refine wpAny_loadPart_at hC ?_ | wp_step))
  refine ⟨rfl, ?_⟩
  refine codeAny_call_builtin_at (Code.quiet_builtin _ (by decide +kernel)) entry_typeCall (check_tcK hC (type_callK F hT hC hi hb hrest ?_))
  refine codeAny_mono hq fun r s' z => ?_
  rcases r with e | (v | _ | _ | _) <;> exact z
end
end YEk
end PySem

set_option Elab.async false
set_option linter.all false
set_option maxRecDepth 100000
set_option maxHeartbeats 4000000
namespace Y
open PySem PySem.Spec L2
set_option autoImplicit false
variable [TB]
/-! ### own exceptions over ValueError whose __init__ keeps its parameters as fields -/
/-- the base class of the own ones: its __init__ is ValueError's -/
structure CrewC (K : PySem.W.Frag) (B : Addr) : Prop where
  rd : PySem.W.readsIn K B (.type "type") = true
  ga : PySem.W.specialIn K (.ref B) "__getattribute__" = some (some (.builtin "type.__getattribute__"))
  iv : PySem.W.findCls K (.ref B) (.type "type") "__init__" = some (.val (.builtin "ValueError.__init__"))
section
variable {X : Cx} {e : Expr} {es : List Expr} {ta t tk : TA} {p p1 p2 pos : Pos} {B : Addr} {x : Str} {kws : List Keyword}
theorem pe_crew {pl : Sem Bool} (C : CrewC X.K B) (hg : Gl X x) (hm : X.mg x = some (.ref B)) (ha : PA X (e :: es) ta) (hdb : (x == ("__debug__" : Str)) = false := by decide)
    (hc : eval (.Call (.Attribute (.Name x p1) "__init__" p2) (e :: es) [] pos) X.env = (do
      let ov ← eval (.Name x p1) X.env
      standAt p2.atName
      let (f, first) ← holding [ov] (getMethod ov "__init__" pl)
      callWith pos f first (backTo pos (starEach (e :: es) X.env)) (backToKw pos (keywordEach [] X.env))) := by rfl)
    (he : starEach (e :: es) X.env = (false, eval e X.env) :: starEach es X.env := by rfl) (hpl : (backTo pos (starEach es X.env)).any (·.1) = false := by rfl) :
    PE X (.Call (.Attribute (.Name x p1) "__init__" p2) (e :: es) [] pos) (tVeI X.K ta) := by
  refine ⟨fun pins s σ H Q I h => ?_⟩
  refine PySem.W.methodCall_KW (ld_glob I hg hm ?_ hdb) hc
  refine PySem.W.method_cls I.kIn C.ga (PySem.W.cls_value I.kIn C.rd C.iv rfl ?_)
  show wpAny _ _ (callWith pos (Value.builtin "ValueError.__init__") [] (backTo pos (starEach (e :: es) X.env)) []) _ _ _
  refine PyProof.Rows.callWith_method1 (thn (ha.run pos pins _ σ H _ (I.tok _) h) fun us s1 ⟨vs, H1, I1, r1, a, C, ws, ev, hl, T, ea, q⟩ => ?_) he hpl
  subst ev
  cases r1 with
  | @cons _ u0 _ ur ra rw' =>
    obtain rfl : u0 = Value.ref a := ra
    have hlen : ur.length ≤ sizeLine := by
      rw [← Paired.length rw', sizeLine_eq]
      omega
    exact oinit_ok T I1 ea hlen fun s' J => ⟨.non, H1, J, rfl, q⟩
end
/-- the heap when the exception at a has its fields -/
def exH (H : Hp) (a dx C : Addr) (gs : List (Str × V)) : Hp := upd (upd H dx (exd dx gs)) a (exo a C (some dx))
/-- what such an __init__ does -/
def spX (K : PySem.W.Frag) (fs : List Str) : Sp := fun vs H Q _ => ∃ (a C : Addr) (ws : List V), vs = .ref a :: ws ∧ ws.length = fs.length ∧ OexC K C ∧ (∀ f ∈ fs, PySem.W.findIn K (.ref C) f = some none) ∧ H a = some (exo a C none) ∧
  ∀ dx, H dx = none → dx ≠ a → Q .non (exH H a dx C (fs.zip ws).reverse)
def CrewEv (qual : Str) (st : Stmt) (fI : Addr) (p1 p2 p3 p4 p5 : Pos) (m : Str) (j : Nat) : Prop := ∀ (L : Addr) (cdv : Value), ∃ pl : Sem Bool, eval (.Call (.Attribute (.Name "CrewError" p1) "__init__" p2) [.Name "self" p3, .Constant (.str m) j p4] [] p5) (PyProof.Rows.envOfC qual (defScope st) L fI cdv) = (do
      let ov ← eval (.Name "CrewError" p1) (PyProof.Rows.envOfC qual (defScope st) L fI cdv)
      standAt p2.atName
      let (f, first) ← holding [ov] (getMethod ov "__init__" pl)
      callWith p5 f first (backTo p5 (starEach [.Name "self" p3, .Constant (.str m) j p4] (PyProof.Rows.envOfC qual (defScope st) L fI cdv))) (backToKw p5 (keywordEach [] (PyProof.Rows.envOfC qual (defScope st) L fI cdv))))
section
variable {P : Program} {w : World} {K : PySem.W.Frag} {mg : Mg} {base : Heap} {qual : Str} {st : Stmt} {fI B : Addr} {fd : FuncData} {fl gl m : Str} {j : Nat} {p1 p2 p3 p4 p5 p6 p7 p8 p9 p10 p11 p12 p13 p14 : Pos} {dvs : List V} {kws : List (Str × V)} {x : Str}
theorem ex_init1 (Fu : FunD K "__init__" qual (defArgs st) (defBody st) (defScope st) dvs kws fI fd) (S : FnScope ["self", fl] ["self", fl] (defScope st)) (C : CrewC K B) (hm : mg "CrewError" = some (.ref B))
    (hb : defBody st = [.Expr (.Call (.Attribute (.Name "CrewError" p1) "__init__" p2) [.Name "self" p3, .Constant (.str m) j p4] [] p5) p6, .Assign [.Attribute (.Name "self" p7) fl p8] (.Name fl p9) p10])
    (hg : (defScope st).names.lookup ("CrewError" : Str) = some .globalImplicit) (hev : CrewEv qual st fI p1 p2 p3 p4 p5 m j) (hs : Vis (defScope st) "self") (hf : Vis (defScope st) fl) (hd : (fl == ("__debug__" : Str)) = false := by decide) (hcd : (fl == ("__classdict__" : Str)) = false := by decide) :
    FnOk P w K mg base (L2.CX P w) 2 fI fd ["self", fl] (spX K [fl]) := by
  obtain ⟨oc, od, dV, kV, doc, pm, an, cdv, ct, osl, rfl, lk, hcd', _, _⟩ := Fu.ex
  refine fn_of lk hcd' S (fun vs H Q E ⟨a, C, ws, e, l, _⟩ => by rw [e, List.length_cons, l]; rfl) (fun A outer s H vs Q E hr h => ?_)
  rw [hb]
  refine ⟨_, pss_cons (ps_expr (pe_crew (x := "CrewError") C hg hm (pa_cons (pe_var (i := 0) rfl hs) (pa_cons pe_str pa_nil)) (hc := (hev _ _).choose_spec))) (pss_one (ps_ost (pe_var (i := 0) rfl hs) (pe_var (i := 1) rfl hf hd hcd))), ?_⟩
  obtain ⟨a, C, ws, rfl, l, T, nf, ea, q⟩ := h
  obtain ⟨v, rfl⟩ : ∃ v, ws = [v] := by
    match ws, l with
    | [v], _ => exact ⟨v, rfl⟩
  refine ⟨_, rfl, a, C, [.str m], rfl, by simp, T, ea, ?_⟩
  refine ⟨_, rfl, _, rfl, a, C, rfl, T, nf fl (by simp), .inl ⟨ea, fun dx h1 h2 => q dx h1 h2⟩⟩
theorem ex_init2 (Fu : FunD K "__init__" qual (defArgs st) (defBody st) (defScope st) dvs kws fI fd) (S : FnScope ["self", fl, gl] ["self", fl, gl] (defScope st)) (C : CrewC K B) (hm : mg "CrewError" = some (.ref B))
    (hb : defBody st = [.Expr (.Call (.Attribute (.Name "CrewError" p1) "__init__" p2) [.Name "self" p3, .Constant (.str m) j p4] [] p5) p6, .Assign [.Attribute (.Name "self" p7) fl p8] (.Name fl p9) p10, .Assign [.Attribute (.Name "self" p11) gl p12] (.Name gl p13) p14])
    (hg : (defScope st).names.lookup ("CrewError" : Str) = some .globalImplicit) (hev : CrewEv qual st fI p1 p2 p3 p4 p5 m j) (hs : Vis (defScope st) "self") (hf : Vis (defScope st) fl) (hf2 : Vis (defScope st) gl) (hd : (fl == ("__debug__" : Str)) = false := by decide) (hcd : (fl == ("__classdict__" : Str)) = false := by decide)
    (hd2 : (gl == ("__debug__" : Str)) = false := by decide) (hcd2 : (gl == ("__classdict__" : Str)) = false := by decide) :
    FnOk P w K mg base (L2.CX P w) 2 fI fd ["self", fl, gl] (spX K [fl, gl]) := by
  obtain ⟨oc, od, dV, kV, doc, pm, an, cdv, ct, osl, rfl, lk, hcd', _, _⟩ := Fu.ex
  refine fn_of lk hcd' S (fun vs H Q E ⟨a, C, ws, e, l, _⟩ => by rw [e, List.length_cons, l]; rfl) (fun A outer s H vs Q E hr h => ?_)
  rw [hb]
  refine ⟨_, pss_cons (ps_expr (pe_crew (x := "CrewError") C hg hm (pa_cons (pe_var (i := 0) rfl hs) (pa_cons pe_str pa_nil)) (hc := (hev _ _).choose_spec))) (pss_cons (ps_ost (pe_var (i := 0) rfl hs) (pe_var (i := 1) rfl hf hd hcd)) (pss_one (ps_ost (pe_var (i := 0) rfl hs) (pe_var (i := 2) rfl hf2 hd2 hcd2)))), ?_⟩
  obtain ⟨a, C, ws, rfl, l, T, nf, ea, q⟩ := h
  obtain ⟨v, u, rfl⟩ : ∃ v u, ws = [v, u] := by
    match ws, l with
    | [v, u], _ => exact ⟨v, u, rfl⟩
  refine ⟨_, rfl, a, C, [.str m], rfl, by simp, T, ea, ?_⟩
  refine ⟨_, rfl, _, rfl, a, C, rfl, T, nf fl (by simp), .inl ⟨ea, fun dx h1 h2 => ?_⟩⟩
  refine ⟨_, rfl, _, rfl, a, C, rfl, T, nf gl (by simp), .inr ⟨dx, [(fl, v)], upd_same, by rw [upd_ne h2, upd_same], by simp, ?_⟩⟩
  have z := q dx h1 h2
  have e : upd (upd (upd H dx (exd dx [(fl, v)])) a (exo a C (some dx))) dx (exd dx ((gl, u) :: [(fl, v)])) = exH H a dx C (List.zip [fl, gl] [v, u]).reverse := by
    unfold exH
    funext b
    by_cases hb1 : b = dx
    · subst hb1; rw [upd_same, upd_ne h2, upd_same]; rfl
    · rw [upd_ne hb1]
      by_cases hb2 : b = a
      · subst hb2; rw [upd_same, upd_same]
      · rw [upd_ne hb2, upd_ne hb2, upd_ne hb1, upd_ne hb1]
  show Q .non (upd (upd (upd H dx (exd dx [(fl, v)])) a (exo a C (some dx))) dx (exd dx ((gl, u) :: [(fl, v)])))
  rw [e]
  exact z
end
end Y

set_option Elab.async false
set_option linter.all false
set_option maxRecDepth 100000
set_option maxHeartbeats 4000000
namespace Y
open PySem PySem.Spec L2
set_option autoImplicit false
variable [TB]
/-- a class of exceptions, made with the fields fs -/
structure ExcF (K : PySem.W.Frag) (mg : Mg) (c : Str) (C fI : Addr) (fs : List Str) : Prop where
  mgC : mg c = some (.ref C)
  ox : OexC K C
  iC : PySem.W.findIn K (.ref C) "__init__" = some (some (.ref fI))
  tI : PySem.W.typeIn K (.ref fI) = some (.type "function")
  nf : ∀ f ∈ fs, PySem.W.findIn K (.ref C) f = some none
  xf : XfC K C
  ec : ExcC K C
def ExcOk (P : Program) (w : World) (K : PySem.W.Frag) (mg : Mg) (c : Str) (fs : List Str) (n : Nat) (ks : List Str) (gD : List D → List D → List D) : Prop :=
  ∃ C fI fd, ExcF K mg c C fI fs ∧ (∀ base, FnOk P w K mg base (L2.CX P w) 2 fI fd ("self" :: fs) (spX K fs)) ∧ FormOk K mg fd ("self" :: fs) n ks gD
/-! ### made, as a value -/
def tMkV (C : Addr) (n m : Nat) (sp : Sp) (gV : List V → List V → List V) (t tk : TA) : TE := fun σ H Q => t σ H fun vs H1 => tk σ H1 fun zs H2 => vs.length = n ∧ zs.length = m ∧
  ∀ a, H2 a = none → sp (gV (.ref a :: vs) zs) (upd H2 a (exo a C none)) (fun v H3 => v = .non ∧ Q (.ref a) H3) (fun _ _ _ => False)
section
variable {X : Cx} {k n : Nat} {C fI : Addr} {fd : FuncData} {ps ks fs : List Str} {sp : Sp} {x : Str} {p pos : Pos} {e : Expr} {es : List Expr} {kws : List Keyword} {t tk : TA} {g : List Value → List Value → List Value} {gV : List V → List V → List V} {CX : CXT}
theorem run_exV {pins : List (Addr × Obj)} {σ : St} {H : Hp} {s : Shared} {Q : VK} {us ws : List Value} {vs zs : List V} (T : ExcF X.K X.mg x C fI fs) (F : FnOk X.prog X.w X.K X.mg X.base CX k fI fd ps sp) (hr : Room (k + 1) X.A) (hb : KBn X.K fd ps (n + 1) ks g gV)
    (hx : Passes CX X (fun _ _ _ => False)) (I : Inv X pins σ H s) (r : Vals vs us) (rz : Vals zs ws) (l1 : vs.length = n) (l2 : zs.length = ks.length) (hn : n ≤ 1000)
    (h : ∀ a, H a = none → sp (gV (.ref a :: vs) zs) (upd H a (exo a C none)) (fun v H2 => v = .non ∧ Q (.ref a) H2) (fun _ _ _ => False)) :
    wpAny (model X.prog X.w) X.A (call (.ref C) us (ks.zip ws)) (EP X pins σ Q) X.xe s := by
  obtain ⟨nm, q, N, bs, bm, sn, sub, ab, col, dd, k0, k1, k2, k3, k5, hC, hbm⟩ := T.ox.cls
  obtain ⟨hp, g', dr, tk, os⟩ := s
  have hsz : hp.objs.size ≤ hp.objs.size + 1 := Nat.le_succ _
  have hnone : H (hp.objs.size + 1) = none := I.hok.fresh hsz
  have hq := h (hp.objs.size + 1) hnone
  have kk : ∀ b o, hp.get? b = some o → ((hp.push (PySem.W.kdv_tup us)).push (PySem.HandSPX.excO C hp.objs.size)).get? b = some o := fun b o e => Heap.get?_push_of_some _ (Heap.get?_push_of_some _ e)
  have hget : ((hp.push (PySem.W.kdv_tup us)).push (PySem.HandSPX.excO C hp.objs.size)).get? (hp.objs.size + 1) = some (PySem.HandSPX.excO C hp.objs.size) := by heap_get
  have I2 : Inv X pins σ (upd H (hp.objs.size + 1) (exo (hp.objs.size + 1) C none)) ⟨(hp.push (PySem.W.kdv_tup us)).push (PySem.HandSPX.excO C hp.objs.size), g', dr, tk, os⟩ :=
    I.laid (t' := tk) (a := hp.objs.size + 1) (o := exo (hp.objs.size + 1) C none) (h' := (hp.push (PySem.W.kdv_tup us)).push (PySem.HandSPX.excO C hp.objs.size)) kk hsz (exo_ok hget)
  have r1 : Vals (V.ref (hp.objs.size + 1) :: vs) (Value.ref (hp.objs.size + 1) :: us) := .cons rfl r
  have r2 := hb.rel r1 rz
  have e1 : (Value.ref (hp.objs.size + 1) :: us).length = n + 1 := r1.length.symm.trans (congrArg Nat.succ l1)
  have e2 : ws.length = ks.length := rz.length.symm.trans l2
  have hus : us.length ≤ sizeLine := by
    rw [← r.length, l1, sizeLine_eq]
    omega
  refine wpAny_call (PySem.YEk.callK PySem.F.excBase_ValueError (fun Y => PySem.HandSPX.refsVE_contains Y bm hbm) (I.kIn _ _ hC) (PySem.W.looks_findIn I.kIn T.iC) (fun self => PySem.W.bind_fn I.kIn self T.tI) hus
    (codeAny_mono (F.run _ X.stack _ _ ⟨Value.ref (hp.objs.size + 1) :: us, ks.zip ws⟩ (g (Value.ref (hp.objs.size + 1) :: us) ws) _ _ (fun _ _ _ => False) (hr.make C us (ks.zip ws)) (I2.env0.make C us (ks.zip ws)) (hb.to _ (Value.ref (hp.objs.size + 1) :: us) ws I2.kIn e1 e2) r2 hq) fun r s' hq' => ?_))
  cases r with
  | error er => exact hx pins σ _ _ er s' I2 hq'
  | ok fl =>
    cases fl with
    | ret u =>
      obtain ⟨v, H', I3, rv, ev, q3⟩ := I2.after hq'
      subst ev
      exact ⟨rv, ⟨V.ref (hp.objs.size + 1), H', I3, rfl, q3⟩⟩
    | next => exact False.elim hq'
    | brk => exact False.elim hq'
    | cont => exact False.elim hq'
theorem pe_exV (T : ExcF X.K X.mg x C fI fs) (F : FnOk X.prog X.w X.K X.mg X.base CX k fI fd ps sp) (hr : Room (k + 1) X.A) (hg : Gl X x) (hb : KBn X.K fd ps (n + 1) ks g gV) (hx : Passes CX X (fun _ _ _ => False)) (hn : n ≤ 1000)
    (ha : PA X (e :: es) t) (hkw : PK X kws tk) (hall : (backToKw pos (keywordEach kws X.env)).all (·.1.isSome) = true := by rfl) (hks : (backToKw pos (keywordEach kws X.env)).filterMap (·.1) = ks := by rfl)
    (hdb : (x == ("__debug__" : Str)) = false := by decide) (he : starEach (e :: es) X.env = (false, eval e X.env) :: starEach es X.env := by rfl)
    (hpl : ((backTo pos (starEach (e :: es) X.env)).any (·.1) || (backToKw pos (keywordEach kws X.env)).any (·.1.isNone)) = false := by rfl) :
    PE X (.Call (.Name x p) (e :: es) kws pos) (tMkV C n ks.length sp gV t tk) := by
  refine ⟨fun pins s σ H Q I h => ?_⟩
  refine wpAny_Call_Name_kw (ld_glob I hg T.mgC ?_ hdb)
  refine PySem.W.callWith_KW (h₀ := X.base) I.ok.mod.kin T.ox.kC hall (thn (ha.run pos pins s σ H _ I h) fun us s1 ⟨vs, H1, I1, r, q⟩ => ?_) hpl he
  refine thn (hkw.run pos pins s1 σ H1 _ I1 q) fun ws s2 ⟨zs, H2, I2, rz, l1, l2, q2⟩ => ⟨I2.kIn, ?_⟩
  rw [hks]
  exact run_exV T F hr hb hx I2 r rz l1 l2 hn q2
theorem pe_exV0 (T : ExcF X.K X.mg x C fI fs) (F : FnOk X.prog X.w X.K X.mg X.base CX k fI fd ps sp) (hr : Room (k + 1) X.A) (hg : Gl X x) (hb : KBn X.K fd ps 1 ks g gV) (hx : Passes CX X (fun _ _ _ => False)) (hkw : PK X kws tk)
    (hall : (backToKw pos (keywordEach kws X.env)).all (·.1.isSome) = true := by rfl) (hks : (backToKw pos (keywordEach kws X.env)).filterMap (·.1) = ks := by rfl) (hdb : (x == ("__debug__" : Str)) = false := by decide)
    (hpl : ((backTo pos (starEach [] X.env)).any (·.1) || (backToKw pos (keywordEach kws X.env)).any (·.1.isNone)) = false := by rfl) :
    PE X (.Call (.Name x p) [] kws pos) (tMkV C 0 ks.length sp gV tNil tk) := by
  refine ⟨fun pins s σ H Q I h => ?_⟩
  refine wpAny_Call_Name_kw (ld_glob I hg T.mgC ?_ hdb)
  refine PySem.W.callWith_KW0 (h₀ := X.base) I.ok.mod.kin T.ox.kC hall ?_ hpl
  refine thn (hkw.run pos pins s σ H _ I h) fun ws s2 ⟨zs, H2, I2, rz, l1, l2, q2⟩ => ⟨I2.kIn, ?_⟩
  rw [hks]
  exact run_exV (us := []) (vs := []) T F hr hb hx I2 .nil rz rfl l2 (Nat.zero_le _) q2
end
/-! .. in the layer -/
section
variable {K : PySem.W.Frag} {mg : Mg} {F H : Hp} {e : Sl} {σ : St}
theorem newF (R : Rel K mg F e σ H) {p : Addr} {o : HO} (hp : H p = none) (hT : NoTbl o) : Rel K mg (upd F p o) e σ (upd H p o) ∧ Stp F H e σ (upd F p o) (upd H p o) e σ :=
  ⟨(R.new hp).freeze upd_same (R.notOwn hp) (R.free hp) hT, Stp.freeze (R.new hp) upd_same (R.free hp) (Stp.new R hp) (.inl hp)⟩
theorem RepF.app : ∀ {a b : List (Str × V)} {c d : List (Str × D)}, RepF K mg F a c → RepF K mg F b d → RepF K mg F (a ++ b) (c ++ d)
  | _, _, _, _, .nil, h => h
  | _, _, _, _, .cons r t, h => .cons r (RepF.app t h)
theorem RepF.zipR : ∀ {fs : List Str} {ws : List V} {ds : List D}, Reps K mg F ws ds → ws.length = fs.length → RepF K mg F (fs.zip ws).reverse (fs.zip ds).reverse
  | [], _, _, .nil, _ => .nil
  | f :: fs, _, _, .cons r t, h => by
    rw [List.zip_cons_cons, List.zip_cons_cons, List.reverse_cons, List.reverse_cons]
    exact RepF.app (RepF.zipR t (by simpa using h)) (.cons r .nil)
end
def mkE (c : Str) (fs : List Str) (nn mm : Nat) (g : List D → List D → List D) (rs rk : List RV) : M RV := fun e => match valsOf rs, valsOf rk with
  | some ds, some dk => if ds.length = nn ∧ dk.length = mm ∧ (g ds dk).length = fs.length then .ok (.val (.exc c (fs.zip (g ds dk)).reverse)) e else .bad
  | _, _ => .bad
def eExc (c : Str) (fs : List Str) (nn mm : Nat) (g : List D → List D → List D) (as ks : M (List RV)) : M RV := M.bind as fun rs => M.bind ks fun rk => mkE c fs nn mm g rs rk
section
variable {X : Cx} {W : WX} {a : Expr} {es : List Expr} {as ks : M (List RV)} {pos p : Pos} {nn : Nat} {nms fs : List Str} {c : Str} {kws : List Keyword} {gD : List D → List D → List D}
theorem mkE_ok {C fI : Addr} {F2 H2 : Hp} {e2 : Sl} {σ : St} {Q : VK} {rs rk : List RV} {vs zs : List V} {gV : List V → List V → List V} (T : ExcF X.K X.mg c C fI fs)
    (hgD : ∀ (F : Hp) (v : V) (vs zs : List V) (ds dk : List D), Reps X.K X.mg F vs ds → Reps X.K X.mg F zs dk → ds.length = nn → dk.length = nms.length → ∃ ws, gV (v :: vs) zs = v :: ws ∧ Reps X.K X.mg F ws (gD ds dk))
    (R2 : Rel X.K X.mg F2 e2 σ H2) (q1 : Args X.K X.mg F2 σ vs rs) (q2 : Args X.K X.mg F2 σ zs rk) (h2 : post X.K X.mg W (rV X.K X.mg) F2 H2 e2 σ (mkE c fs nn nms.length gD rs rk e2) Q) :
    vs.length = nn ∧ zs.length = nms.length ∧ ∀ a, H2 a = none → spX X.K fs (gV (.ref a :: vs) zs) (upd H2 a (exo a C none)) (fun v H3 => v = .non ∧ Q (.ref a) H3) (fun _ _ _ => False) := by
  unfold mkE at h2
  cases w1 : valsOf rs with
  | none => rw [w1] at h2; exact h2.elim
  | some ds =>
    cases w2 : valsOf rk with
    | none => rw [w1, w2] at h2; exact h2.elim
    | some dk =>
      rw [w1, w2] at h2
      dsimp only at h2
      split at h2
      · rename_i hl
        obtain ⟨hl1, hl2, hl3⟩ := hl
        have r1 := q1.reps w1
        have r2 := q2.reps w2
        refine ⟨by rw [r1.length]; exact hl1, by rw [r2.length]; exact hl2, fun a ha => ?_⟩
        obtain ⟨ws, e1, rw'⟩ := hgD F2 (.ref a) vs zs ds dk r1 r2 hl1 hl2
        rw [e1]
        have lw : ws.length = fs.length := rw'.length.trans hl3
        refine ⟨a, C, ws, rfl, lw, T.ox, T.nf, upd_same, fun dx h1 h2' => ⟨rfl, ?_⟩⟩
        have hdx : H2 dx = none := by rw [upd_ne h2'] at h1; exact h1
        have eH : exH (upd H2 a (exo a C none)) a dx C (fs.zip ws).reverse = upd (upd H2 dx (exd dx (fs.zip ws).reverse)) a (exo a C (some dx)) := by
          unfold exH
          funext b
          by_cases hb : b = a
          · subst hb; rw [upd_same, upd_same]
          · rw [upd_ne hb, upd_ne hb]
            by_cases hb2 : b = dx
            · subst hb2; rw [upd_same, upd_same]
            · rw [upd_ne hb2, upd_ne hb2, upd_ne hb]
        rw [eH]
        obtain ⟨R3, s3⟩ := newF (o := exd dx (fs.zip ws).reverse) R2 hdx (fun ps => exd_tbl)
        have ha3 : upd H2 dx (exd dx (fs.zip ws).reverse) a = none := by rw [upd_ne (Ne.symm h2')]; exact ha
        obtain ⟨R4, s4⟩ := newF (o := exo a C (some dx)) R3 ha3 (fun ps => exo_tbl)
        refine h2 _ _ _ (s3.trans s4) R4 (.exc (dx := dx) (gs := (fs.zip ws).reverse) T.mgC upd_same ?_ ?_)
        · rw [upd_ne h2', upd_same]
        · exact ((RepF.zipR rw' lw).mono s3.fro).mono s4.fro
      · exact h2.elim
theorem de_exc (G : ExcOk X.prog X.w X.K X.mg c fs nn nms gD) (hr : Room 3 X.A) (tk : Takes X W) (hg : Gl X c) (hn : nn ≤ 1000) (ha : DA X W (a :: es) as) (hk : DK X W kws ks)
    (hall : (backToKw pos (keywordEach kws X.env)).all (·.1.isSome) = true := by rfl) (hks : (backToKw pos (keywordEach kws X.env)).filterMap (·.1) = nms := by rfl) (hdb : (c == ("__debug__" : Str)) = false := by decide)
    (he : starEach (a :: es) X.env = (false, eval a X.env) :: starEach es X.env := by rfl) (hpl : ((backTo pos (starEach (a :: es) X.env)).any (·.1) || (backToKw pos (keywordEach kws X.env)).any (·.1.isNone)) = false := by rfl) :
    DE X W (.Call (.Name c p) (a :: es) kws pos) (eExc c fs nn nms.length gD as ks) := by
  obtain ⟨C, fI, fd, T, G, gu, gV, kb, hgD⟩ := G
  refine peW (pe_exV T (G X.base) hr hg kb (passes_call tk fun _ _ _ _ z => z.elim) hn ha hk hall hks hdb he hpl) fun σ H Q ⟨e, F, R, h⟩ => ?_
  refine ⟨e, F, R, post_imp (post_seq up_V h) ?_⟩
  rintro vs H1 ⟨rs, e1, F1, q1, R1, s1, h1⟩
  refine ⟨e1, F1, R1, post_imp (post_seq up_V h1) ?_⟩
  rintro zs H2 ⟨rk, e2, F2, q2, R2, s2, h2⟩
  exact mkE_ok T hgD R2 (q1.mono s2.fro) q2 h2
theorem de_exc0 (G : ExcOk X.prog X.w X.K X.mg c fs 0 nms gD) (hr : Room 3 X.A) (tk : Takes X W) (hg : Gl X c) (hk : DK X W kws ks)
    (hall : (backToKw pos (keywordEach kws X.env)).all (·.1.isSome) = true := by rfl) (hks : (backToKw pos (keywordEach kws X.env)).filterMap (·.1) = nms := by rfl) (hdb : (c == ("__debug__" : Str)) = false := by decide)
    (hpl : ((backTo pos (starEach [] X.env)).any (·.1) || (backToKw pos (keywordEach kws X.env)).any (·.1.isNone)) = false := by rfl) :
    DE X W (.Call (.Name c p) [] kws pos) (eExc c fs 0 nms.length gD aNil ks) := by
  obtain ⟨C, fI, fd, T, G, gu, gV, kb, hgD⟩ := G
  refine peW (pe_exV0 T (G X.base) hr hg kb (passes_call tk fun _ _ _ _ z => z.elim) hk hall hks hdb hpl) fun σ H Q ⟨e, F, R, h⟩ => ?_
  change post X.K X.mg W (rV X.K X.mg) F H e σ (M.bind ks (fun rk => mkE c fs 0 nms.length gD [] rk) e) Q at h
  refine ⟨e, F, R, post_imp (post_seq up_V h) ?_⟩
  rintro zs H2 ⟨rk, e2, F2, q2, R2, s2, h2⟩
  exact mkE_ok T hgD R2 .nil q2 h2
end
end Y

set_option Elab.async false
set_option linter.all false
set_option maxRecDepth 100000
set_option maxHeartbeats 4000000
namespace Y
open PySem PySem.Spec L2
set_option autoImplicit false
variable [TB]
section
variable {X : Cx} {pins : List (Addr × Obj)} {σ : St} {H : Hp} {s : Shared} {a C dx : Addr} {fs : List (Str × V)}
theorem exo_inst (I : Inv X pins σ H s) (ea : H a = some (exo a C (some dx))) (ed : H dx = some (exd dx fs)) :
    ∃ (ox od : Obj) (mA : Str → Option Value), PySem.W.InstAt s.heap a ox C (some od) ∧ (∀ n, PySem.W.lookIn n od = some (mA n)) ∧ ∀ f, RelO (fs.lookup f) (mA f) := by
  obtain ⟨t1, ho⟩ := exo_at I.hok ea
  obtain ⟨mA, hns, rel⟩ := exd_at I.hok ed
  obtain ⟨od, hod, hl⟩ := lookIn_ns hns
  exact ⟨_, od, mA, ⟨ho, rfl, rfl, hod⟩, hl, rel⟩
end
/-! ### a field of an exception that is held as a value -/
def tXV (K : PySem.W.Frag) (f : Str) (te : TE) : TE := fun σ H Q => te σ H fun x H1 => ∃ (a C dx : Addr) (fs : List (Str × V)) (v : V), x = .ref a ∧ H1 a = some (exo a C (some dx)) ∧ H1 dx = some (exd dx fs) ∧ XfC K C ∧ PySem.W.findIn K (.ref C) f = some none ∧ fs.lookup f = some v ∧ Q v H1
theorem pe_xv {X : Cx} {e : Expr} {te : TE} {pos : Pos} {n : Str} (he : PE X e te) (hb : attributeBase e n X.env (eval e X.env) = eval e X.env := by rfl) : PE X (.Attribute e n pos) (tXV X.K n te) := by
  refine ⟨fun pins s σ H Q I h => ?_⟩
  refine attr_of hb (thn (he.run pins s σ H _ I h) fun u s1 hh => ?_)
  obtain ⟨x, H1, I1, rx, a, C, dx, fs, v, ex, ea, ed, T, hno, l, q⟩ := hh
  subst ex
  obtain rfl : u = Value.ref a := rx
  obtain ⟨ox, od, mA, J, hl, hr⟩ := exo_inst I1 ea ed
  obtain ⟨u, hu, ru⟩ := RelO.some_of (v := v) (o := mA n) (by rw [← l]; exact hr n)
  exact HandSPX.exc_get I1.kIn J T.ga T.gg T.exC (PySem.W.findObj_own T.hdC hno rfl (by rw [hl, hu])) (handed_of ru) ⟨v, H1, I1.tok _, ru, q⟩
/-- cs: the classes that may come -/
def fldX (cs : List Str) (n : Str) : D → M RV
  | .exc c fs => fun e => if cs.contains c then (match fs.lookup n with
    | some d => .ok (.val d) e
    | none => .bad) else .bad
  | _ => M.bad
section
variable {X : Cx} {W : WX} {a : Expr} {f : M RV} {pos p : Pos}
theorem de_xv {cs : List Str} {n : Str} (hC : ∀ c ∈ cs, ∃ C, X.mg c = some (.ref C) ∧ XfC X.K C ∧ PySem.W.findIn X.K (.ref C) n = some none) (ha : DE X W a f) (hb : attributeBase a n X.env (eval a X.env) = eval a X.env := by rfl) :
    DE X W (.Attribute a n pos) (rd1 f (fldX cs n)) := peW (pe_xv ha hb) fun σ H Q h0 =>
  rd1_ok (r := fun x H1 Q => ∃ (a C dx : Addr) (fs : List (Str × V)) (v : V), x = .ref a ∧ H1 a = some (exo a C (some dx)) ∧ H1 dx = some (exd dx fs) ∧ XfC X.K C ∧ PySem.W.findIn X.K (.ref C) n = some none ∧ fs.lookup n = some v ∧ Q v H1) (fun F H e σ x d Q R rx h => by
    unfold fldX at h
    split at h
    · rename_i c fs
      split at h
      · rename_i hc
        cases w : fs.lookup n with
        | none => rw [w] at h; exact h.elim
        | some d =>
          rw [w] at h
          obtain ⟨p, dx, C, gs, rfl, m, h1, h2, r⟩ := rx
          obtain ⟨C', m', T, no⟩ := hC c (by simpa using hc)
          rw [m] at m'
          cases m'
          obtain ⟨v, l, rv⟩ := r.look w
          exact ⟨p, C, dx, gs, v, rfl, R.sub _ _ h1, R.sub _ _ h2, T, no, l, post_val R h rv⟩
      · exact h.elim
    · exact h.elim) h0
/-! ### isinstance of such an exception -/
def rIsX (K : PySem.W.Frag) : List V → Hp → VK → Prop := fun xs H Q => ∃ (a C dx : Addr) (fs : List (Str × V)) (c : V) (u : Value) (b : Bool), xs = [.ref a, c] ∧ ClsV c u ∧ H a = some (exo a C (some dx)) ∧ H dx = some (exd dx fs) ∧ ExcC K C ∧ PySem.W.kitOne K (.ref C) u = some b ∧ Q (.bl b) H
theorem call_isX : CallR X (.builtin "isinstance") (rIsX X.K) := by
  intro pins s σ H xs us Q I r h
  obtain ⟨a, C, dx, fs, c, u, b, rfl, k, ea, ed, T, e, q⟩ := h
  obtain ⟨u1, u2, rfl, r1, r2⟩ := vals2 r
  have e2 := k.eq r2
  subst e2
  cases (show u1 = Value.ref a from r1)
  obtain ⟨ox, od, mA, J, hl, hr⟩ := exo_inst I ea ed
  have hcl : (PySem.W.clsIn X.K C).isSome = true := by
    obtain ⟨cd, hc, _⟩ := PySem.W.any_some T.hd
    rw [hc]; rfl
  exact PySem.W.kia_one (PySem.W.kitx_exc hcl T.hg T.hk T.hs T.ha T.hn T.ht T.hm) I.kIn J e (fun z => nomatch z) fun tk => ⟨.bl b, H, I.tok tk, rfl, q⟩
def isX (sub : Str → Option Bool) : D → M RV
  | .exc c _ => fun e => match sub c with
    | some b => .ok (.val (.bl b)) e
    | none => .bad
  | _ => M.bad
theorem isX_ok {sub : Str → Option Bool} {cv : V} {u : Value} (k : ClsV cv u) (hs : ∀ c b, sub c = some b → ∃ C, X.mg c = some (.ref C) ∧ ExcC X.K C ∧ PySem.W.kitOne X.K (.ref C) u = some b) :
    K1 X.K X.mg W (fun x H1 Q => rIsX X.K [x, cv] H1 Q) (isX sub) := fun F H e σ x d Q R rx h => by
  unfold isX at h
  split at h
  · rename_i c fs
    cases w : sub c with
    | none => rw [w] at h; exact h.elim
    | some b =>
      rw [w] at h
      obtain ⟨p, dx, C, gs, rfl, m, h1, h2, r⟩ := rx
      obtain ⟨C', m', T, e1⟩ := hs c b w
      rw [m] at m'
      cases m'
      exact ⟨p, C, dx, gs, cv, u, b, rfl, k, R.sub _ _ h1, R.sub _ _ h2, T, e1, post_val R h (.bl b)⟩
  · exact h.elim
theorem de_isX {c : Str} {C : Addr} {q q2 : Pos} {sub : Str → Option Bool} (hg : Gl X "isinstance") (hm : X.mg "isinstance" = none) (hg2 : Gl X c) (hc : X.mg c = some (.ref C)) (hs : ∀ c b, sub c = some b → ∃ C', X.mg c = some (.ref C') ∧ ExcC X.K C' ∧ PySem.W.kitOne X.K (.ref C') (.ref C) = some b)
    (ha : DE X W a f) (hnd : (c == ("__debug__" : Str)) = false := by decide)
    (he : starEach [a, .Name c q2] X.env = (false, eval a X.env) :: starEach [.Name c q2] X.env := by rfl) (he2 : starEach [.Name c q2] X.env = (false, eval (.Name c q2) X.env) :: starEach [] X.env := by rfl)
    (hpl : (backTo pos (starEach [.Name c q2] X.env)).any (·.1) = false := by rfl) :
    DE X W (.Call (.Name "isinstance" q) [a, .Name c q2] [] pos) (rd1 f (isX sub)) :=
  peW (pe_callB call_isX hg hm (by decide +kernel) (pa_cons ha (pa_cons (pe_glob (v := .ref C) hg2 hc rfl hnd) pa_nil he2) he) (by decide) (by decide) he hpl) fun σ H Q h0 => rd1_ok (isX_ok (.own C) hs) h0
theorem de_isXV {q q2 : Pos} {sub : Str → Option Bool} (hg : Gl X "isinstance") (hm : X.mg "isinstance" = none) (hg2 : Gl X "ValueError") (hc : X.mg "ValueError" = none) (hs : ∀ c b, sub c = some b → ∃ C', X.mg c = some (.ref C') ∧ ExcC X.K C' ∧ PySem.W.kitOne X.K (.ref C') (.type "ValueError") = some b)
    (ha : DE X W a f)
    (he : starEach [a, .Name "ValueError" q2] X.env = (false, eval a X.env) :: starEach [.Name "ValueError" q2] X.env := by rfl) (he2 : starEach [.Name "ValueError" q2] X.env = (false, eval (.Name "ValueError" q2) X.env) :: starEach [] X.env := by rfl)
    (hpl : (backTo pos (starEach [.Name "ValueError" q2] X.env)).any (·.1) = false := by rfl) :
    DE X W (.Call (.Name "isinstance" q) [a, .Name "ValueError" q2] [] pos) (rd1 f (isX sub)) :=
  peW (pe_callB call_isX hg hm (by decide +kernel) (pa_cons ha (pa_cons (pe_bltn (v := .ty "ValueError") hg2 hc boot_ValueError rfl (by decide) (by decide)) pa_nil he2) he) (by decide) (by decide) he hpl) fun σ H Q h0 => rd1_ok (isX_ok (.ty "ValueError") hs) h0
/-! ### isinstance(ValueError('x'), C) -/
def vexO (a : Addr) : HO := .ext fun h => PySem.W.KitAt a "ValueError" h
theorem pe_vex {m : Str} {j : Nat} {p2 : Pos} (hg : Gl X "ValueError") (hm : X.mg "ValueError" = none) : PE X (.Call (.Name "ValueError" p) [.Constant (.str m) j p2] [] pos) (fun σ H Q => ∀ a, H a = none → Q (.ref a) (upd H a (vexO a))) := by
  refine ⟨fun pins s σ H Q J h => ?_⟩
  refine wpAny_Call_Name_kw (ld_blt J hg hm boot_ValueError ?_ (by decide) (by decide))
  refine PyProof.Rows.callWith_type1 (thn ((pa_cons pe_str pa_nil : PA X [.Constant (.str m) j p2] _).run pos pins s σ H (fun vs H1 => vs.length = 1 ∧ ∀ a, H1 a = none → Q (.ref a) (upd H1 a (vexO a))) J ⟨rfl, h⟩) fun us s1 hh => ?_) rfl rfl
  obtain ⟨vs, H1, I1, r1, lv, q1⟩ := hh
  obtain ⟨hp1, g1, d1, tk1, os1⟩ := s1
  refine wpAny_call_exc exb_ValueError.call (fun h' a mk => ?_) (by rw [← r1.length, lv, sizeLine_eq]; omega)
  obtain ⟨t, ht, _, _⟩ := mk.there
  have hn : H1 a = none := I1.hok.gone mk.new
  have ok : PySem.W.KitAt a "ValueError" h' := ⟨_, ht, rfl⟩
  exact ⟨.ref a, upd H1 a (vexO a), I1.laidN mk.keeps mk.new hn ⟨ok, ⟨_, ht⟩, fun _ _ ⟨o, e1, e2⟩ k => ⟨o, k o e1, e2⟩⟩, rfl, q1 a hn⟩
theorem call_isVX : CallR X (.builtin "isinstance") (fun xs H Q => ∃ (a : Addr) (c : V) (u : Value) (b : Bool), xs = [.ref a, c] ∧ ClsV c u ∧ H a = some (vexO a) ∧ PySem.W.kitOne X.K (.type "ValueError") u = some b ∧ Q (.bl b) H) := by
  intro pins s σ H xs us Q I r h
  obtain ⟨a, c, u, b, rfl, k, ea, e, q⟩ := h
  obtain ⟨u1, u2, rfl, r1, r2⟩ := vals2 r
  have e2 := k.eq r2
  subst e2
  cases (show u1 = Value.ref a from r1)
  have z : ObjOk X.prog X.w H s.heap a (.ext fun h => PySem.W.KitAt a "ValueError" h) := I.hok a _ ea
  exact PySem.W.kia_one (PySem.W.kitx_bexc PySem.F.excAttr_ValueError (by kernel_rfl) (by kernel_rfl) (by decide +kernel)) I.kIn z.1 e (fun z => nomatch z) fun tk => ⟨.bl b, H, I.tok tk, rfl, q⟩
theorem de_isVX {c m : Str} {C : Addr} {j : Nat} {q q2 q3 q4 q5 : Pos} {b : Bool} (hg : Gl X "isinstance") (hm : X.mg "isinstance" = none) (hgv : Gl X "ValueError") (hv : X.mg "ValueError" = none) (hg2 : Gl X c) (hc : X.mg c = some (.ref C)) (hs : PySem.W.kitOne X.K (.type "ValueError") (.ref C) = some b) (hnd : (c == ("__debug__" : Str)) = false := by decide)
    (he : starEach [.Call (.Name "ValueError" q3) [.Constant (.str m) j q4] [] q5, .Name c q2] X.env = (false, eval (.Call (.Name "ValueError" q3) [.Constant (.str m) j q4] [] q5) X.env) :: starEach [.Name c q2] X.env := by rfl)
    (he2 : starEach [.Name c q2] X.env = (false, eval (.Name c q2) X.env) :: starEach [] X.env := by rfl)
    (hpl : (backTo pos (starEach [.Name c q2] X.env)).any (·.1) = false := by rfl) :
    DE X W (.Call (.Name "isinstance" q) [.Call (.Name "ValueError" q3) [.Constant (.str m) j q4] [] q5, .Name c q2] [] pos) (eC (.bl b)) :=
  peW (pe_callB call_isVX hg hm (by decide +kernel) (pa_cons (pe_vex hgv hv) (pa_cons (pe_glob (v := .ref C) hg2 hc rfl hnd) pa_nil he2) he) (by decide) (by decide) he hpl) fun σ H Q ⟨e, F, R, h⟩ =>
    fun a ha => ⟨a, .ref C, .ref C, b, rfl, .own C, upd_same, hs, h _ F _ (Stp.new R ha) (R.new ha) (.bl b)⟩
end
end Y

set_option Elab.async false
set_option linter.all false
set_option maxRecDepth 100000
set_option maxHeartbeats 4000000
namespace Y
open PySem PySem.Spec L2 He
set_option autoImplicit false
/-! ### the Hook, with the interpreter's own statics -/
def asY (g : Addr → Option Obj) (n : Nat) : List Addr := He.asD g n ++ [cStatics]
def obsY (n : Nat) (fa : List Fa) (fn : List DefD) (tf : List Defn) (ex : PySem.W.Frag → Bool) (g : Addr → Option Obj) : AlX := (obsT fa fn [] (frT g (asY g n)), ex (frT g (asY g n)) && tabsB g tf (frT g (asY g n)))
theorem saysY_of {n : Nat} {fa : List Fa} {fn : List DefD} {tf : List Defn} {ex : PySem.W.Frag → Bool} {w : World} {h : Heap} (e : obsY n fa fn tf ex h.get? = valX fn [] w) : SaysX fa fn [] tf ex w h (frT h.get? (asY h.get? n)) := by
  have e1 : obsT fa fn [] (frT h.get? (asY h.get? n)) = valT fn [] w := congrArg (fun z : AlX => z.1) e
  have e2 : (ex (frT h.get? (asY h.get? n)) && tabsB h.get? tf (frT h.get? (asY h.get? n))) = true := congrArg (fun z : AlX => z.2) e
  obtain ⟨h1, h2⟩ := ba e2
  have key : ∀ p ∈ tf, PySem.W.codeHdIn (frT h.get? (asY h.get? n)) (He.cT (frT h.get? (asY h.get? n)) p).1 (He.cT (frT h.get? (asY h.get? n)) p).2 = true ∧ ∃ o, h.get? (He.cT (frT h.get? (asY h.get? n)) p).2 = some o ∧ emptyTab o = true := fun p hp => by
    obtain ⟨h3, h4⟩ := ba (List.all_eq_true.mp h2 p hp)
    refine ⟨h3, ?_⟩
    cases q : h.get? (He.cT (frT h.get? (asY h.get? n)) p).2 with
    | none =>
      rw [q] at h4
      cases h4
    | some o =>
      rw [q] at h4
      exact ⟨o, rfl, h4⟩
  exact ⟨e1, h1, fun p hp => (key p hp).1, fun p hp => by
    obtain ⟨_, o, q, z⟩ := key p hp
    exact frT_none q z, fun p hp => by
    obtain ⟨_, o, q, z⟩ := key p hp
    rw [q, emptyTab_eq z]⟩
def hookY (n : Nat) (fa : List Fa) (fn : List DefD) (tf : List Defn) (ex : PySem.W.Frag → Bool) : PySem.W.Hook where
  α := AlX
  obs := fun s => obsY n fa fn tf ex s.heap.get?
  val := fun w => valX fn [] w
  says := fun w h => ∃ K : PySem.W.Frag, K.In h ∧ SaysX fa fn [] tf ex w h K
  of := fun _ _ e => ⟨_, frT_in, saysY_of e⟩
  keeps := fun _ _ _ ⟨K, hK, c⟩ k => ⟨K, PySem.W.Frag.In.keeps hK k, ⟨c.t, c.more, c.hd, c.out, fun p hp => k _ _ (c.empty p hp)⟩⟩
theorem obsY_eq {n : Nat} {fa : List Fa} {fn : List DefD} {tf : List Defn} {ex : PySem.W.Frag → Bool} {g : Addr → Option Obj} {s : Shared} (h : ∀ a, g a = s.heap.get? a) : obsY n fa fn tf ex g = (hookY n fa fn tf ex).obs s := by
  have e : g = s.heap.get? := funext h
  rw [e] <;> rfl
/-! TB from here -/
variable [TB]
/-! ### facts of the text, by the head's look -/
def dB {α : Type} [DecidableEq α] (a b : α) : Bool := decide (a = b)
theorem dB_ok {α : Type} [DecidableEq α] {a b : α} (h : dB a b = true) : a = b := of_decide_eq_true h
def oexB (K : PySem.W.Frag) (C : Addr) : Bool := match K.lookup C with
  | some ⟨.type t, _, .cls cd, sl⟩ => decide (t = "type") && (cd.hasDict && (!cd.hasDel && (match cd.mro, sl.toList with
    | .ref C' :: bm, [_, _, _, _, some (.builtin n), _] => decide (C' = C) && (decide (n = "ValueError.__new__") && PySem.HandSPX.refsVE bm)
    | _, _ => false)))
  | _ => false
theorem oexB_ok {K : PySem.W.Frag} {C : Addr} (h : oexB K C = true) : ∃ nm q N bs bm sn sub ab col dd k0 k1 k2 k3 k5, K.lookup C = some (excClassObj nm q C N bs bm true sn sub ab col dd k0 k1 k2 k3 k5 "ValueError.__new__") ∧ PySem.HandSPX.refsVE bm = true := by
  unfold oexB at h
  split at h
  · rename_i t dd cd sl ho
    obtain ⟨h1, h⟩ := ba h
    obtain ⟨h2, h⟩ := ba h
    obtain ⟨h3, h⟩ := ba h
    split at h
    · rename_i C' bm k0 k1 k2 k3 n k5 hm hs
      obtain ⟨h4, h⟩ := ba h
      obtain ⟨h5, h6⟩ := ba h
      have e1 : t = "type" := of_decide_eq_true h1
      have e4 : C' = C := of_decide_eq_true h4
      have e5 : n = "ValueError.__new__" := of_decide_eq_true h5
      subst e1 e4 e5
      obtain ⟨nm, bs, mro, ns, qn, hd, sn, sub, ab, col, del⟩ := cd
      dsimp only at hm h2 h3
      subst hm h2
      have hdel : del = false := by simpa using h3
      subst hdel
      have hsl : sl = #[k0, k1, k2, k3, some (.builtin "ValueError.__new__"), k5] := by
        obtain ⟨l⟩ := sl
        simp only at hs
        rw [hs]
      subst hsl
      exact ⟨nm, qn, ns, bs, bm, sn, sub, ab, col, dd, k0, k1, k2, k3, k5, ho, h6⟩
    · cases h
  · cases h
abbrev FI := PySem.W.findIn
def excB (K : PySem.W.Frag) (C : Addr) (fs : List Str) : Bool := oexB K C && (dB (FI K (.ref C) "__setattr__") (some (some (.builtin "object.__setattr__"))) && (dB (PySem.W.subIn K (.ref C) (.type "BaseException")) (some true) && (dB (PySem.W.typeIn K (.ref C)) (some (.type "type")) && (PySem.W.keepIn K (.ref C) &&
  (dB (FI K (.ref C) "__init__") (some (some (.ref (ma K C "__init__")))) && (dB (PySem.W.typeIn K (.ref (ma K C "__init__"))) (some (.type "function")) && (fs.all (fun f => dB (FI K (.ref C) f) (some none)) && (dB (FI K (.ref C) "__getattribute__") (some (some (.builtin "BaseException.__getattribute__"))) &&
  (dB (FI K (.ref C) "__getattr__") (some none) && (PySem.W.hasDictIn K C && (dB (FI K (.ref C) "__class__") (some (some (.builtin "object.__class__"))) && (dB (PySem.W.specialIn K (.builtin "object.__class__") "__get__") (some (some (.builtin "getset_descriptor.__get__"))) &&
  (dB (PySem.W.takesIn K (.builtin "object.__class__")) (some true) && dB (PySem.W.mroIn K C (.type "object")) (some true))))))))))))))
theorem excB_ok {K : PySem.W.Frag} {mg : Mg} {c : Str} {C : Addr} {fs : List Str} (m : mg c = some (.ref C)) (h : excB K C fs = true) : ExcF K mg c C (ma K C "__init__") fs := by
  obtain ⟨a1, h⟩ := ba h
  obtain ⟨a2, h⟩ := ba h
  obtain ⟨a3, h⟩ := ba h
  obtain ⟨a4, h⟩ := ba h
  obtain ⟨a5, h⟩ := ba h
  obtain ⟨a6, h⟩ := ba h
  obtain ⟨a7, h⟩ := ba h
  obtain ⟨a8, h⟩ := ba h
  obtain ⟨a9, h⟩ := ba h
  obtain ⟨a10, h⟩ := ba h
  obtain ⟨a11, h⟩ := ba h
  obtain ⟨a12, h⟩ := ba h
  obtain ⟨a13, h⟩ := ba h
  obtain ⟨a14, a15⟩ := ba h
  exact ⟨m, ⟨oexB_ok a1, dB_ok a2, dB_ok a3, dB_ok a4, a5⟩, dB_ok a6, dB_ok a7, fun f hf => dB_ok (List.all_eq_true.mp a8 f hf), ⟨dB_ok a9, dB_ok a10, dB_ok a3, a11⟩, ⟨dB_ok a9, dB_ok a10, dB_ok a3, a11, dB_ok a12, dB_ok a13, dB_ok a14, dB_ok a15⟩⟩
def crewB (K : PySem.W.Frag) (B : Addr) : Bool := PySem.W.readsIn K B (.type "type") && (dB (PySem.W.specialIn K (.ref B) "__getattribute__") (some (some (.builtin "type.__getattribute__"))) && (match PySem.W.findCls K (.ref B) (.type "type") "__init__" with
  | some (.val (.builtin n)) => dB n "ValueError.__init__"
  | _ => false))
theorem crewB_ok {K : PySem.W.Frag} {B : Addr} (h : crewB K B = true) : CrewC K B := by
  obtain ⟨a1, h⟩ := ba h
  obtain ⟨a2, h⟩ := ba h
  refine ⟨a1, dB_ok a2, ?_⟩
  split at h
  · rename_i n e
    rw [e, dB_ok h]
  · cases h
def clsB (K : PySem.W.Frag) (C : Addr) : Bool := PySem.W.plainGet K C Str.empty && (PySem.W.hasDictIn K C && (PySem.W.plainOver K C && (dB (FI K (.ref C) "__setattr__") (some (some (.builtin "object.__setattr__"))) && (dB (FI K (.ref C) "__class__") (some (some (.builtin "object.__class__"))) &&
  (dB (PySem.W.specialIn K (.builtin "object.__class__") "__get__") (some (some (.builtin "getset_descriptor.__get__"))) && (dB (PySem.W.takesIn K (.builtin "object.__class__")) (some true) && (dB (PySem.W.mroIn K C (.type "object")) (some true) && (PySem.W.isClsIn K C && (dB (PySem.W.typeIn K (.ref C)) (some (.type "type")) &&
  (["NoneType", "bool", "int", "str", "list", "tuple"].all fun t => dB (PySem.W.subIn K (.type t) (.ref C)) (some false)))))))))))
theorem clsB_ok {K : PySem.W.Frag} {h : Heap} {mg : Mg} {c : Str} (X : K.In h) (G : h.Ns mainGlobals mg) (a : (Fa.glo c).ok K = true) (h : clsB K (ga K c) = true) : ClsF K mg c (ga K c) := by
  obtain ⟨a1, h⟩ := ba h
  obtain ⟨a2, h⟩ := ba h
  obtain ⟨a3, h⟩ := ba h
  obtain ⟨a4, h⟩ := ba h
  obtain ⟨a5, h⟩ := ba h
  obtain ⟨a6, h⟩ := ba h
  obtain ⟨a7, h⟩ := ba h
  obtain ⟨a8, h⟩ := ba h
  obtain ⟨a9, h⟩ := ba h
  obtain ⟨a10, h⟩ := ba h
  rw [List.all_eq_true] at h
  have z : ∀ t ∈ ["NoneType", "bool", "int", "str", "list", "tuple"], PySem.W.subIn K (.type t) (.ref (ga K c)) = some false := fun t ht => dB_ok (h t ht)
  exact cls_mk X G (eqO_ok a) a1 a2 a3 (dB_ok a4) (dB_ok a5) (dB_ok a6) (dB_ok a7) (dB_ok a8) a9 (dB_ok a10) (z _ (by simp)) (z _ (by simp)) (z _ (by simp)) (z _ (by simp)) (z _ (by simp)) (z _ (by simp))
/-! ### forms of making -/
section
variable {K : PySem.W.Frag} {mg : Mg} {x qual : Str} {params : Arguments} {body : List Stmt} {scope : Scope} {kws : List (Str × V)} {f : Addr} {fd : FuncData} {ps ks : List Str} {n : Nat}
theorem form_of (F : FunD K x qual params body scope [] kws f fd) (g : {α : Type} → List α → List α → List α) (gD : List D → List D → List D)
    (hrel : ∀ {vs zs : List V} {us ws : List Value}, Vals vs us → Vals zs ws → Vals (g vs zs) (g us ws))
    (h : ∀ (kV doc pm : Value) (an : Option Addr) (cdv ct : Value) (us ws : List Value), us.length = n + 1 → ws.length = ks.length → bindArgs (PySem.W.fnOf x qual params body scope .none kV doc pm an cdv ct) ⟨us, ks.zip ws⟩ = pure (ps.zip (g us ws)))
    (hD : ∀ (F : Hp) (v : V) (vs zs : List V) (ds dk : List D), Reps K mg F vs ds → Reps K mg F zs dk → ds.length = n → dk.length = ks.length → ∃ ws, g (v :: vs) zs = v :: ws ∧ Reps K mg F ws (gD ds dk)) : FormOk K mg fd ps n ks gD := by
  obtain ⟨oc, od, dV, kV, doc, pm, an, cdv, ct, osl, rfl, lk, hcd, hDf, hK⟩ := F.ex
  rcases hDf with ⟨_, rfl⟩ | ⟨e, _⟩
  · exact ⟨fun us ws => g us ws, fun vs zs => g vs zs, ⟨fun s us ws _ l1 l2 => .of_eq (h kV doc pm an cdv ct us ws l1 l2), fun r1 r2 => hrel r1 r2⟩, hD⟩
  · exact absurd rfl e
/-- positional values alone -/
theorem form_pos (F : FunD K x qual params body scope [] kws f fd) (h : ∀ (kV doc pm : Value) (an : Option Addr) (cdv ct : Value) (us ws : List Value), us.length = n + 1 → ws.length = ([] : List Str).length → bindArgs (PySem.W.fnOf x qual params body scope .none kV doc pm an cdv ct) ⟨us, ([] : List Str).zip ws⟩ = pure (ps.zip us)) :
    FormOk K mg fd ps n [] (fun a _ => a) := form_of F (fun us _ => us) _ (fun r _ => r) h fun F v vs zs ds dk r1 _ _ _ => ⟨vs, rfl, r1⟩
/-- keywords alone, in the parameters' order -/
theorem form_kw (F : FunD K x qual params body scope [] kws f fd) (h : ∀ (kV doc pm : Value) (an : Option Addr) (cdv ct : Value) (us ws : List Value), us.length = 0 + 1 → ws.length = ks.length → bindArgs (PySem.W.fnOf x qual params body scope .none kV doc pm an cdv ct) ⟨us, ks.zip ws⟩ = pure (ps.zip (us ++ ws))) :
    FormOk K mg fd ps 0 ks (fun _ b => b) := form_of F (fun us ws => us ++ ws) _ (fun r s => r.append s) h fun F v vs zs ds dk r1 r2 h1 _ => by
  cases r1 with
  | nil => exact ⟨zs, rfl, r2⟩
  | cons _ _ => cases h1
/-- two keywords, exchanged -/
theorem form_kws (F : FunD K x qual params body scope [] kws f fd) (hk : ks.length = 2) (h : ∀ (kV doc pm : Value) (an : Option Addr) (cdv ct : Value) (us ws : List Value), us.length = 0 + 1 → ws.length = ks.length → bindArgs (PySem.W.fnOf x qual params body scope .none kV doc pm an cdv ct) ⟨us, ks.zip ws⟩ = pure (ps.zip (us ++ swap2 ws))) :
    FormOk K mg fd ps 0 ks (fun _ b => swap2 b) := form_of F (fun us ws => us ++ swap2 ws) _ (fun r s => r.append (vals_swap2 s)) h fun F v vs zs ds dk r1 r2 h1 h2 => by
  cases r1 with
  | cons _ _ => cases h1
  | nil =>
    refine ⟨swap2 zs, rfl, ?_⟩
    rw [hk] at h2
    cases r2 with
    | nil => cases h2
    | cons p r2 => cases r2 with
      | nil => cases h2
      | cons q r2 => cases r2 with
        | nil => exact .cons q (.cons p .nil)
        | cons _ _ => cases h2
end
/-! ### the end, with tables -/
theorem cx_none {P : Program} {w : World} {H : Hp} {s : Shared} {e : Value} {s' : Shared} (z : L2.CX P w [] H s (fun _ _ _ => False) e s') : False := by
  obtain ⟨_, _, _, _, _, _, _, _, _, _, _, _, y⟩ := z
  exact y.elim
theorem law_at {l : PySem.W.OpenLaw} {w : World} {K : PySem.W.Frag} {k : Nat} {mg : Mg} {fa : Addr} {h : Heap} {tf : List Defn} {x p : Str} {fn : Fn} (X : K.In h)
    (hd : ∀ p ∈ tf, PySem.W.codeHdIn K (He.cT K p).1 (He.cT K p).2 = true) (out : ∀ p ∈ tf, K.lookup (He.cT K p).2 = none) (empty : ∀ p ∈ tf, h.get? (He.cT K p).2 = some { cls := .none, data := .fields #[] })
    (hT : ∀ q ∈ TB.T, ∃ p ∈ tf, q.1 = (He.cT K p).1 ∧ q.2.1 = (He.cT K p).2) (G : CallOk l.prog w K mg x k [p] fn) (hm : mg x = some (.ref fa)) (ht : ∀ ns : List Int, ns.length ≤ 63 → ∃ e, fn [.val (.lst (ns.map D.int))] = .ok (.val (.bl true)) e) :
    LamX.LawAtS l w K (L2.CX l.prog w) k 63 p mg fa h := by
  obtain ⟨fd, hb, hF⟩ := law_end G hm ht
  refine ⟨fd, tf.map (He.cT K), spTrue K, fun q hq => ?_, fun q hq => ?_, fun q hq => ?_, hb, fun H a ns hl _ hH hS => ⟨a, ns, rfl, hS, hl, fun q hq => ?_, fun _ => rfl⟩, fun base b1 b2 b3 => hF base b1 b2 fun q hq => ?_⟩
  · obtain ⟨z, hz, rfl⟩ := List.mem_map.mp hq
    exact empty z hz
  · obtain ⟨z, hz, rfl⟩ := List.mem_map.mp hq
    exact out z hz
  · obtain ⟨z, hz, rfl⟩ := List.mem_map.mp hq
    exact PySem.W.codeHd_of_K X (hd z hz)
  · obtain ⟨r, hr, rfl⟩ := List.mem_map.mp hq
    obtain ⟨z, hz, e1, e2⟩ := hT r hr
    refine ⟨#[], by rw [e2]; exact hH _ (List.mem_map.mpr ⟨z, hz, rfl⟩), ?_, ?_⟩
    · exact trivial
    · intro pos cv hc
      cases hc
  · obtain ⟨z, hz, e1, e2⟩ := hT q hq
    rw [e1, e2]
    exact b3 _ (List.mem_map.mpr ⟨z, hz, rfl⟩)
end Y

set_option Elab.async false
set_option linter.all false
set_option maxRecDepth 100000
set_option maxHeartbeats 4000000
namespace Lw
open PySem PySem.Spec L2 Y
set_option autoImplicit false
variable [TB]
def topS (i : Nat) : Stmt := PySem.Challenge.pw_crewlags_k04_exceptions.main.body.getD i (.Pass ⟨0, 0, 0, 0⟩)
abbrev s__law_draw : Stmt := topS 30
abbrev s__law_one : Stmt := topS 31
abbrev s__law_taken : Stmt := topS 32
abbrev s__law_by_place : Stmt := topS 33
abbrev s__law_by_name : Stmt := topS 34
abbrev s__law_fields : Stmt := topS 35
abbrev s__law_right : Stmt := topS 36
abbrev s_law : Stmt := topS 37
abbrev sx_NoNumber : Stmt := inClass (topS 2) 0
abbrev sx_NoShape : Stmt := inClass (topS 3) 0
abbrev sx_NoSet : Stmt := inClass (topS 4) 0
abbrev sx_NoDurations : Stmt := inClass (topS 5) 0
abbrev sx_NoWeights : Stmt := inClass (topS 6) 0
abbrev sx_NoBound : Stmt := inClass (topS 7) 0
abbrev sx_NoPairs : Stmt := inClass (topS 8) 0
abbrev sx_NoOrder : Stmt := inClass (topS 9) 0
abbrev sx_NoGraph : Stmt := inClass (topS 10) 0
abbrev sx_NoStarts : Stmt := inClass (topS 11) 0
abbrev sx_NoSchedule : Stmt := inClass (topS 12) 0
abbrev sx_NoActivity : Stmt := inClass (topS 13) 0
abbrev sx_NoText : Stmt := inClass (topS 14) 0
abbrev sx_NoChange : Stmt := inClass (topS 15) 0
abbrev sx_NoCalendar : Stmt := inClass (topS 16) 0
abbrev sx_NoProject : Stmt := inClass (topS 17) 0
abbrev sx_NoChoice : Stmt := inClass (topS 18) 0
abbrev sx_NoAhead : Stmt := inClass (topS 19) 0
abbrev sx_NoDerivation : Stmt := inClass (topS 20) 0
abbrev sx_NoPlan : Stmt := inClass (topS 21) 0
abbrev sx_NoRota : Stmt := inClass (topS 22) 0
abbrev sx_NoMix : Stmt := inClass (topS 23) 0
abbrev sx_NoBlind : Stmt := inClass (topS 24) 0
abbrev sx_NoFixed : Stmt := inClass (topS 25) 0
abbrev sx_NotBeside : Stmt := inClass (topS 26) 0
abbrev sx_NoBox : Stmt := inClass (topS 27) 0
abbrev sx_TooGreat : Stmt := inClass (topS 28) 0
def xs : List Str := ["NoNumber", "NoShape", "NoSet", "NoDurations", "NoWeights", "NoBound", "NoPairs", "NoOrder", "NoGraph", "NoStarts", "NoSchedule", "NoActivity", "NoText", "NoChange", "NoCalendar", "NoProject", "NoChoice", "NoAhead", "NoDerivation", "NoPlan", "NoRota", "NoMix", "NoBlind", "NoFixed", "NotBeside", "NoBox", "TooGreat"]
def subE (n : Str) (c : Str) : Option Bool := if xs.contains c then some (c == n) else none
def subC (c : Str) : Option Bool := if xs.contains c then some true else none
def xa_fault : List Str := ["NoSchedule", "NoPlan"]
def xa_index : List Str := ["NoShape", "NoDurations", "NoWeights", "NoBound", "NoPairs", "NoOrder", "NoGraph", "NoStarts", "NoCalendar", "NoProject", "NoChoice", "NoAhead", "NoDerivation", "NoRota", "NoMix", "NoBlind", "NoFixed", "NoBox"]
def xa_line : List Str := ["NoText"]
def xa_most : List Str := ["TooGreat"]
def xa_one : List Str := ["NoActivity"]
def xa_part : List Str := ["NoNumber", "NoShape", "NoBound", "NoCalendar", "NoProject", "NoDerivation", "NoRota", "NoBlind", "NotBeside"]
def xa_some : List Str := ["NoSet"]
def xa_word : List Str := ["NoChange"]
structure Txt (K : PySem.W.Frag) (mg : Mg) : Prop where
  d__law_draw : DefAt K mg "_law_draw" s__law_draw ["_law_well", "_law_many"]
  d__law_one : DefAt K mg "_law_one" s__law_one ["_law_well", "_law_some_so"]
  d__law_taken : DefAt K mg "_law_taken" s__law_taken ["_law_e"]
  d__law_by_place : DefAt K mg "_law_by_place" s__law_by_place ["_law_x"]
  d__law_by_name : DefAt K mg "_law_by_name" s__law_by_name ["_law_x"]
  d__law_fields : DefAt K mg "_law_fields" s__law_fields ["_law_some_so"]
  d__law_right : DefAt K mg "_law_right" s__law_right ["_law_well"]
  d_law : DefAt K mg "law" s_law ["_law_script"]
  b_ValueError : mg "ValueError" = none
  b_enumerate : mg "enumerate" = none
  b_int : mg "int" = none
  b_isinstance : mg "isinstance" = none
  b_len : mg "len" = none
  b_range : mg "range" = none
  crew : ∃ B, CrewC K B ∧ mg "CrewError" = some (.ref B)
  x_NoNumber : ∃ C fI fd, ExcF K mg "NoNumber" C fI ["part"] ∧ FunD K "__init__" "NoNumber.__init__" (defArgs sx_NoNumber) (defBody sx_NoNumber) (defScope sx_NoNumber) [] [] fI fd
  x_NoShape : ∃ C fI fd, ExcF K mg "NoShape" C fI ["part", "index"] ∧ FunD K "__init__" "NoShape.__init__" (defArgs sx_NoShape) (defBody sx_NoShape) (defScope sx_NoShape) [] [] fI fd
  x_NoSet : ∃ C fI fd, ExcF K mg "NoSet" C fI ["some"] ∧ FunD K "__init__" "NoSet.__init__" (defArgs sx_NoSet) (defBody sx_NoSet) (defScope sx_NoSet) [] [] fI fd
  x_NoDurations : ∃ C fI fd, ExcF K mg "NoDurations" C fI ["index"] ∧ FunD K "__init__" "NoDurations.__init__" (defArgs sx_NoDurations) (defBody sx_NoDurations) (defScope sx_NoDurations) [] [] fI fd
  x_NoWeights : ∃ C fI fd, ExcF K mg "NoWeights" C fI ["index"] ∧ FunD K "__init__" "NoWeights.__init__" (defArgs sx_NoWeights) (defBody sx_NoWeights) (defScope sx_NoWeights) [] [] fI fd
  x_NoBound : ∃ C fI fd, ExcF K mg "NoBound" C fI ["part", "index"] ∧ FunD K "__init__" "NoBound.__init__" (defArgs sx_NoBound) (defBody sx_NoBound) (defScope sx_NoBound) [] [] fI fd
  x_NoPairs : ∃ C fI fd, ExcF K mg "NoPairs" C fI ["index"] ∧ FunD K "__init__" "NoPairs.__init__" (defArgs sx_NoPairs) (defBody sx_NoPairs) (defScope sx_NoPairs) [] [] fI fd
  x_NoOrder : ∃ C fI fd, ExcF K mg "NoOrder" C fI ["index"] ∧ FunD K "__init__" "NoOrder.__init__" (defArgs sx_NoOrder) (defBody sx_NoOrder) (defScope sx_NoOrder) [] [] fI fd
  x_NoGraph : ∃ C fI fd, ExcF K mg "NoGraph" C fI ["index"] ∧ FunD K "__init__" "NoGraph.__init__" (defArgs sx_NoGraph) (defBody sx_NoGraph) (defScope sx_NoGraph) [] [] fI fd
  x_NoStarts : ∃ C fI fd, ExcF K mg "NoStarts" C fI ["index"] ∧ FunD K "__init__" "NoStarts.__init__" (defArgs sx_NoStarts) (defBody sx_NoStarts) (defScope sx_NoStarts) [] [] fI fd
  x_NoSchedule : ∃ C fI fd, ExcF K mg "NoSchedule" C fI ["fault"] ∧ FunD K "__init__" "NoSchedule.__init__" (defArgs sx_NoSchedule) (defBody sx_NoSchedule) (defScope sx_NoSchedule) [] [] fI fd
  x_NoActivity : ∃ C fI fd, ExcF K mg "NoActivity" C fI ["one"] ∧ FunD K "__init__" "NoActivity.__init__" (defArgs sx_NoActivity) (defBody sx_NoActivity) (defScope sx_NoActivity) [] [] fI fd
  x_NoText : ∃ C fI fd, ExcF K mg "NoText" C fI ["line"] ∧ FunD K "__init__" "NoText.__init__" (defArgs sx_NoText) (defBody sx_NoText) (defScope sx_NoText) [] [] fI fd
  x_NoChange : ∃ C fI fd, ExcF K mg "NoChange" C fI ["word"] ∧ FunD K "__init__" "NoChange.__init__" (defArgs sx_NoChange) (defBody sx_NoChange) (defScope sx_NoChange) [] [] fI fd
  x_NoCalendar : ∃ C fI fd, ExcF K mg "NoCalendar" C fI ["part", "index"] ∧ FunD K "__init__" "NoCalendar.__init__" (defArgs sx_NoCalendar) (defBody sx_NoCalendar) (defScope sx_NoCalendar) [] [] fI fd
  x_NoProject : ∃ C fI fd, ExcF K mg "NoProject" C fI ["part", "index"] ∧ FunD K "__init__" "NoProject.__init__" (defArgs sx_NoProject) (defBody sx_NoProject) (defScope sx_NoProject) [] [] fI fd
  x_NoChoice : ∃ C fI fd, ExcF K mg "NoChoice" C fI ["index"] ∧ FunD K "__init__" "NoChoice.__init__" (defArgs sx_NoChoice) (defBody sx_NoChoice) (defScope sx_NoChoice) [] [] fI fd
  x_NoAhead : ∃ C fI fd, ExcF K mg "NoAhead" C fI ["index"] ∧ FunD K "__init__" "NoAhead.__init__" (defArgs sx_NoAhead) (defBody sx_NoAhead) (defScope sx_NoAhead) [] [] fI fd
  x_NoDerivation : ∃ C fI fd, ExcF K mg "NoDerivation" C fI ["part", "index"] ∧ FunD K "__init__" "NoDerivation.__init__" (defArgs sx_NoDerivation) (defBody sx_NoDerivation) (defScope sx_NoDerivation) [] [] fI fd
  x_NoPlan : ∃ C fI fd, ExcF K mg "NoPlan" C fI ["fault"] ∧ FunD K "__init__" "NoPlan.__init__" (defArgs sx_NoPlan) (defBody sx_NoPlan) (defScope sx_NoPlan) [] [] fI fd
  x_NoRota : ∃ C fI fd, ExcF K mg "NoRota" C fI ["part", "index"] ∧ FunD K "__init__" "NoRota.__init__" (defArgs sx_NoRota) (defBody sx_NoRota) (defScope sx_NoRota) [] [] fI fd
  x_NoMix : ∃ C fI fd, ExcF K mg "NoMix" C fI ["index"] ∧ FunD K "__init__" "NoMix.__init__" (defArgs sx_NoMix) (defBody sx_NoMix) (defScope sx_NoMix) [] [] fI fd
  x_NoBlind : ∃ C fI fd, ExcF K mg "NoBlind" C fI ["part", "index"] ∧ FunD K "__init__" "NoBlind.__init__" (defArgs sx_NoBlind) (defBody sx_NoBlind) (defScope sx_NoBlind) [] [] fI fd
  x_NoFixed : ∃ C fI fd, ExcF K mg "NoFixed" C fI ["index"] ∧ FunD K "__init__" "NoFixed.__init__" (defArgs sx_NoFixed) (defBody sx_NoFixed) (defScope sx_NoFixed) [] [] fI fd
  x_NotBeside : ∃ C fI fd, ExcF K mg "NotBeside" C fI ["part"] ∧ FunD K "__init__" "NotBeside.__init__" (defArgs sx_NotBeside) (defBody sx_NotBeside) (defScope sx_NotBeside) [] [] fI fd
  x_NoBox : ∃ C fI fd, ExcF K mg "NoBox" C fI ["index"] ∧ FunD K "__init__" "NoBox.__init__" (defArgs sx_NoBox) (defBody sx_NoBox) (defScope sx_NoBox) [] [] fI fd
  x_TooGreat : ∃ C fI fd, ExcF K mg "TooGreat" C fI ["most"] ∧ FunD K "__init__" "TooGreat.__init__" (defArgs sx_TooGreat) (defBody sx_TooGreat) (defScope sx_TooGreat) [] [] fI fd
  kx : ∀ c ∈ xs, ∀ n ∈ xs, ∃ C C', mg c = some (.ref C) ∧ mg n = some (.ref C') ∧ ExcC K C ∧ PySem.W.kitOne K (.ref C) (.ref C') = some (c == n)
  kc : ∃ B, mg "CrewError" = some (.ref B) ∧ ∀ c ∈ xs, ∃ C, mg c = some (.ref C) ∧ ExcC K C ∧ PySem.W.kitOne K (.ref C) (.ref B) = some true
  kv : ∀ c ∈ xs, ∃ C, mg c = some (.ref C) ∧ ExcC K C ∧ PySem.W.kitOne K (.ref C) (.type "ValueError") = some true
  kn : ∃ B, mg "CrewError" = some (.ref B) ∧ PySem.W.kitOne K (.type "ValueError") (.ref B) = some false
theorem sc__law_draw : FnScope ["_law_well", "_law_many", "_law_found", "_law_figure"] ["_law_well", "_law_many"] (defScope s__law_draw) := ⟨rfl, rfl, rfl, by decide +kernel, rfl, by decide +kernel, by decide +kernel⟩
def dn__law_draw : M Flo :=
  sSeq (sIf (asB (rd2 (rd2 (eVar 0) (eC (.int 0)) ixK) (eC (.int 0)) gtI))
  (sSeq (sSet 2 (rd2 (rd1 (rd2 (eVar 0) (eC (.int 0)) ixK) intK) (eVar 1) modI))
  (sSeq (sSetIx 0 (rd2 (rd2 (eVar 0) (eC (.int 0)) ixK) (eVar 1) fdivI) (eC (.int 0)))
  (sRet (eVar 2))))
  (sNil))
  (sSeq (sSetIx 0 (rd2 (rd2 (eVar 0) (eC (.int 2)) ixK) (eC (.int 1)) addK) (eC (.int 2)))
  (sSeq (sSet 3 (rd2 (rd1 (rd2 (rd2 (rd2 (rd2 (eVar 0) (eC (.int 1)) ixK) (rd2 (eC (.int 104729)) (rd2 (eVar 0) (eC (.int 2)) ixK) mulK) addK) (eC (.int 1)) addK) (eC (.int 48271)) mulK) intK) (eC (.int 2147483647)) modI))
  (sSeq (sSet 3 (rd2 (rd1 (rd2 (eVar 3) (rd2 (rd2 (eVar 3) (eC (.int 1009)) fdivI) (eC (.int 69621)) addK) mulK) intK) (eC (.int 2147483647)) modI))
  (sRet (rd2 (rd1 (rd2 (rd1 (rd2 (eVar 3) (rd2 (rd2 (eVar 3) (eC (.int 2003)) fdivI) (eC (.int 40692)) addK) mulK) intK) (eC (.int 2147483399)) modI) intK) (eVar 1) modI)))))
def fn__law_draw : Fn := fnD 2 4 dn__law_draw
theorem sc__law_one : FnScope ["_law_well", "_law_some_so"] ["_law_well", "_law_some_so"] (defScope s__law_one) := ⟨rfl, rfl, rfl, by decide +kernel, rfl, by decide +kernel, by decide +kernel⟩
def dn__law_one : M Flo :=
  sRet (rd2 (eVar 1) (eCall fn__law_draw (aCons (aIO 0) (aCons (aV (rd1 (eVar 1) lenK)) (aNil)))) ixK)
def fn__law_one : Fn := fnD 2 2 dn__law_one
theorem sc__law_taken : FnScope ["_law_e", "_law_found"] ["_law_e"] (defScope s__law_taken) := ⟨rfl, rfl, rfl, by decide +kernel, rfl, by decide +kernel, by decide +kernel⟩
def dn__law_taken : M Flo :=
  sSeq (sSet 1 (eLst (aCons (aV (rd1 (eVar 0) (isX (subE "NoNumber")))) (aCons (aV (rd1 (eVar 0) (isX (subE "NoShape")))) (aCons (aV (rd1 (eVar 0) (isX (subE "NoSet")))) (aNil))))))
  (sSeq (sSet 1 (rd2 (eVar 1) (eLst (aCons (aV (rd1 (eVar 0) (isX (subE "NoDurations")))) (aCons (aV (rd1 (eVar 0) (isX (subE "NoWeights")))) (aCons (aV (rd1 (eVar 0) (isX (subE "NoBound")))) (aNil))))) addK))
  (sSeq (sSet 1 (rd2 (eVar 1) (eLst (aCons (aV (rd1 (eVar 0) (isX (subE "NoPairs")))) (aCons (aV (rd1 (eVar 0) (isX (subE "NoOrder")))) (aCons (aV (rd1 (eVar 0) (isX (subE "NoGraph")))) (aNil))))) addK))
  (sSeq (sSet 1 (rd2 (eVar 1) (eLst (aCons (aV (rd1 (eVar 0) (isX (subE "NoStarts")))) (aCons (aV (rd1 (eVar 0) (isX (subE "NoSchedule")))) (aCons (aV (rd1 (eVar 0) (isX (subE "NoActivity")))) (aNil))))) addK))
  (sSeq (sSet 1 (rd2 (eVar 1) (eLst (aCons (aV (rd1 (eVar 0) (isX (subE "NoText")))) (aCons (aV (rd1 (eVar 0) (isX (subE "NoChange")))) (aCons (aV (rd1 (eVar 0) (isX (subE "NoCalendar")))) (aNil))))) addK))
  (sSeq (sSet 1 (rd2 (eVar 1) (eLst (aCons (aV (rd1 (eVar 0) (isX (subE "NoProject")))) (aCons (aV (rd1 (eVar 0) (isX (subE "NoChoice")))) (aCons (aV (rd1 (eVar 0) (isX (subE "NoAhead")))) (aNil))))) addK))
  (sSeq (sSet 1 (rd2 (eVar 1) (eLst (aCons (aV (rd1 (eVar 0) (isX (subE "NoDerivation")))) (aCons (aV (rd1 (eVar 0) (isX (subE "NoPlan")))) (aCons (aV (rd1 (eVar 0) (isX (subE "NoRota")))) (aNil))))) addK))
  (sSeq (sSet 1 (rd2 (eVar 1) (eLst (aCons (aV (rd1 (eVar 0) (isX (subE "NoMix")))) (aCons (aV (rd1 (eVar 0) (isX (subE "NoBlind")))) (aCons (aV (rd1 (eVar 0) (isX (subE "NoFixed")))) (aNil))))) addK))
  (sSeq (sSet 1 (rd2 (eVar 1) (eLst (aCons (aV (rd1 (eVar 0) (isX (subE "NotBeside")))) (aCons (aV (rd1 (eVar 0) (isX (subE "NoBox")))) (aCons (aV (rd1 (eVar 0) (isX (subE "TooGreat")))) (aNil))))) addK))
  (sRet (eVar 1))))))))))
def fn__law_taken : Fn := fnD 1 2 dn__law_taken
theorem sc__law_by_place : FnScope ["_law_x", "_law_some_so"] ["_law_x"] (defScope s__law_by_place) := ⟨rfl, rfl, rfl, by decide +kernel, rfl, by decide +kernel, by decide +kernel⟩
def dn__law_by_place : M Flo :=
  sSeq (sSet 1 (eLst (aCons (aV (eExc "NoNumber" ["part"] 1 0 (fun a _ => a) (aCons (aV (eVar 0)) (aNil)) (aNil))) (aCons (aV (eExc "NoShape" ["part", "index"] 2 0 (fun a _ => a) (aCons (aV (eVar 0)) (aCons (aV (eC (.int 7))) (aNil))) (aNil))) (aCons (aV (eExc "NoSet" ["some"] 1 0 (fun a _ => a) (aCons (aV (eVar 0)) (aNil)) (aNil))) (aCons (aV (eExc "NoDurations" ["index"] 1 0 (fun a _ => a) (aCons (aV (eVar 0)) (aNil)) (aNil))) (aNil)))))))
  (sSeq (sSet 1 (rd2 (eVar 1) (eLst (aCons (aV (eExc "NoWeights" ["index"] 1 0 (fun a _ => a) (aCons (aV (eVar 0)) (aNil)) (aNil))) (aCons (aV (eExc "NoBound" ["part", "index"] 2 0 (fun a _ => a) (aCons (aV (eVar 0)) (aCons (aV (eC (.int 7))) (aNil))) (aNil))) (aCons (aV (eExc "NoPairs" ["index"] 1 0 (fun a _ => a) (aCons (aV (eVar 0)) (aNil)) (aNil))) (aCons (aV (eExc "NoOrder" ["index"] 1 0 (fun a _ => a) (aCons (aV (eVar 0)) (aNil)) (aNil))) (aNil)))))) addK))
  (sSeq (sSet 1 (rd2 (eVar 1) (eLst (aCons (aV (eExc "NoGraph" ["index"] 1 0 (fun a _ => a) (aCons (aV (eVar 0)) (aNil)) (aNil))) (aCons (aV (eExc "NoStarts" ["index"] 1 0 (fun a _ => a) (aCons (aV (eVar 0)) (aNil)) (aNil))) (aCons (aV (eExc "NoSchedule" ["fault"] 1 0 (fun a _ => a) (aCons (aV (eVar 0)) (aNil)) (aNil))) (aCons (aV (eExc "NoActivity" ["one"] 1 0 (fun a _ => a) (aCons (aV (eVar 0)) (aNil)) (aNil))) (aNil)))))) addK))
  (sSeq (sSet 1 (rd2 (eVar 1) (eLst (aCons (aV (eExc "NoText" ["line"] 1 0 (fun a _ => a) (aCons (aV (eVar 0)) (aNil)) (aNil))) (aCons (aV (eExc "NoChange" ["word"] 1 0 (fun a _ => a) (aCons (aV (eVar 0)) (aNil)) (aNil))) (aCons (aV (eExc "NoCalendar" ["part", "index"] 2 0 (fun a _ => a) (aCons (aV (eVar 0)) (aCons (aV (eC (.int 7))) (aNil))) (aNil))) (aCons (aV (eExc "NoProject" ["part", "index"] 2 0 (fun a _ => a) (aCons (aV (eVar 0)) (aCons (aV (eC (.int 7))) (aNil))) (aNil))) (aNil)))))) addK))
  (sSeq (sSet 1 (rd2 (eVar 1) (eLst (aCons (aV (eExc "NoChoice" ["index"] 1 0 (fun a _ => a) (aCons (aV (eVar 0)) (aNil)) (aNil))) (aCons (aV (eExc "NoAhead" ["index"] 1 0 (fun a _ => a) (aCons (aV (eVar 0)) (aNil)) (aNil))) (aCons (aV (eExc "NoDerivation" ["part", "index"] 2 0 (fun a _ => a) (aCons (aV (eVar 0)) (aCons (aV (eC (.int 7))) (aNil))) (aNil))) (aCons (aV (eExc "NoPlan" ["fault"] 1 0 (fun a _ => a) (aCons (aV (eVar 0)) (aNil)) (aNil))) (aNil)))))) addK))
  (sSeq (sSet 1 (rd2 (eVar 1) (eLst (aCons (aV (eExc "NoRota" ["part", "index"] 2 0 (fun a _ => a) (aCons (aV (eVar 0)) (aCons (aV (eC (.int 7))) (aNil))) (aNil))) (aCons (aV (eExc "NoMix" ["index"] 1 0 (fun a _ => a) (aCons (aV (eVar 0)) (aNil)) (aNil))) (aCons (aV (eExc "NoBlind" ["part", "index"] 2 0 (fun a _ => a) (aCons (aV (eVar 0)) (aCons (aV (eC (.int 7))) (aNil))) (aNil))) (aCons (aV (eExc "NoFixed" ["index"] 1 0 (fun a _ => a) (aCons (aV (eVar 0)) (aNil)) (aNil))) (aNil)))))) addK))
  (sSeq (sSet 1 (rd2 (eVar 1) (eLst (aCons (aV (eExc "NotBeside" ["part"] 1 0 (fun a _ => a) (aCons (aV (eVar 0)) (aNil)) (aNil))) (aCons (aV (eExc "NoBox" ["index"] 1 0 (fun a _ => a) (aCons (aV (eVar 0)) (aNil)) (aNil))) (aCons (aV (eExc "TooGreat" ["most"] 1 0 (fun a _ => a) (aCons (aV (eVar 0)) (aNil)) (aNil))) (aNil))))) addK))
  (sRet (eVar 1))))))))
def fn__law_by_place : Fn := fnD 1 2 dn__law_by_place
theorem sc__law_by_name : FnScope ["_law_x", "_law_some_so"] ["_law_x"] (defScope s__law_by_name) := ⟨rfl, rfl, rfl, by decide +kernel, rfl, by decide +kernel, by decide +kernel⟩
def dn__law_by_name : M Flo :=
  sSeq (sSet 1 (eLst (aCons (aV (eExc "NoNumber" ["part"] 0 1 (fun _ b => b) (aNil) (aCons (aV (eVar 0)) (aNil)))) (aCons (aV (eExc "NoShape" ["part", "index"] 0 2 (fun _ b => swap2 b) (aNil) (aCons (aV (eC (.int 7))) (aCons (aV (eVar 0)) (aNil))))) (aCons (aV (eExc "NoSet" ["some"] 0 1 (fun _ b => b) (aNil) (aCons (aV (eVar 0)) (aNil)))) (aNil))))))
  (sSeq (sSet 1 (rd2 (eVar 1) (eLst (aCons (aV (eExc "NoDurations" ["index"] 0 1 (fun _ b => b) (aNil) (aCons (aV (eVar 0)) (aNil)))) (aCons (aV (eExc "NoWeights" ["index"] 0 1 (fun _ b => b) (aNil) (aCons (aV (eVar 0)) (aNil)))) (aCons (aV (eExc "NoBound" ["part", "index"] 0 2 (fun _ b => swap2 b) (aNil) (aCons (aV (eC (.int 7))) (aCons (aV (eVar 0)) (aNil))))) (aNil))))) addK))
  (sSeq (sSet 1 (rd2 (eVar 1) (eLst (aCons (aV (eExc "NoPairs" ["index"] 0 1 (fun _ b => b) (aNil) (aCons (aV (eVar 0)) (aNil)))) (aCons (aV (eExc "NoOrder" ["index"] 0 1 (fun _ b => b) (aNil) (aCons (aV (eVar 0)) (aNil)))) (aCons (aV (eExc "NoGraph" ["index"] 0 1 (fun _ b => b) (aNil) (aCons (aV (eVar 0)) (aNil)))) (aNil))))) addK))
  (sSeq (sSet 1 (rd2 (eVar 1) (eLst (aCons (aV (eExc "NoStarts" ["index"] 0 1 (fun _ b => b) (aNil) (aCons (aV (eVar 0)) (aNil)))) (aCons (aV (eExc "NoSchedule" ["fault"] 0 1 (fun _ b => b) (aNil) (aCons (aV (eVar 0)) (aNil)))) (aCons (aV (eExc "NoActivity" ["one"] 0 1 (fun _ b => b) (aNil) (aCons (aV (eVar 0)) (aNil)))) (aNil))))) addK))
  (sSeq (sSet 1 (rd2 (eVar 1) (eLst (aCons (aV (eExc "NoText" ["line"] 0 1 (fun _ b => b) (aNil) (aCons (aV (eVar 0)) (aNil)))) (aCons (aV (eExc "NoChange" ["word"] 0 1 (fun _ b => b) (aNil) (aCons (aV (eVar 0)) (aNil)))) (aCons (aV (eExc "NoCalendar" ["part", "index"] 0 2 (fun _ b => swap2 b) (aNil) (aCons (aV (eC (.int 7))) (aCons (aV (eVar 0)) (aNil))))) (aNil))))) addK))
  (sSeq (sSet 1 (rd2 (eVar 1) (eLst (aCons (aV (eExc "NoProject" ["part", "index"] 0 2 (fun _ b => swap2 b) (aNil) (aCons (aV (eC (.int 7))) (aCons (aV (eVar 0)) (aNil))))) (aCons (aV (eExc "NoChoice" ["index"] 0 1 (fun _ b => b) (aNil) (aCons (aV (eVar 0)) (aNil)))) (aCons (aV (eExc "NoAhead" ["index"] 0 1 (fun _ b => b) (aNil) (aCons (aV (eVar 0)) (aNil)))) (aNil))))) addK))
  (sSeq (sSet 1 (rd2 (eVar 1) (eLst (aCons (aV (eExc "NoDerivation" ["part", "index"] 0 2 (fun _ b => swap2 b) (aNil) (aCons (aV (eC (.int 7))) (aCons (aV (eVar 0)) (aNil))))) (aCons (aV (eExc "NoPlan" ["fault"] 0 1 (fun _ b => b) (aNil) (aCons (aV (eVar 0)) (aNil)))) (aCons (aV (eExc "NoRota" ["part", "index"] 0 2 (fun _ b => swap2 b) (aNil) (aCons (aV (eC (.int 7))) (aCons (aV (eVar 0)) (aNil))))) (aNil))))) addK))
  (sSeq (sSet 1 (rd2 (eVar 1) (eLst (aCons (aV (eExc "NoMix" ["index"] 0 1 (fun _ b => b) (aNil) (aCons (aV (eVar 0)) (aNil)))) (aCons (aV (eExc "NoBlind" ["part", "index"] 0 2 (fun _ b => swap2 b) (aNil) (aCons (aV (eC (.int 7))) (aCons (aV (eVar 0)) (aNil))))) (aCons (aV (eExc "NoFixed" ["index"] 0 1 (fun _ b => b) (aNil) (aCons (aV (eVar 0)) (aNil)))) (aNil))))) addK))
  (sSeq (sSet 1 (rd2 (eVar 1) (eLst (aCons (aV (eExc "NotBeside" ["part"] 0 1 (fun _ b => b) (aNil) (aCons (aV (eVar 0)) (aNil)))) (aCons (aV (eExc "NoBox" ["index"] 0 1 (fun _ b => b) (aNil) (aCons (aV (eVar 0)) (aNil)))) (aCons (aV (eExc "TooGreat" ["most"] 0 1 (fun _ b => b) (aNil) (aCons (aV (eVar 0)) (aNil)))) (aNil))))) addK))
  (sRet (eVar 1))))))))))
def fn__law_by_name : Fn := fnD 1 2 dn__law_by_name
theorem sc__law_fields : FnScope ["_law_some_so", "_law_found"] ["_law_some_so"] (defScope s__law_fields) := ⟨rfl, rfl, rfl, by decide +kernel, rfl, by decide +kernel, by decide +kernel⟩
def dn__law_fields : M Flo :=
  sSeq (sSet 1 (eLst (aCons (aV (rd1 (rd2 (eVar 0) (eC (.int 0)) ixK) (fldX xa_part "part"))) (aCons (aV (rd1 (rd2 (eVar 0) (eC (.int 1)) ixK) (fldX xa_part "part"))) (aCons (aV (rd1 (rd2 (eVar 0) (eC (.int 1)) ixK) (fldX xa_index "index"))) (aCons (aV (rd1 (rd2 (eVar 0) (eC (.int 2)) ixK) (fldX xa_some "some"))) (aNil)))))))
  (sSeq (sSet 1 (rd2 (eVar 1) (eLst (aCons (aV (rd1 (rd2 (eVar 0) (eC (.int 3)) ixK) (fldX xa_index "index"))) (aCons (aV (rd1 (rd2 (eVar 0) (eC (.int 4)) ixK) (fldX xa_index "index"))) (aCons (aV (rd1 (rd2 (eVar 0) (eC (.int 5)) ixK) (fldX xa_part "part"))) (aCons (aV (rd1 (rd2 (eVar 0) (eC (.int 5)) ixK) (fldX xa_index "index"))) (aNil)))))) addK))
  (sSeq (sSet 1 (rd2 (eVar 1) (eLst (aCons (aV (rd1 (rd2 (eVar 0) (eC (.int 6)) ixK) (fldX xa_index "index"))) (aCons (aV (rd1 (rd2 (eVar 0) (eC (.int 7)) ixK) (fldX xa_index "index"))) (aCons (aV (rd1 (rd2 (eVar 0) (eC (.int 8)) ixK) (fldX xa_index "index"))) (aCons (aV (rd1 (rd2 (eVar 0) (eC (.int 9)) ixK) (fldX xa_index "index"))) (aNil)))))) addK))
  (sSeq (sSet 1 (rd2 (eVar 1) (eLst (aCons (aV (rd1 (rd2 (eVar 0) (eC (.int 10)) ixK) (fldX xa_fault "fault"))) (aCons (aV (rd1 (rd2 (eVar 0) (eC (.int 11)) ixK) (fldX xa_one "one"))) (aCons (aV (rd1 (rd2 (eVar 0) (eC (.int 12)) ixK) (fldX xa_line "line"))) (aCons (aV (rd1 (rd2 (eVar 0) (eC (.int 13)) ixK) (fldX xa_word "word"))) (aNil)))))) addK))
  (sSeq (sSet 1 (rd2 (eVar 1) (eLst (aCons (aV (rd1 (rd2 (eVar 0) (eC (.int 14)) ixK) (fldX xa_part "part"))) (aCons (aV (rd1 (rd2 (eVar 0) (eC (.int 14)) ixK) (fldX xa_index "index"))) (aCons (aV (rd1 (rd2 (eVar 0) (eC (.int 15)) ixK) (fldX xa_part "part"))) (aCons (aV (rd1 (rd2 (eVar 0) (eC (.int 15)) ixK) (fldX xa_index "index"))) (aNil)))))) addK))
  (sSeq (sSet 1 (rd2 (eVar 1) (eLst (aCons (aV (rd1 (rd2 (eVar 0) (eC (.int 16)) ixK) (fldX xa_index "index"))) (aCons (aV (rd1 (rd2 (eVar 0) (eC (.int 17)) ixK) (fldX xa_index "index"))) (aCons (aV (rd1 (rd2 (eVar 0) (eC (.int 18)) ixK) (fldX xa_part "part"))) (aCons (aV (rd1 (rd2 (eVar 0) (eC (.int 18)) ixK) (fldX xa_index "index"))) (aNil)))))) addK))
  (sSeq (sSet 1 (rd2 (eVar 1) (eLst (aCons (aV (rd1 (rd2 (eVar 0) (eC (.int 19)) ixK) (fldX xa_fault "fault"))) (aCons (aV (rd1 (rd2 (eVar 0) (eC (.int 20)) ixK) (fldX xa_part "part"))) (aCons (aV (rd1 (rd2 (eVar 0) (eC (.int 20)) ixK) (fldX xa_index "index"))) (aCons (aV (rd1 (rd2 (eVar 0) (eC (.int 21)) ixK) (fldX xa_index "index"))) (aNil)))))) addK))
  (sSeq (sSet 1 (rd2 (eVar 1) (eLst (aCons (aV (rd1 (rd2 (eVar 0) (eC (.int 22)) ixK) (fldX xa_part "part"))) (aCons (aV (rd1 (rd2 (eVar 0) (eC (.int 22)) ixK) (fldX xa_index "index"))) (aCons (aV (rd1 (rd2 (eVar 0) (eC (.int 23)) ixK) (fldX xa_index "index"))) (aCons (aV (rd1 (rd2 (eVar 0) (eC (.int 24)) ixK) (fldX xa_part "part"))) (aNil)))))) addK))
  (sSeq (sSet 1 (rd2 (eVar 1) (eLst (aCons (aV (rd1 (rd2 (eVar 0) (eC (.int 25)) ixK) (fldX xa_index "index"))) (aCons (aV (rd1 (rd2 (eVar 0) (eC (.int 26)) ixK) (fldX xa_most "most"))) (aNil)))) addK))
  (sRet (eVar 1))))))))))
def fn__law_fields : Fn := fnD 1 2 dn__law_fields
theorem sc__law_right : FnScope ["_law_well", "_law_x", "_law_due", "_law_some_so", "_law_spot", "_law_e", "_law_k"] ["_law_well"] (defScope s__law_right) := ⟨rfl, rfl, rfl, by decide +kernel, rfl, by decide +kernel, by decide +kernel⟩
def le__law_right_1 (e : Sl) : Res RV :=
  (rd2 (eVar 6) (eVar 4) eqK) e
def lb__law_right_1 (e : Sl) : Res Flo :=
  (sSeq (sIf (asB (rd2 (eCall fn__law_taken (aCons (aV (eVar 5)) (aNil))) (eLc (itW1 (rd1 (eVar 3) lenK)) (tName 6) (tYesD) (le__law_right_1) [6]) neK))
  (sRet (eC (.bl false)))
  (sNil))
  (sIf (mOr (mNot (asB (rd1 (eVar 5) (isX subC)))) (mNot (asB (rd1 (eVar 5) (isX subC)))))
  (sRet (eC (.bl false)))
  (sNil))) e
def lb__law_right_2 (e : Sl) : Res Flo :=
  (sSeq (sIf (asB (rd2 (eCall fn__law_fields (aCons (aV (eVar 3)) (aNil))) (eVar 2) neK))
  (sRet (eC (.bl false)))
  (sNil))
  (sFor (itEnum (eVar 3)) (tTupD 2 (tsCons (tName 4) (tsCons (tName 5) (tsNil))))
  (lb__law_right_1))) e
def dn__law_right : M Flo :=
  sSeq (sSet 1 (eCall fn__law_one (aCons (aIO 0) (aCons (aV (eLst (aCons (aV (eCall fn__law_draw (aCons (aIO 0) (aCons (aV (eC (.int 1000))) (aNil))))) (aCons (aV (rd1 (eC (.int 1)) negI)) (aCons (aV (eC .non)) (aCons (aV (eC (.str "v"))) (aCons (aV (eTup (aCons (aV (eC (.int 0))) (aCons (aV (eC (.int 1))) (aNil))))) (aNil)))))))) (aNil)))))
  (sSeq (sSet 2 (eLst (aCons (aV (eVar 1)) (aCons (aV (eVar 1)) (aCons (aV (eC (.int 7))) (aCons (aV (eVar 1)) (aCons (aV (eVar 1)) (aCons (aV (eVar 1)) (aCons (aV (eVar 1)) (aCons (aV (eC (.int 7))) (aCons (aV (eVar 1)) (aCons (aV (eVar 1)) (aCons (aV (eVar 1)) (aCons (aV (eVar 1)) (aCons (aV (eVar 1)) (aCons (aV (eVar 1)) (aCons (aV (eVar 1)) (aCons (aV (eVar 1)) (aCons (aV (eVar 1)) (aCons (aV (eC (.int 7))) (aCons (aV (eVar 1)) (aCons (aV (eC (.int 7))) (aCons (aV (eVar 1)) (aCons (aV (eVar 1)) (aNil)))))))))))))))))))))))))
  (sSeq (sSet 2 (rd2 (eVar 2) (eLst (aCons (aV (eVar 1)) (aCons (aV (eC (.int 7))) (aCons (aV (eVar 1)) (aCons (aV (eVar 1)) (aCons (aV (eC (.int 7))) (aCons (aV (eVar 1)) (aCons (aV (eVar 1)) (aCons (aV (eC (.int 7))) (aCons (aV (eVar 1)) (aCons (aV (eVar 1)) (aCons (aV (eVar 1)) (aCons (aV (eVar 1)) (aNil)))))))))))))) addK))
  (sSeq (sFor (itSeq (eLst (aCons (aV (eCall fn__law_by_place (aCons (aV (eVar 1)) (aNil)))) (aCons (aV (eCall fn__law_by_name (aCons (aV (eVar 1)) (aNil)))) (aNil))))) (tName 3)
  (lb__law_right_2))
  (sRet (eNot (eC (.bl false)))))))
def fn__law_right : Fn := fnD 1 7 dn__law_right
theorem sc_law : FnScope ["_law_script", "_law_k", "_law_cell", "_law_well"] ["_law_script"] (defScope s_law) := ⟨rfl, rfl, rfl, by decide +kernel, rfl, by decide +kernel, by decide +kernel⟩
def lb_law_1 (e : Sl) : Res Flo :=
  (sSeq (sSet 3 (eLst (aCons (aV (rd2 (eVar 2) (rd1 (rd2 (eVar 2) (rd2 (eC (.int 10)) (eC (.int 18)) powI) geI) intK) mulK)) (aCons (aV (rd2 (rd2 (rd1 (eVar 2) intK) (eC (.int 2147483647)) modI) (rd2 (eC (.int 7919)) (eVar 1) mulK) addK)) (aCons (aV (eC (.int 0))) (aNil))))))
  (sIf (mNot (asB (eCall fn__law_right (aCons (aIO 3) (aNil)))))
  (sRet (eC (.bl false)))
  (sNil))) e
def dn_law : M Flo :=
  sSeq (sFor (itEnum (eSl (rd2 (eVar 0) (eLst (aCons (aV (eC (.int 0))) (aNil))) addK) (oNo) (oSome (eC (.int 4))))) (tTupD 2 (tsCons (tName 1) (tsCons (tName 2) (tsNil))))
  (lb_law_1))
  (sRet (eC (.bl true)))
def fn_law : Fn := fnD 1 4 dn_law
section
variable {P : Program} {w : World} {K : PySem.W.Frag} {mg : Mg}
theorem okx_NoNumber (T : Txt K mg) : ∃ C fI fd, ExcF K mg "NoNumber" C fI ["part"] ∧ (∀ base, FnOk P w K mg base (L2.CX P w) 2 fI fd ["self", "part"] (spX K ["part"])) ∧ FunD K "__init__" "NoNumber.__init__" (defArgs sx_NoNumber) (defBody sx_NoNumber) (defScope sx_NoNumber) [] [] fI fd := by
  obtain ⟨C, fI, fd, E, F⟩ := T.x_NoNumber
  obtain ⟨B, CB, mB⟩ := T.crew
  exact ⟨C, fI, fd, E, fun base => ex_init1 F ⟨rfl, rfl, rfl, by decide +kernel, rfl, by decide +kernel, by decide +kernel⟩ CB mB rfl rfl (fun _ _ => ⟨_, rfl⟩) (.inl rfl) (.inl rfl), F⟩
theorem okx_NoNumber_0 (T : Txt K mg) : ExcOk P w K mg "NoNumber" ["part"] 1 [] (fun a _ => a) := by
  obtain ⟨C, fI, fd, E, G, F⟩ := okx_NoNumber (P := P) (w := w) T
  exact ⟨C, fI, fd, E, G, form_pos F (fun _ _ _ _ _ _ us ws l1 l2 => match us, ws, l1, l2 with | [_, _], [], _, _ => rfl)⟩
theorem okx_NoNumber_1 (T : Txt K mg) : ExcOk P w K mg "NoNumber" ["part"] 0 ["part"] (fun _ b => b) := by
  obtain ⟨C, fI, fd, E, G, F⟩ := okx_NoNumber (P := P) (w := w) T
  exact ⟨C, fI, fd, E, G, form_kw F (fun _ _ _ _ _ _ us ws l1 l2 => match us, ws, l1, l2 with | [_], [_], _, _ => rfl)⟩
theorem okx_NoShape (T : Txt K mg) : ∃ C fI fd, ExcF K mg "NoShape" C fI ["part", "index"] ∧ (∀ base, FnOk P w K mg base (L2.CX P w) 2 fI fd ["self", "part", "index"] (spX K ["part", "index"])) ∧ FunD K "__init__" "NoShape.__init__" (defArgs sx_NoShape) (defBody sx_NoShape) (defScope sx_NoShape) [] [] fI fd := by
  obtain ⟨C, fI, fd, E, F⟩ := T.x_NoShape
  obtain ⟨B, CB, mB⟩ := T.crew
  exact ⟨C, fI, fd, E, fun base => ex_init2 F ⟨rfl, rfl, rfl, by decide +kernel, rfl, by decide +kernel, by decide +kernel⟩ CB mB rfl rfl (fun _ _ => ⟨_, rfl⟩) (.inl rfl) (.inl rfl) (.inl rfl), F⟩
theorem okx_NoShape_0 (T : Txt K mg) : ExcOk P w K mg "NoShape" ["part", "index"] 2 [] (fun a _ => a) := by
  obtain ⟨C, fI, fd, E, G, F⟩ := okx_NoShape (P := P) (w := w) T
  exact ⟨C, fI, fd, E, G, form_pos F (fun _ _ _ _ _ _ us ws l1 l2 => match us, ws, l1, l2 with | [_, _, _], [], _, _ => rfl)⟩
theorem okx_NoShape_1 (T : Txt K mg) : ExcOk P w K mg "NoShape" ["part", "index"] 0 ["index", "part"] (fun _ b => swap2 b) := by
  obtain ⟨C, fI, fd, E, G, F⟩ := okx_NoShape (P := P) (w := w) T
  exact ⟨C, fI, fd, E, G, form_kws F rfl (fun _ _ _ _ _ _ us ws l1 l2 => match us, ws, l1, l2 with | [_], [_, _], _, _ => rfl)⟩
theorem okx_NoSet (T : Txt K mg) : ∃ C fI fd, ExcF K mg "NoSet" C fI ["some"] ∧ (∀ base, FnOk P w K mg base (L2.CX P w) 2 fI fd ["self", "some"] (spX K ["some"])) ∧ FunD K "__init__" "NoSet.__init__" (defArgs sx_NoSet) (defBody sx_NoSet) (defScope sx_NoSet) [] [] fI fd := by
  obtain ⟨C, fI, fd, E, F⟩ := T.x_NoSet
  obtain ⟨B, CB, mB⟩ := T.crew
  exact ⟨C, fI, fd, E, fun base => ex_init1 F ⟨rfl, rfl, rfl, by decide +kernel, rfl, by decide +kernel, by decide +kernel⟩ CB mB rfl rfl (fun _ _ => ⟨_, rfl⟩) (.inl rfl) (.inl rfl), F⟩
theorem okx_NoSet_0 (T : Txt K mg) : ExcOk P w K mg "NoSet" ["some"] 1 [] (fun a _ => a) := by
  obtain ⟨C, fI, fd, E, G, F⟩ := okx_NoSet (P := P) (w := w) T
  exact ⟨C, fI, fd, E, G, form_pos F (fun _ _ _ _ _ _ us ws l1 l2 => match us, ws, l1, l2 with | [_, _], [], _, _ => rfl)⟩
theorem okx_NoSet_1 (T : Txt K mg) : ExcOk P w K mg "NoSet" ["some"] 0 ["some"] (fun _ b => b) := by
  obtain ⟨C, fI, fd, E, G, F⟩ := okx_NoSet (P := P) (w := w) T
  exact ⟨C, fI, fd, E, G, form_kw F (fun _ _ _ _ _ _ us ws l1 l2 => match us, ws, l1, l2 with | [_], [_], _, _ => rfl)⟩
theorem okx_NoDurations (T : Txt K mg) : ∃ C fI fd, ExcF K mg "NoDurations" C fI ["index"] ∧ (∀ base, FnOk P w K mg base (L2.CX P w) 2 fI fd ["self", "index"] (spX K ["index"])) ∧ FunD K "__init__" "NoDurations.__init__" (defArgs sx_NoDurations) (defBody sx_NoDurations) (defScope sx_NoDurations) [] [] fI fd := by
  obtain ⟨C, fI, fd, E, F⟩ := T.x_NoDurations
  obtain ⟨B, CB, mB⟩ := T.crew
  exact ⟨C, fI, fd, E, fun base => ex_init1 F ⟨rfl, rfl, rfl, by decide +kernel, rfl, by decide +kernel, by decide +kernel⟩ CB mB rfl rfl (fun _ _ => ⟨_, rfl⟩) (.inl rfl) (.inl rfl), F⟩
theorem okx_NoDurations_0 (T : Txt K mg) : ExcOk P w K mg "NoDurations" ["index"] 1 [] (fun a _ => a) := by
  obtain ⟨C, fI, fd, E, G, F⟩ := okx_NoDurations (P := P) (w := w) T
  exact ⟨C, fI, fd, E, G, form_pos F (fun _ _ _ _ _ _ us ws l1 l2 => match us, ws, l1, l2 with | [_, _], [], _, _ => rfl)⟩
theorem okx_NoDurations_1 (T : Txt K mg) : ExcOk P w K mg "NoDurations" ["index"] 0 ["index"] (fun _ b => b) := by
  obtain ⟨C, fI, fd, E, G, F⟩ := okx_NoDurations (P := P) (w := w) T
  exact ⟨C, fI, fd, E, G, form_kw F (fun _ _ _ _ _ _ us ws l1 l2 => match us, ws, l1, l2 with | [_], [_], _, _ => rfl)⟩
theorem okx_NoWeights (T : Txt K mg) : ∃ C fI fd, ExcF K mg "NoWeights" C fI ["index"] ∧ (∀ base, FnOk P w K mg base (L2.CX P w) 2 fI fd ["self", "index"] (spX K ["index"])) ∧ FunD K "__init__" "NoWeights.__init__" (defArgs sx_NoWeights) (defBody sx_NoWeights) (defScope sx_NoWeights) [] [] fI fd := by
  obtain ⟨C, fI, fd, E, F⟩ := T.x_NoWeights
  obtain ⟨B, CB, mB⟩ := T.crew
  exact ⟨C, fI, fd, E, fun base => ex_init1 F ⟨rfl, rfl, rfl, by decide +kernel, rfl, by decide +kernel, by decide +kernel⟩ CB mB rfl rfl (fun _ _ => ⟨_, rfl⟩) (.inl rfl) (.inl rfl), F⟩
theorem okx_NoWeights_0 (T : Txt K mg) : ExcOk P w K mg "NoWeights" ["index"] 1 [] (fun a _ => a) := by
  obtain ⟨C, fI, fd, E, G, F⟩ := okx_NoWeights (P := P) (w := w) T
  exact ⟨C, fI, fd, E, G, form_pos F (fun _ _ _ _ _ _ us ws l1 l2 => match us, ws, l1, l2 with | [_, _], [], _, _ => rfl)⟩
theorem okx_NoWeights_1 (T : Txt K mg) : ExcOk P w K mg "NoWeights" ["index"] 0 ["index"] (fun _ b => b) := by
  obtain ⟨C, fI, fd, E, G, F⟩ := okx_NoWeights (P := P) (w := w) T
  exact ⟨C, fI, fd, E, G, form_kw F (fun _ _ _ _ _ _ us ws l1 l2 => match us, ws, l1, l2 with | [_], [_], _, _ => rfl)⟩
theorem okx_NoBound (T : Txt K mg) : ∃ C fI fd, ExcF K mg "NoBound" C fI ["part", "index"] ∧ (∀ base, FnOk P w K mg base (L2.CX P w) 2 fI fd ["self", "part", "index"] (spX K ["part", "index"])) ∧ FunD K "__init__" "NoBound.__init__" (defArgs sx_NoBound) (defBody sx_NoBound) (defScope sx_NoBound) [] [] fI fd := by
  obtain ⟨C, fI, fd, E, F⟩ := T.x_NoBound
  obtain ⟨B, CB, mB⟩ := T.crew
  exact ⟨C, fI, fd, E, fun base => ex_init2 F ⟨rfl, rfl, rfl, by decide +kernel, rfl, by decide +kernel, by decide +kernel⟩ CB mB rfl rfl (fun _ _ => ⟨_, rfl⟩) (.inl rfl) (.inl rfl) (.inl rfl), F⟩
theorem okx_NoBound_0 (T : Txt K mg) : ExcOk P w K mg "NoBound" ["part", "index"] 2 [] (fun a _ => a) := by
  obtain ⟨C, fI, fd, E, G, F⟩ := okx_NoBound (P := P) (w := w) T
  exact ⟨C, fI, fd, E, G, form_pos F (fun _ _ _ _ _ _ us ws l1 l2 => match us, ws, l1, l2 with | [_, _, _], [], _, _ => rfl)⟩
theorem okx_NoBound_1 (T : Txt K mg) : ExcOk P w K mg "NoBound" ["part", "index"] 0 ["index", "part"] (fun _ b => swap2 b) := by
  obtain ⟨C, fI, fd, E, G, F⟩ := okx_NoBound (P := P) (w := w) T
  exact ⟨C, fI, fd, E, G, form_kws F rfl (fun _ _ _ _ _ _ us ws l1 l2 => match us, ws, l1, l2 with | [_], [_, _], _, _ => rfl)⟩
theorem okx_NoPairs (T : Txt K mg) : ∃ C fI fd, ExcF K mg "NoPairs" C fI ["index"] ∧ (∀ base, FnOk P w K mg base (L2.CX P w) 2 fI fd ["self", "index"] (spX K ["index"])) ∧ FunD K "__init__" "NoPairs.__init__" (defArgs sx_NoPairs) (defBody sx_NoPairs) (defScope sx_NoPairs) [] [] fI fd := by
  obtain ⟨C, fI, fd, E, F⟩ := T.x_NoPairs
  obtain ⟨B, CB, mB⟩ := T.crew
  exact ⟨C, fI, fd, E, fun base => ex_init1 F ⟨rfl, rfl, rfl, by decide +kernel, rfl, by decide +kernel, by decide +kernel⟩ CB mB rfl rfl (fun _ _ => ⟨_, rfl⟩) (.inl rfl) (.inl rfl), F⟩
theorem okx_NoPairs_0 (T : Txt K mg) : ExcOk P w K mg "NoPairs" ["index"] 1 [] (fun a _ => a) := by
  obtain ⟨C, fI, fd, E, G, F⟩ := okx_NoPairs (P := P) (w := w) T
  exact ⟨C, fI, fd, E, G, form_pos F (fun _ _ _ _ _ _ us ws l1 l2 => match us, ws, l1, l2 with | [_, _], [], _, _ => rfl)⟩
theorem okx_NoPairs_1 (T : Txt K mg) : ExcOk P w K mg "NoPairs" ["index"] 0 ["index"] (fun _ b => b) := by
  obtain ⟨C, fI, fd, E, G, F⟩ := okx_NoPairs (P := P) (w := w) T
  exact ⟨C, fI, fd, E, G, form_kw F (fun _ _ _ _ _ _ us ws l1 l2 => match us, ws, l1, l2 with | [_], [_], _, _ => rfl)⟩
theorem okx_NoOrder (T : Txt K mg) : ∃ C fI fd, ExcF K mg "NoOrder" C fI ["index"] ∧ (∀ base, FnOk P w K mg base (L2.CX P w) 2 fI fd ["self", "index"] (spX K ["index"])) ∧ FunD K "__init__" "NoOrder.__init__" (defArgs sx_NoOrder) (defBody sx_NoOrder) (defScope sx_NoOrder) [] [] fI fd := by
  obtain ⟨C, fI, fd, E, F⟩ := T.x_NoOrder
  obtain ⟨B, CB, mB⟩ := T.crew
  exact ⟨C, fI, fd, E, fun base => ex_init1 F ⟨rfl, rfl, rfl, by decide +kernel, rfl, by decide +kernel, by decide +kernel⟩ CB mB rfl rfl (fun _ _ => ⟨_, rfl⟩) (.inl rfl) (.inl rfl), F⟩
theorem okx_NoOrder_0 (T : Txt K mg) : ExcOk P w K mg "NoOrder" ["index"] 1 [] (fun a _ => a) := by
  obtain ⟨C, fI, fd, E, G, F⟩ := okx_NoOrder (P := P) (w := w) T
  exact ⟨C, fI, fd, E, G, form_pos F (fun _ _ _ _ _ _ us ws l1 l2 => match us, ws, l1, l2 with | [_, _], [], _, _ => rfl)⟩
theorem okx_NoOrder_1 (T : Txt K mg) : ExcOk P w K mg "NoOrder" ["index"] 0 ["index"] (fun _ b => b) := by
  obtain ⟨C, fI, fd, E, G, F⟩ := okx_NoOrder (P := P) (w := w) T
  exact ⟨C, fI, fd, E, G, form_kw F (fun _ _ _ _ _ _ us ws l1 l2 => match us, ws, l1, l2 with | [_], [_], _, _ => rfl)⟩
theorem okx_NoGraph (T : Txt K mg) : ∃ C fI fd, ExcF K mg "NoGraph" C fI ["index"] ∧ (∀ base, FnOk P w K mg base (L2.CX P w) 2 fI fd ["self", "index"] (spX K ["index"])) ∧ FunD K "__init__" "NoGraph.__init__" (defArgs sx_NoGraph) (defBody sx_NoGraph) (defScope sx_NoGraph) [] [] fI fd := by
  obtain ⟨C, fI, fd, E, F⟩ := T.x_NoGraph
  obtain ⟨B, CB, mB⟩ := T.crew
  exact ⟨C, fI, fd, E, fun base => ex_init1 F ⟨rfl, rfl, rfl, by decide +kernel, rfl, by decide +kernel, by decide +kernel⟩ CB mB rfl rfl (fun _ _ => ⟨_, rfl⟩) (.inl rfl) (.inl rfl), F⟩
theorem okx_NoGraph_0 (T : Txt K mg) : ExcOk P w K mg "NoGraph" ["index"] 1 [] (fun a _ => a) := by
  obtain ⟨C, fI, fd, E, G, F⟩ := okx_NoGraph (P := P) (w := w) T
  exact ⟨C, fI, fd, E, G, form_pos F (fun _ _ _ _ _ _ us ws l1 l2 => match us, ws, l1, l2 with | [_, _], [], _, _ => rfl)⟩
theorem okx_NoGraph_1 (T : Txt K mg) : ExcOk P w K mg "NoGraph" ["index"] 0 ["index"] (fun _ b => b) := by
  obtain ⟨C, fI, fd, E, G, F⟩ := okx_NoGraph (P := P) (w := w) T
  exact ⟨C, fI, fd, E, G, form_kw F (fun _ _ _ _ _ _ us ws l1 l2 => match us, ws, l1, l2 with | [_], [_], _, _ => rfl)⟩
theorem okx_NoStarts (T : Txt K mg) : ∃ C fI fd, ExcF K mg "NoStarts" C fI ["index"] ∧ (∀ base, FnOk P w K mg base (L2.CX P w) 2 fI fd ["self", "index"] (spX K ["index"])) ∧ FunD K "__init__" "NoStarts.__init__" (defArgs sx_NoStarts) (defBody sx_NoStarts) (defScope sx_NoStarts) [] [] fI fd := by
  obtain ⟨C, fI, fd, E, F⟩ := T.x_NoStarts
  obtain ⟨B, CB, mB⟩ := T.crew
  exact ⟨C, fI, fd, E, fun base => ex_init1 F ⟨rfl, rfl, rfl, by decide +kernel, rfl, by decide +kernel, by decide +kernel⟩ CB mB rfl rfl (fun _ _ => ⟨_, rfl⟩) (.inl rfl) (.inl rfl), F⟩
theorem okx_NoStarts_0 (T : Txt K mg) : ExcOk P w K mg "NoStarts" ["index"] 1 [] (fun a _ => a) := by
  obtain ⟨C, fI, fd, E, G, F⟩ := okx_NoStarts (P := P) (w := w) T
  exact ⟨C, fI, fd, E, G, form_pos F (fun _ _ _ _ _ _ us ws l1 l2 => match us, ws, l1, l2 with | [_, _], [], _, _ => rfl)⟩
theorem okx_NoStarts_1 (T : Txt K mg) : ExcOk P w K mg "NoStarts" ["index"] 0 ["index"] (fun _ b => b) := by
  obtain ⟨C, fI, fd, E, G, F⟩ := okx_NoStarts (P := P) (w := w) T
  exact ⟨C, fI, fd, E, G, form_kw F (fun _ _ _ _ _ _ us ws l1 l2 => match us, ws, l1, l2 with | [_], [_], _, _ => rfl)⟩
theorem okx_NoSchedule (T : Txt K mg) : ∃ C fI fd, ExcF K mg "NoSchedule" C fI ["fault"] ∧ (∀ base, FnOk P w K mg base (L2.CX P w) 2 fI fd ["self", "fault"] (spX K ["fault"])) ∧ FunD K "__init__" "NoSchedule.__init__" (defArgs sx_NoSchedule) (defBody sx_NoSchedule) (defScope sx_NoSchedule) [] [] fI fd := by
  obtain ⟨C, fI, fd, E, F⟩ := T.x_NoSchedule
  obtain ⟨B, CB, mB⟩ := T.crew
  exact ⟨C, fI, fd, E, fun base => ex_init1 F ⟨rfl, rfl, rfl, by decide +kernel, rfl, by decide +kernel, by decide +kernel⟩ CB mB rfl rfl (fun _ _ => ⟨_, rfl⟩) (.inl rfl) (.inl rfl), F⟩
theorem okx_NoSchedule_0 (T : Txt K mg) : ExcOk P w K mg "NoSchedule" ["fault"] 1 [] (fun a _ => a) := by
  obtain ⟨C, fI, fd, E, G, F⟩ := okx_NoSchedule (P := P) (w := w) T
  exact ⟨C, fI, fd, E, G, form_pos F (fun _ _ _ _ _ _ us ws l1 l2 => match us, ws, l1, l2 with | [_, _], [], _, _ => rfl)⟩
theorem okx_NoSchedule_1 (T : Txt K mg) : ExcOk P w K mg "NoSchedule" ["fault"] 0 ["fault"] (fun _ b => b) := by
  obtain ⟨C, fI, fd, E, G, F⟩ := okx_NoSchedule (P := P) (w := w) T
  exact ⟨C, fI, fd, E, G, form_kw F (fun _ _ _ _ _ _ us ws l1 l2 => match us, ws, l1, l2 with | [_], [_], _, _ => rfl)⟩
theorem okx_NoActivity (T : Txt K mg) : ∃ C fI fd, ExcF K mg "NoActivity" C fI ["one"] ∧ (∀ base, FnOk P w K mg base (L2.CX P w) 2 fI fd ["self", "one"] (spX K ["one"])) ∧ FunD K "__init__" "NoActivity.__init__" (defArgs sx_NoActivity) (defBody sx_NoActivity) (defScope sx_NoActivity) [] [] fI fd := by
  obtain ⟨C, fI, fd, E, F⟩ := T.x_NoActivity
  obtain ⟨B, CB, mB⟩ := T.crew
  exact ⟨C, fI, fd, E, fun base => ex_init1 F ⟨rfl, rfl, rfl, by decide +kernel, rfl, by decide +kernel, by decide +kernel⟩ CB mB rfl rfl (fun _ _ => ⟨_, rfl⟩) (.inl rfl) (.inl rfl), F⟩
theorem okx_NoActivity_0 (T : Txt K mg) : ExcOk P w K mg "NoActivity" ["one"] 1 [] (fun a _ => a) := by
  obtain ⟨C, fI, fd, E, G, F⟩ := okx_NoActivity (P := P) (w := w) T
  exact ⟨C, fI, fd, E, G, form_pos F (fun _ _ _ _ _ _ us ws l1 l2 => match us, ws, l1, l2 with | [_, _], [], _, _ => rfl)⟩
theorem okx_NoActivity_1 (T : Txt K mg) : ExcOk P w K mg "NoActivity" ["one"] 0 ["one"] (fun _ b => b) := by
  obtain ⟨C, fI, fd, E, G, F⟩ := okx_NoActivity (P := P) (w := w) T
  exact ⟨C, fI, fd, E, G, form_kw F (fun _ _ _ _ _ _ us ws l1 l2 => match us, ws, l1, l2 with | [_], [_], _, _ => rfl)⟩
theorem okx_NoText (T : Txt K mg) : ∃ C fI fd, ExcF K mg "NoText" C fI ["line"] ∧ (∀ base, FnOk P w K mg base (L2.CX P w) 2 fI fd ["self", "line"] (spX K ["line"])) ∧ FunD K "__init__" "NoText.__init__" (defArgs sx_NoText) (defBody sx_NoText) (defScope sx_NoText) [] [] fI fd := by
  obtain ⟨C, fI, fd, E, F⟩ := T.x_NoText
  obtain ⟨B, CB, mB⟩ := T.crew
  exact ⟨C, fI, fd, E, fun base => ex_init1 F ⟨rfl, rfl, rfl, by decide +kernel, rfl, by decide +kernel, by decide +kernel⟩ CB mB rfl rfl (fun _ _ => ⟨_, rfl⟩) (.inl rfl) (.inl rfl), F⟩
theorem okx_NoText_0 (T : Txt K mg) : ExcOk P w K mg "NoText" ["line"] 1 [] (fun a _ => a) := by
  obtain ⟨C, fI, fd, E, G, F⟩ := okx_NoText (P := P) (w := w) T
  exact ⟨C, fI, fd, E, G, form_pos F (fun _ _ _ _ _ _ us ws l1 l2 => match us, ws, l1, l2 with | [_, _], [], _, _ => rfl)⟩
theorem okx_NoText_1 (T : Txt K mg) : ExcOk P w K mg "NoText" ["line"] 0 ["line"] (fun _ b => b) := by
  obtain ⟨C, fI, fd, E, G, F⟩ := okx_NoText (P := P) (w := w) T
  exact ⟨C, fI, fd, E, G, form_kw F (fun _ _ _ _ _ _ us ws l1 l2 => match us, ws, l1, l2 with | [_], [_], _, _ => rfl)⟩
theorem okx_NoChange (T : Txt K mg) : ∃ C fI fd, ExcF K mg "NoChange" C fI ["word"] ∧ (∀ base, FnOk P w K mg base (L2.CX P w) 2 fI fd ["self", "word"] (spX K ["word"])) ∧ FunD K "__init__" "NoChange.__init__" (defArgs sx_NoChange) (defBody sx_NoChange) (defScope sx_NoChange) [] [] fI fd := by
  obtain ⟨C, fI, fd, E, F⟩ := T.x_NoChange
  obtain ⟨B, CB, mB⟩ := T.crew
  exact ⟨C, fI, fd, E, fun base => ex_init1 F ⟨rfl, rfl, rfl, by decide +kernel, rfl, by decide +kernel, by decide +kernel⟩ CB mB rfl rfl (fun _ _ => ⟨_, rfl⟩) (.inl rfl) (.inl rfl), F⟩
theorem okx_NoChange_0 (T : Txt K mg) : ExcOk P w K mg "NoChange" ["word"] 1 [] (fun a _ => a) := by
  obtain ⟨C, fI, fd, E, G, F⟩ := okx_NoChange (P := P) (w := w) T
  exact ⟨C, fI, fd, E, G, form_pos F (fun _ _ _ _ _ _ us ws l1 l2 => match us, ws, l1, l2 with | [_, _], [], _, _ => rfl)⟩
theorem okx_NoChange_1 (T : Txt K mg) : ExcOk P w K mg "NoChange" ["word"] 0 ["word"] (fun _ b => b) := by
  obtain ⟨C, fI, fd, E, G, F⟩ := okx_NoChange (P := P) (w := w) T
  exact ⟨C, fI, fd, E, G, form_kw F (fun _ _ _ _ _ _ us ws l1 l2 => match us, ws, l1, l2 with | [_], [_], _, _ => rfl)⟩
theorem okx_NoCalendar (T : Txt K mg) : ∃ C fI fd, ExcF K mg "NoCalendar" C fI ["part", "index"] ∧ (∀ base, FnOk P w K mg base (L2.CX P w) 2 fI fd ["self", "part", "index"] (spX K ["part", "index"])) ∧ FunD K "__init__" "NoCalendar.__init__" (defArgs sx_NoCalendar) (defBody sx_NoCalendar) (defScope sx_NoCalendar) [] [] fI fd := by
  obtain ⟨C, fI, fd, E, F⟩ := T.x_NoCalendar
  obtain ⟨B, CB, mB⟩ := T.crew
  exact ⟨C, fI, fd, E, fun base => ex_init2 F ⟨rfl, rfl, rfl, by decide +kernel, rfl, by decide +kernel, by decide +kernel⟩ CB mB rfl rfl (fun _ _ => ⟨_, rfl⟩) (.inl rfl) (.inl rfl) (.inl rfl), F⟩
theorem okx_NoCalendar_0 (T : Txt K mg) : ExcOk P w K mg "NoCalendar" ["part", "index"] 2 [] (fun a _ => a) := by
  obtain ⟨C, fI, fd, E, G, F⟩ := okx_NoCalendar (P := P) (w := w) T
  exact ⟨C, fI, fd, E, G, form_pos F (fun _ _ _ _ _ _ us ws l1 l2 => match us, ws, l1, l2 with | [_, _, _], [], _, _ => rfl)⟩
theorem okx_NoCalendar_1 (T : Txt K mg) : ExcOk P w K mg "NoCalendar" ["part", "index"] 0 ["index", "part"] (fun _ b => swap2 b) := by
  obtain ⟨C, fI, fd, E, G, F⟩ := okx_NoCalendar (P := P) (w := w) T
  exact ⟨C, fI, fd, E, G, form_kws F rfl (fun _ _ _ _ _ _ us ws l1 l2 => match us, ws, l1, l2 with | [_], [_, _], _, _ => rfl)⟩
theorem okx_NoProject (T : Txt K mg) : ∃ C fI fd, ExcF K mg "NoProject" C fI ["part", "index"] ∧ (∀ base, FnOk P w K mg base (L2.CX P w) 2 fI fd ["self", "part", "index"] (spX K ["part", "index"])) ∧ FunD K "__init__" "NoProject.__init__" (defArgs sx_NoProject) (defBody sx_NoProject) (defScope sx_NoProject) [] [] fI fd := by
  obtain ⟨C, fI, fd, E, F⟩ := T.x_NoProject
  obtain ⟨B, CB, mB⟩ := T.crew
  exact ⟨C, fI, fd, E, fun base => ex_init2 F ⟨rfl, rfl, rfl, by decide +kernel, rfl, by decide +kernel, by decide +kernel⟩ CB mB rfl rfl (fun _ _ => ⟨_, rfl⟩) (.inl rfl) (.inl rfl) (.inl rfl), F⟩
theorem okx_NoProject_0 (T : Txt K mg) : ExcOk P w K mg "NoProject" ["part", "index"] 2 [] (fun a _ => a) := by
  obtain ⟨C, fI, fd, E, G, F⟩ := okx_NoProject (P := P) (w := w) T
  exact ⟨C, fI, fd, E, G, form_pos F (fun _ _ _ _ _ _ us ws l1 l2 => match us, ws, l1, l2 with | [_, _, _], [], _, _ => rfl)⟩
theorem okx_NoProject_1 (T : Txt K mg) : ExcOk P w K mg "NoProject" ["part", "index"] 0 ["index", "part"] (fun _ b => swap2 b) := by
  obtain ⟨C, fI, fd, E, G, F⟩ := okx_NoProject (P := P) (w := w) T
  exact ⟨C, fI, fd, E, G, form_kws F rfl (fun _ _ _ _ _ _ us ws l1 l2 => match us, ws, l1, l2 with | [_], [_, _], _, _ => rfl)⟩
theorem okx_NoChoice (T : Txt K mg) : ∃ C fI fd, ExcF K mg "NoChoice" C fI ["index"] ∧ (∀ base, FnOk P w K mg base (L2.CX P w) 2 fI fd ["self", "index"] (spX K ["index"])) ∧ FunD K "__init__" "NoChoice.__init__" (defArgs sx_NoChoice) (defBody sx_NoChoice) (defScope sx_NoChoice) [] [] fI fd := by
  obtain ⟨C, fI, fd, E, F⟩ := T.x_NoChoice
  obtain ⟨B, CB, mB⟩ := T.crew
  exact ⟨C, fI, fd, E, fun base => ex_init1 F ⟨rfl, rfl, rfl, by decide +kernel, rfl, by decide +kernel, by decide +kernel⟩ CB mB rfl rfl (fun _ _ => ⟨_, rfl⟩) (.inl rfl) (.inl rfl), F⟩
theorem okx_NoChoice_0 (T : Txt K mg) : ExcOk P w K mg "NoChoice" ["index"] 1 [] (fun a _ => a) := by
  obtain ⟨C, fI, fd, E, G, F⟩ := okx_NoChoice (P := P) (w := w) T
  exact ⟨C, fI, fd, E, G, form_pos F (fun _ _ _ _ _ _ us ws l1 l2 => match us, ws, l1, l2 with | [_, _], [], _, _ => rfl)⟩
theorem okx_NoChoice_1 (T : Txt K mg) : ExcOk P w K mg "NoChoice" ["index"] 0 ["index"] (fun _ b => b) := by
  obtain ⟨C, fI, fd, E, G, F⟩ := okx_NoChoice (P := P) (w := w) T
  exact ⟨C, fI, fd, E, G, form_kw F (fun _ _ _ _ _ _ us ws l1 l2 => match us, ws, l1, l2 with | [_], [_], _, _ => rfl)⟩
theorem okx_NoAhead (T : Txt K mg) : ∃ C fI fd, ExcF K mg "NoAhead" C fI ["index"] ∧ (∀ base, FnOk P w K mg base (L2.CX P w) 2 fI fd ["self", "index"] (spX K ["index"])) ∧ FunD K "__init__" "NoAhead.__init__" (defArgs sx_NoAhead) (defBody sx_NoAhead) (defScope sx_NoAhead) [] [] fI fd := by
  obtain ⟨C, fI, fd, E, F⟩ := T.x_NoAhead
  obtain ⟨B, CB, mB⟩ := T.crew
  exact ⟨C, fI, fd, E, fun base => ex_init1 F ⟨rfl, rfl, rfl, by decide +kernel, rfl, by decide +kernel, by decide +kernel⟩ CB mB rfl rfl (fun _ _ => ⟨_, rfl⟩) (.inl rfl) (.inl rfl), F⟩
theorem okx_NoAhead_0 (T : Txt K mg) : ExcOk P w K mg "NoAhead" ["index"] 1 [] (fun a _ => a) := by
  obtain ⟨C, fI, fd, E, G, F⟩ := okx_NoAhead (P := P) (w := w) T
  exact ⟨C, fI, fd, E, G, form_pos F (fun _ _ _ _ _ _ us ws l1 l2 => match us, ws, l1, l2 with | [_, _], [], _, _ => rfl)⟩
theorem okx_NoAhead_1 (T : Txt K mg) : ExcOk P w K mg "NoAhead" ["index"] 0 ["index"] (fun _ b => b) := by
  obtain ⟨C, fI, fd, E, G, F⟩ := okx_NoAhead (P := P) (w := w) T
  exact ⟨C, fI, fd, E, G, form_kw F (fun _ _ _ _ _ _ us ws l1 l2 => match us, ws, l1, l2 with | [_], [_], _, _ => rfl)⟩
theorem okx_NoDerivation (T : Txt K mg) : ∃ C fI fd, ExcF K mg "NoDerivation" C fI ["part", "index"] ∧ (∀ base, FnOk P w K mg base (L2.CX P w) 2 fI fd ["self", "part", "index"] (spX K ["part", "index"])) ∧ FunD K "__init__" "NoDerivation.__init__" (defArgs sx_NoDerivation) (defBody sx_NoDerivation) (defScope sx_NoDerivation) [] [] fI fd := by
  obtain ⟨C, fI, fd, E, F⟩ := T.x_NoDerivation
  obtain ⟨B, CB, mB⟩ := T.crew
  exact ⟨C, fI, fd, E, fun base => ex_init2 F ⟨rfl, rfl, rfl, by decide +kernel, rfl, by decide +kernel, by decide +kernel⟩ CB mB rfl rfl (fun _ _ => ⟨_, rfl⟩) (.inl rfl) (.inl rfl) (.inl rfl), F⟩
theorem okx_NoDerivation_0 (T : Txt K mg) : ExcOk P w K mg "NoDerivation" ["part", "index"] 2 [] (fun a _ => a) := by
  obtain ⟨C, fI, fd, E, G, F⟩ := okx_NoDerivation (P := P) (w := w) T
  exact ⟨C, fI, fd, E, G, form_pos F (fun _ _ _ _ _ _ us ws l1 l2 => match us, ws, l1, l2 with | [_, _, _], [], _, _ => rfl)⟩
theorem okx_NoDerivation_1 (T : Txt K mg) : ExcOk P w K mg "NoDerivation" ["part", "index"] 0 ["index", "part"] (fun _ b => swap2 b) := by
  obtain ⟨C, fI, fd, E, G, F⟩ := okx_NoDerivation (P := P) (w := w) T
  exact ⟨C, fI, fd, E, G, form_kws F rfl (fun _ _ _ _ _ _ us ws l1 l2 => match us, ws, l1, l2 with | [_], [_, _], _, _ => rfl)⟩
theorem okx_NoPlan (T : Txt K mg) : ∃ C fI fd, ExcF K mg "NoPlan" C fI ["fault"] ∧ (∀ base, FnOk P w K mg base (L2.CX P w) 2 fI fd ["self", "fault"] (spX K ["fault"])) ∧ FunD K "__init__" "NoPlan.__init__" (defArgs sx_NoPlan) (defBody sx_NoPlan) (defScope sx_NoPlan) [] [] fI fd := by
  obtain ⟨C, fI, fd, E, F⟩ := T.x_NoPlan
  obtain ⟨B, CB, mB⟩ := T.crew
  exact ⟨C, fI, fd, E, fun base => ex_init1 F ⟨rfl, rfl, rfl, by decide +kernel, rfl, by decide +kernel, by decide +kernel⟩ CB mB rfl rfl (fun _ _ => ⟨_, rfl⟩) (.inl rfl) (.inl rfl), F⟩
theorem okx_NoPlan_0 (T : Txt K mg) : ExcOk P w K mg "NoPlan" ["fault"] 1 [] (fun a _ => a) := by
  obtain ⟨C, fI, fd, E, G, F⟩ := okx_NoPlan (P := P) (w := w) T
  exact ⟨C, fI, fd, E, G, form_pos F (fun _ _ _ _ _ _ us ws l1 l2 => match us, ws, l1, l2 with | [_, _], [], _, _ => rfl)⟩
theorem okx_NoPlan_1 (T : Txt K mg) : ExcOk P w K mg "NoPlan" ["fault"] 0 ["fault"] (fun _ b => b) := by
  obtain ⟨C, fI, fd, E, G, F⟩ := okx_NoPlan (P := P) (w := w) T
  exact ⟨C, fI, fd, E, G, form_kw F (fun _ _ _ _ _ _ us ws l1 l2 => match us, ws, l1, l2 with | [_], [_], _, _ => rfl)⟩
theorem okx_NoRota (T : Txt K mg) : ∃ C fI fd, ExcF K mg "NoRota" C fI ["part", "index"] ∧ (∀ base, FnOk P w K mg base (L2.CX P w) 2 fI fd ["self", "part", "index"] (spX K ["part", "index"])) ∧ FunD K "__init__" "NoRota.__init__" (defArgs sx_NoRota) (defBody sx_NoRota) (defScope sx_NoRota) [] [] fI fd := by
  obtain ⟨C, fI, fd, E, F⟩ := T.x_NoRota
  obtain ⟨B, CB, mB⟩ := T.crew
  exact ⟨C, fI, fd, E, fun base => ex_init2 F ⟨rfl, rfl, rfl, by decide +kernel, rfl, by decide +kernel, by decide +kernel⟩ CB mB rfl rfl (fun _ _ => ⟨_, rfl⟩) (.inl rfl) (.inl rfl) (.inl rfl), F⟩
theorem okx_NoRota_0 (T : Txt K mg) : ExcOk P w K mg "NoRota" ["part", "index"] 2 [] (fun a _ => a) := by
  obtain ⟨C, fI, fd, E, G, F⟩ := okx_NoRota (P := P) (w := w) T
  exact ⟨C, fI, fd, E, G, form_pos F (fun _ _ _ _ _ _ us ws l1 l2 => match us, ws, l1, l2 with | [_, _, _], [], _, _ => rfl)⟩
theorem okx_NoRota_1 (T : Txt K mg) : ExcOk P w K mg "NoRota" ["part", "index"] 0 ["index", "part"] (fun _ b => swap2 b) := by
  obtain ⟨C, fI, fd, E, G, F⟩ := okx_NoRota (P := P) (w := w) T
  exact ⟨C, fI, fd, E, G, form_kws F rfl (fun _ _ _ _ _ _ us ws l1 l2 => match us, ws, l1, l2 with | [_], [_, _], _, _ => rfl)⟩
theorem okx_NoMix (T : Txt K mg) : ∃ C fI fd, ExcF K mg "NoMix" C fI ["index"] ∧ (∀ base, FnOk P w K mg base (L2.CX P w) 2 fI fd ["self", "index"] (spX K ["index"])) ∧ FunD K "__init__" "NoMix.__init__" (defArgs sx_NoMix) (defBody sx_NoMix) (defScope sx_NoMix) [] [] fI fd := by
  obtain ⟨C, fI, fd, E, F⟩ := T.x_NoMix
  obtain ⟨B, CB, mB⟩ := T.crew
  exact ⟨C, fI, fd, E, fun base => ex_init1 F ⟨rfl, rfl, rfl, by decide +kernel, rfl, by decide +kernel, by decide +kernel⟩ CB mB rfl rfl (fun _ _ => ⟨_, rfl⟩) (.inl rfl) (.inl rfl), F⟩
theorem okx_NoMix_0 (T : Txt K mg) : ExcOk P w K mg "NoMix" ["index"] 1 [] (fun a _ => a) := by
  obtain ⟨C, fI, fd, E, G, F⟩ := okx_NoMix (P := P) (w := w) T
  exact ⟨C, fI, fd, E, G, form_pos F (fun _ _ _ _ _ _ us ws l1 l2 => match us, ws, l1, l2 with | [_, _], [], _, _ => rfl)⟩
theorem okx_NoMix_1 (T : Txt K mg) : ExcOk P w K mg "NoMix" ["index"] 0 ["index"] (fun _ b => b) := by
  obtain ⟨C, fI, fd, E, G, F⟩ := okx_NoMix (P := P) (w := w) T
  exact ⟨C, fI, fd, E, G, form_kw F (fun _ _ _ _ _ _ us ws l1 l2 => match us, ws, l1, l2 with | [_], [_], _, _ => rfl)⟩
theorem okx_NoBlind (T : Txt K mg) : ∃ C fI fd, ExcF K mg "NoBlind" C fI ["part", "index"] ∧ (∀ base, FnOk P w K mg base (L2.CX P w) 2 fI fd ["self", "part", "index"] (spX K ["part", "index"])) ∧ FunD K "__init__" "NoBlind.__init__" (defArgs sx_NoBlind) (defBody sx_NoBlind) (defScope sx_NoBlind) [] [] fI fd := by
  obtain ⟨C, fI, fd, E, F⟩ := T.x_NoBlind
  obtain ⟨B, CB, mB⟩ := T.crew
  exact ⟨C, fI, fd, E, fun base => ex_init2 F ⟨rfl, rfl, rfl, by decide +kernel, rfl, by decide +kernel, by decide +kernel⟩ CB mB rfl rfl (fun _ _ => ⟨_, rfl⟩) (.inl rfl) (.inl rfl) (.inl rfl), F⟩
theorem okx_NoBlind_0 (T : Txt K mg) : ExcOk P w K mg "NoBlind" ["part", "index"] 2 [] (fun a _ => a) := by
  obtain ⟨C, fI, fd, E, G, F⟩ := okx_NoBlind (P := P) (w := w) T
  exact ⟨C, fI, fd, E, G, form_pos F (fun _ _ _ _ _ _ us ws l1 l2 => match us, ws, l1, l2 with | [_, _, _], [], _, _ => rfl)⟩
theorem okx_NoBlind_1 (T : Txt K mg) : ExcOk P w K mg "NoBlind" ["part", "index"] 0 ["index", "part"] (fun _ b => swap2 b) := by
  obtain ⟨C, fI, fd, E, G, F⟩ := okx_NoBlind (P := P) (w := w) T
  exact ⟨C, fI, fd, E, G, form_kws F rfl (fun _ _ _ _ _ _ us ws l1 l2 => match us, ws, l1, l2 with | [_], [_, _], _, _ => rfl)⟩
theorem okx_NoFixed (T : Txt K mg) : ∃ C fI fd, ExcF K mg "NoFixed" C fI ["index"] ∧ (∀ base, FnOk P w K mg base (L2.CX P w) 2 fI fd ["self", "index"] (spX K ["index"])) ∧ FunD K "__init__" "NoFixed.__init__" (defArgs sx_NoFixed) (defBody sx_NoFixed) (defScope sx_NoFixed) [] [] fI fd := by
  obtain ⟨C, fI, fd, E, F⟩ := T.x_NoFixed
  obtain ⟨B, CB, mB⟩ := T.crew
  exact ⟨C, fI, fd, E, fun base => ex_init1 F ⟨rfl, rfl, rfl, by decide +kernel, rfl, by decide +kernel, by decide +kernel⟩ CB mB rfl rfl (fun _ _ => ⟨_, rfl⟩) (.inl rfl) (.inl rfl), F⟩
theorem okx_NoFixed_0 (T : Txt K mg) : ExcOk P w K mg "NoFixed" ["index"] 1 [] (fun a _ => a) := by
  obtain ⟨C, fI, fd, E, G, F⟩ := okx_NoFixed (P := P) (w := w) T
  exact ⟨C, fI, fd, E, G, form_pos F (fun _ _ _ _ _ _ us ws l1 l2 => match us, ws, l1, l2 with | [_, _], [], _, _ => rfl)⟩
theorem okx_NoFixed_1 (T : Txt K mg) : ExcOk P w K mg "NoFixed" ["index"] 0 ["index"] (fun _ b => b) := by
  obtain ⟨C, fI, fd, E, G, F⟩ := okx_NoFixed (P := P) (w := w) T
  exact ⟨C, fI, fd, E, G, form_kw F (fun _ _ _ _ _ _ us ws l1 l2 => match us, ws, l1, l2 with | [_], [_], _, _ => rfl)⟩
theorem okx_NotBeside (T : Txt K mg) : ∃ C fI fd, ExcF K mg "NotBeside" C fI ["part"] ∧ (∀ base, FnOk P w K mg base (L2.CX P w) 2 fI fd ["self", "part"] (spX K ["part"])) ∧ FunD K "__init__" "NotBeside.__init__" (defArgs sx_NotBeside) (defBody sx_NotBeside) (defScope sx_NotBeside) [] [] fI fd := by
  obtain ⟨C, fI, fd, E, F⟩ := T.x_NotBeside
  obtain ⟨B, CB, mB⟩ := T.crew
  exact ⟨C, fI, fd, E, fun base => ex_init1 F ⟨rfl, rfl, rfl, by decide +kernel, rfl, by decide +kernel, by decide +kernel⟩ CB mB rfl rfl (fun _ _ => ⟨_, rfl⟩) (.inl rfl) (.inl rfl), F⟩
theorem okx_NotBeside_0 (T : Txt K mg) : ExcOk P w K mg "NotBeside" ["part"] 1 [] (fun a _ => a) := by
  obtain ⟨C, fI, fd, E, G, F⟩ := okx_NotBeside (P := P) (w := w) T
  exact ⟨C, fI, fd, E, G, form_pos F (fun _ _ _ _ _ _ us ws l1 l2 => match us, ws, l1, l2 with | [_, _], [], _, _ => rfl)⟩
theorem okx_NotBeside_1 (T : Txt K mg) : ExcOk P w K mg "NotBeside" ["part"] 0 ["part"] (fun _ b => b) := by
  obtain ⟨C, fI, fd, E, G, F⟩ := okx_NotBeside (P := P) (w := w) T
  exact ⟨C, fI, fd, E, G, form_kw F (fun _ _ _ _ _ _ us ws l1 l2 => match us, ws, l1, l2 with | [_], [_], _, _ => rfl)⟩
theorem okx_NoBox (T : Txt K mg) : ∃ C fI fd, ExcF K mg "NoBox" C fI ["index"] ∧ (∀ base, FnOk P w K mg base (L2.CX P w) 2 fI fd ["self", "index"] (spX K ["index"])) ∧ FunD K "__init__" "NoBox.__init__" (defArgs sx_NoBox) (defBody sx_NoBox) (defScope sx_NoBox) [] [] fI fd := by
  obtain ⟨C, fI, fd, E, F⟩ := T.x_NoBox
  obtain ⟨B, CB, mB⟩ := T.crew
  exact ⟨C, fI, fd, E, fun base => ex_init1 F ⟨rfl, rfl, rfl, by decide +kernel, rfl, by decide +kernel, by decide +kernel⟩ CB mB rfl rfl (fun _ _ => ⟨_, rfl⟩) (.inl rfl) (.inl rfl), F⟩
theorem okx_NoBox_0 (T : Txt K mg) : ExcOk P w K mg "NoBox" ["index"] 1 [] (fun a _ => a) := by
  obtain ⟨C, fI, fd, E, G, F⟩ := okx_NoBox (P := P) (w := w) T
  exact ⟨C, fI, fd, E, G, form_pos F (fun _ _ _ _ _ _ us ws l1 l2 => match us, ws, l1, l2 with | [_, _], [], _, _ => rfl)⟩
theorem okx_NoBox_1 (T : Txt K mg) : ExcOk P w K mg "NoBox" ["index"] 0 ["index"] (fun _ b => b) := by
  obtain ⟨C, fI, fd, E, G, F⟩ := okx_NoBox (P := P) (w := w) T
  exact ⟨C, fI, fd, E, G, form_kw F (fun _ _ _ _ _ _ us ws l1 l2 => match us, ws, l1, l2 with | [_], [_], _, _ => rfl)⟩
theorem okx_TooGreat (T : Txt K mg) : ∃ C fI fd, ExcF K mg "TooGreat" C fI ["most"] ∧ (∀ base, FnOk P w K mg base (L2.CX P w) 2 fI fd ["self", "most"] (spX K ["most"])) ∧ FunD K "__init__" "TooGreat.__init__" (defArgs sx_TooGreat) (defBody sx_TooGreat) (defScope sx_TooGreat) [] [] fI fd := by
  obtain ⟨C, fI, fd, E, F⟩ := T.x_TooGreat
  obtain ⟨B, CB, mB⟩ := T.crew
  exact ⟨C, fI, fd, E, fun base => ex_init1 F ⟨rfl, rfl, rfl, by decide +kernel, rfl, by decide +kernel, by decide +kernel⟩ CB mB rfl rfl (fun _ _ => ⟨_, rfl⟩) (.inl rfl) (.inl rfl), F⟩
theorem okx_TooGreat_0 (T : Txt K mg) : ExcOk P w K mg "TooGreat" ["most"] 1 [] (fun a _ => a) := by
  obtain ⟨C, fI, fd, E, G, F⟩ := okx_TooGreat (P := P) (w := w) T
  exact ⟨C, fI, fd, E, G, form_pos F (fun _ _ _ _ _ _ us ws l1 l2 => match us, ws, l1, l2 with | [_, _], [], _, _ => rfl)⟩
theorem okx_TooGreat_1 (T : Txt K mg) : ExcOk P w K mg "TooGreat" ["most"] 0 ["most"] (fun _ b => b) := by
  obtain ⟨C, fI, fd, E, G, F⟩ := okx_TooGreat (P := P) (w := w) T
  exact ⟨C, fI, fd, E, G, form_kw F (fun _ _ _ _ _ _ us ws l1 l2 => match us, ws, l1, l2 with | [_], [_], _, _ => rfl)⟩
theorem xat_fault (T : Txt K mg) : ∀ c ∈ xa_fault, ∃ C, mg c = some (.ref C) ∧ XfC K C ∧ PySem.W.findIn K (.ref C) "fault" = some none := by
  intro c hc
  simp only [xa_fault, List.mem_cons, List.not_mem_nil, or_false] at hc
  rcases hc with rfl | rfl
  · obtain ⟨C, fI, fd, E, F⟩ := T.x_NoSchedule
    exact ⟨C, E.mgC, E.xf, E.nf _ (by simp)⟩
  · obtain ⟨C, fI, fd, E, F⟩ := T.x_NoPlan
    exact ⟨C, E.mgC, E.xf, E.nf _ (by simp)⟩
theorem xat_index (T : Txt K mg) : ∀ c ∈ xa_index, ∃ C, mg c = some (.ref C) ∧ XfC K C ∧ PySem.W.findIn K (.ref C) "index" = some none := by
  intro c hc
  simp only [xa_index, List.mem_cons, List.not_mem_nil, or_false] at hc
  rcases hc with rfl | rfl | rfl | rfl | rfl | rfl | rfl | rfl | rfl | rfl | rfl | rfl | rfl | rfl | rfl | rfl | rfl | rfl
  · obtain ⟨C, fI, fd, E, F⟩ := T.x_NoShape
    exact ⟨C, E.mgC, E.xf, E.nf _ (by simp)⟩
  · obtain ⟨C, fI, fd, E, F⟩ := T.x_NoDurations
    exact ⟨C, E.mgC, E.xf, E.nf _ (by simp)⟩
  · obtain ⟨C, fI, fd, E, F⟩ := T.x_NoWeights
    exact ⟨C, E.mgC, E.xf, E.nf _ (by simp)⟩
  · obtain ⟨C, fI, fd, E, F⟩ := T.x_NoBound
    exact ⟨C, E.mgC, E.xf, E.nf _ (by simp)⟩
  · obtain ⟨C, fI, fd, E, F⟩ := T.x_NoPairs
    exact ⟨C, E.mgC, E.xf, E.nf _ (by simp)⟩
  · obtain ⟨C, fI, fd, E, F⟩ := T.x_NoOrder
    exact ⟨C, E.mgC, E.xf, E.nf _ (by simp)⟩
  · obtain ⟨C, fI, fd, E, F⟩ := T.x_NoGraph
    exact ⟨C, E.mgC, E.xf, E.nf _ (by simp)⟩
  · obtain ⟨C, fI, fd, E, F⟩ := T.x_NoStarts
    exact ⟨C, E.mgC, E.xf, E.nf _ (by simp)⟩
  · obtain ⟨C, fI, fd, E, F⟩ := T.x_NoCalendar
    exact ⟨C, E.mgC, E.xf, E.nf _ (by simp)⟩
  · obtain ⟨C, fI, fd, E, F⟩ := T.x_NoProject
    exact ⟨C, E.mgC, E.xf, E.nf _ (by simp)⟩
  · obtain ⟨C, fI, fd, E, F⟩ := T.x_NoChoice
    exact ⟨C, E.mgC, E.xf, E.nf _ (by simp)⟩
  · obtain ⟨C, fI, fd, E, F⟩ := T.x_NoAhead
    exact ⟨C, E.mgC, E.xf, E.nf _ (by simp)⟩
  · obtain ⟨C, fI, fd, E, F⟩ := T.x_NoDerivation
    exact ⟨C, E.mgC, E.xf, E.nf _ (by simp)⟩
  · obtain ⟨C, fI, fd, E, F⟩ := T.x_NoRota
    exact ⟨C, E.mgC, E.xf, E.nf _ (by simp)⟩
  · obtain ⟨C, fI, fd, E, F⟩ := T.x_NoMix
    exact ⟨C, E.mgC, E.xf, E.nf _ (by simp)⟩
  · obtain ⟨C, fI, fd, E, F⟩ := T.x_NoBlind
    exact ⟨C, E.mgC, E.xf, E.nf _ (by simp)⟩
  · obtain ⟨C, fI, fd, E, F⟩ := T.x_NoFixed
    exact ⟨C, E.mgC, E.xf, E.nf _ (by simp)⟩
  · obtain ⟨C, fI, fd, E, F⟩ := T.x_NoBox
    exact ⟨C, E.mgC, E.xf, E.nf _ (by simp)⟩
theorem xat_line (T : Txt K mg) : ∀ c ∈ xa_line, ∃ C, mg c = some (.ref C) ∧ XfC K C ∧ PySem.W.findIn K (.ref C) "line" = some none := by
  intro c hc
  simp only [xa_line, List.mem_cons, List.not_mem_nil, or_false] at hc
  rcases hc with rfl
  · obtain ⟨C, fI, fd, E, F⟩ := T.x_NoText
    exact ⟨C, E.mgC, E.xf, E.nf _ (by simp)⟩
theorem xat_most (T : Txt K mg) : ∀ c ∈ xa_most, ∃ C, mg c = some (.ref C) ∧ XfC K C ∧ PySem.W.findIn K (.ref C) "most" = some none := by
  intro c hc
  simp only [xa_most, List.mem_cons, List.not_mem_nil, or_false] at hc
  rcases hc with rfl
  · obtain ⟨C, fI, fd, E, F⟩ := T.x_TooGreat
    exact ⟨C, E.mgC, E.xf, E.nf _ (by simp)⟩
theorem xat_one (T : Txt K mg) : ∀ c ∈ xa_one, ∃ C, mg c = some (.ref C) ∧ XfC K C ∧ PySem.W.findIn K (.ref C) "one" = some none := by
  intro c hc
  simp only [xa_one, List.mem_cons, List.not_mem_nil, or_false] at hc
  rcases hc with rfl
  · obtain ⟨C, fI, fd, E, F⟩ := T.x_NoActivity
    exact ⟨C, E.mgC, E.xf, E.nf _ (by simp)⟩
theorem xat_part (T : Txt K mg) : ∀ c ∈ xa_part, ∃ C, mg c = some (.ref C) ∧ XfC K C ∧ PySem.W.findIn K (.ref C) "part" = some none := by
  intro c hc
  simp only [xa_part, List.mem_cons, List.not_mem_nil, or_false] at hc
  rcases hc with rfl | rfl | rfl | rfl | rfl | rfl | rfl | rfl | rfl
  · obtain ⟨C, fI, fd, E, F⟩ := T.x_NoNumber
    exact ⟨C, E.mgC, E.xf, E.nf _ (by simp)⟩
  · obtain ⟨C, fI, fd, E, F⟩ := T.x_NoShape
    exact ⟨C, E.mgC, E.xf, E.nf _ (by simp)⟩
  · obtain ⟨C, fI, fd, E, F⟩ := T.x_NoBound
    exact ⟨C, E.mgC, E.xf, E.nf _ (by simp)⟩
  · obtain ⟨C, fI, fd, E, F⟩ := T.x_NoCalendar
    exact ⟨C, E.mgC, E.xf, E.nf _ (by simp)⟩
  · obtain ⟨C, fI, fd, E, F⟩ := T.x_NoProject
    exact ⟨C, E.mgC, E.xf, E.nf _ (by simp)⟩
  · obtain ⟨C, fI, fd, E, F⟩ := T.x_NoDerivation
    exact ⟨C, E.mgC, E.xf, E.nf _ (by simp)⟩
  · obtain ⟨C, fI, fd, E, F⟩ := T.x_NoRota
    exact ⟨C, E.mgC, E.xf, E.nf _ (by simp)⟩
  · obtain ⟨C, fI, fd, E, F⟩ := T.x_NoBlind
    exact ⟨C, E.mgC, E.xf, E.nf _ (by simp)⟩
  · obtain ⟨C, fI, fd, E, F⟩ := T.x_NotBeside
    exact ⟨C, E.mgC, E.xf, E.nf _ (by simp)⟩
theorem xat_some (T : Txt K mg) : ∀ c ∈ xa_some, ∃ C, mg c = some (.ref C) ∧ XfC K C ∧ PySem.W.findIn K (.ref C) "some" = some none := by
  intro c hc
  simp only [xa_some, List.mem_cons, List.not_mem_nil, or_false] at hc
  rcases hc with rfl
  · obtain ⟨C, fI, fd, E, F⟩ := T.x_NoSet
    exact ⟨C, E.mgC, E.xf, E.nf _ (by simp)⟩
theorem xat_word (T : Txt K mg) : ∀ c ∈ xa_word, ∃ C, mg c = some (.ref C) ∧ XfC K C ∧ PySem.W.findIn K (.ref C) "word" = some none := by
  intro c hc
  simp only [xa_word, List.mem_cons, List.not_mem_nil, or_false] at hc
  rcases hc with rfl
  · obtain ⟨C, fI, fd, E, F⟩ := T.x_NoChange
    exact ⟨C, E.mgC, E.xf, E.nf _ (by simp)⟩
theorem isxE (T : Txt K mg) (n : Str) (hn : n ∈ xs) : ∃ C, mg n = some (.ref C) ∧ ∀ c b, subE n c = some b → ∃ C', mg c = some (.ref C') ∧ ExcC K C' ∧ PySem.W.kitOne K (.ref C') (.ref C) = some b := by
  obtain ⟨C, C', m, m', E, k⟩ := T.kx n hn n hn
  refine ⟨C, m, fun c b h => ?_⟩
  unfold subE at h
  split at h
  · rename_i hc
    cases h
    obtain ⟨C1, C2, m1, m2, E1, k1⟩ := T.kx c (by simpa using hc) n hn
    rw [m] at m2
    cases m2
    exact ⟨C1, m1, E1, k1⟩
  · cases h
theorem isxC (T : Txt K mg) : ∃ B, mg "CrewError" = some (.ref B) ∧ ∀ c b, subC c = some b → ∃ C', mg c = some (.ref C') ∧ ExcC K C' ∧ PySem.W.kitOne K (.ref C') (.ref B) = some b := by
  obtain ⟨B, m, k⟩ := T.kc
  refine ⟨B, m, fun c b h => ?_⟩
  unfold subC at h
  split at h
  · rename_i hc
    cases h
    exact k c (by simpa using hc)
  · cases h
theorem isxV (T : Txt K mg) : ∀ c b, subC c = some b → ∃ C', mg c = some (.ref C') ∧ ExcC K C' ∧ PySem.W.kitOne K (.ref C') (.type "ValueError") = some b := by
  intro c b h
  unfold subC at h
  split at h
  · rename_i hc
    cases h
    exact T.kv c (by simpa using hc)
  · cases h
theorem ok__law_draw (T : Txt K mg)  : CallOk P w K mg "_law_draw" 1 ["_law_well", "_law_many"] fn__law_draw :=
  T.d__law_draw.ok fun f fd F base hB => fn_denI F sc__law_draw rfl rfl (by decide) fun cdv hcv A outer s H E hr tk po => dss_cons (ds_if (dt_gt (de_ix (de_var 0) (de_int)) (de_int)) (dss_cons (ds_set 2 (de_mod (de_intOf (by rfl) T.b_int (de_ix (de_var 0) (de_int))) (de_var 1)) sc__law_draw.nd)
  (dss_cons (ds_setIx 0 (de_fdiv (de_ix (de_var 0) (de_int)) (de_var 1)) (de_int))
  (dss_one (ds_ret (de_var 2))))) (dss_nil))
  (dss_cons (ds_setIx 0 (de_add (de_ix (de_var 0) (de_int)) (de_int)) (de_int))
  (dss_cons (ds_set 3 (de_mod (de_intOf (by rfl) T.b_int (de_mulK (de_add (de_add (de_ix (de_var 0) (de_int)) (de_mulK (de_int) (de_ix (de_var 0) (de_int)))) (de_int)) (de_int))) (de_int)) sc__law_draw.nd)
  (dss_cons (ds_set 3 (de_mod (de_intOf (by rfl) T.b_int (de_mulK (de_var 3) (de_add (de_fdiv (de_var 3) (de_int)) (de_int)))) (de_int)) sc__law_draw.nd)
  (dss_one (ds_ret (de_mod (de_intOf (by rfl) T.b_int (de_mod (de_intOf (by rfl) T.b_int (de_mulK (de_var 3) (de_add (de_fdiv (de_var 3) (de_int)) (de_int)))) (de_int))) (de_var 1)))))))
theorem ok__law_one (T : Txt K mg) (C__law_draw : CallOk P w K mg "_law_draw" 1 ["_law_well", "_law_many"] fn__law_draw) : CallOk P w K mg "_law_one" 2 ["_law_well", "_law_some_so"] fn__law_one :=
  T.d__law_one.ok fun f fd F base hB => fn_denI F sc__law_one rfl rfl (by decide) fun cdv hcv A outer s H E hr tk po => dss_one (ds_ret (de_ix (de_var 1) (de_callN C__law_draw hB (hr.mono (by decide)) tk (by rfl) (da_lend 0 (da_cons (de_len (by rfl) T.b_len (de_var 1)) (da_nil))))))
theorem ok__law_taken (T : Txt K mg)  : CallOk P w K mg "_law_taken" 1 ["_law_e"] fn__law_taken :=
  T.d__law_taken.ok fun f fd F base hB => fn_denI F sc__law_taken rfl rfl (by decide) fun cdv hcv A outer s H E hr tk po => dss_cons (ds_set 1 (de_lst (da_cons (de_isX (by rfl) T.b_isinstance (by rfl) (isxE T "NoNumber" (by decide)).choose_spec.1 (isxE T "NoNumber" (by decide)).choose_spec.2 (de_var 0)) (da_cons (de_isX (by rfl) T.b_isinstance (by rfl) (isxE T "NoShape" (by decide)).choose_spec.1 (isxE T "NoShape" (by decide)).choose_spec.2 (de_var 0)) (da_cons (de_isX (by rfl) T.b_isinstance (by rfl) (isxE T "NoSet" (by decide)).choose_spec.1 (isxE T "NoSet" (by decide)).choose_spec.2 (de_var 0)) (da_nil))))) sc__law_taken.nd)
  (dss_cons (ds_set 1 (de_add (de_var 1) (de_lst (da_cons (de_isX (by rfl) T.b_isinstance (by rfl) (isxE T "NoDurations" (by decide)).choose_spec.1 (isxE T "NoDurations" (by decide)).choose_spec.2 (de_var 0)) (da_cons (de_isX (by rfl) T.b_isinstance (by rfl) (isxE T "NoWeights" (by decide)).choose_spec.1 (isxE T "NoWeights" (by decide)).choose_spec.2 (de_var 0)) (da_cons (de_isX (by rfl) T.b_isinstance (by rfl) (isxE T "NoBound" (by decide)).choose_spec.1 (isxE T "NoBound" (by decide)).choose_spec.2 (de_var 0)) (da_nil)))))) sc__law_taken.nd)
  (dss_cons (ds_set 1 (de_add (de_var 1) (de_lst (da_cons (de_isX (by rfl) T.b_isinstance (by rfl) (isxE T "NoPairs" (by decide)).choose_spec.1 (isxE T "NoPairs" (by decide)).choose_spec.2 (de_var 0)) (da_cons (de_isX (by rfl) T.b_isinstance (by rfl) (isxE T "NoOrder" (by decide)).choose_spec.1 (isxE T "NoOrder" (by decide)).choose_spec.2 (de_var 0)) (da_cons (de_isX (by rfl) T.b_isinstance (by rfl) (isxE T "NoGraph" (by decide)).choose_spec.1 (isxE T "NoGraph" (by decide)).choose_spec.2 (de_var 0)) (da_nil)))))) sc__law_taken.nd)
  (dss_cons (ds_set 1 (de_add (de_var 1) (de_lst (da_cons (de_isX (by rfl) T.b_isinstance (by rfl) (isxE T "NoStarts" (by decide)).choose_spec.1 (isxE T "NoStarts" (by decide)).choose_spec.2 (de_var 0)) (da_cons (de_isX (by rfl) T.b_isinstance (by rfl) (isxE T "NoSchedule" (by decide)).choose_spec.1 (isxE T "NoSchedule" (by decide)).choose_spec.2 (de_var 0)) (da_cons (de_isX (by rfl) T.b_isinstance (by rfl) (isxE T "NoActivity" (by decide)).choose_spec.1 (isxE T "NoActivity" (by decide)).choose_spec.2 (de_var 0)) (da_nil)))))) sc__law_taken.nd)
  (dss_cons (ds_set 1 (de_add (de_var 1) (de_lst (da_cons (de_isX (by rfl) T.b_isinstance (by rfl) (isxE T "NoText" (by decide)).choose_spec.1 (isxE T "NoText" (by decide)).choose_spec.2 (de_var 0)) (da_cons (de_isX (by rfl) T.b_isinstance (by rfl) (isxE T "NoChange" (by decide)).choose_spec.1 (isxE T "NoChange" (by decide)).choose_spec.2 (de_var 0)) (da_cons (de_isX (by rfl) T.b_isinstance (by rfl) (isxE T "NoCalendar" (by decide)).choose_spec.1 (isxE T "NoCalendar" (by decide)).choose_spec.2 (de_var 0)) (da_nil)))))) sc__law_taken.nd)
  (dss_cons (ds_set 1 (de_add (de_var 1) (de_lst (da_cons (de_isX (by rfl) T.b_isinstance (by rfl) (isxE T "NoProject" (by decide)).choose_spec.1 (isxE T "NoProject" (by decide)).choose_spec.2 (de_var 0)) (da_cons (de_isX (by rfl) T.b_isinstance (by rfl) (isxE T "NoChoice" (by decide)).choose_spec.1 (isxE T "NoChoice" (by decide)).choose_spec.2 (de_var 0)) (da_cons (de_isX (by rfl) T.b_isinstance (by rfl) (isxE T "NoAhead" (by decide)).choose_spec.1 (isxE T "NoAhead" (by decide)).choose_spec.2 (de_var 0)) (da_nil)))))) sc__law_taken.nd)
  (dss_cons (ds_set 1 (de_add (de_var 1) (de_lst (da_cons (de_isX (by rfl) T.b_isinstance (by rfl) (isxE T "NoDerivation" (by decide)).choose_spec.1 (isxE T "NoDerivation" (by decide)).choose_spec.2 (de_var 0)) (da_cons (de_isX (by rfl) T.b_isinstance (by rfl) (isxE T "NoPlan" (by decide)).choose_spec.1 (isxE T "NoPlan" (by decide)).choose_spec.2 (de_var 0)) (da_cons (de_isX (by rfl) T.b_isinstance (by rfl) (isxE T "NoRota" (by decide)).choose_spec.1 (isxE T "NoRota" (by decide)).choose_spec.2 (de_var 0)) (da_nil)))))) sc__law_taken.nd)
  (dss_cons (ds_set 1 (de_add (de_var 1) (de_lst (da_cons (de_isX (by rfl) T.b_isinstance (by rfl) (isxE T "NoMix" (by decide)).choose_spec.1 (isxE T "NoMix" (by decide)).choose_spec.2 (de_var 0)) (da_cons (de_isX (by rfl) T.b_isinstance (by rfl) (isxE T "NoBlind" (by decide)).choose_spec.1 (isxE T "NoBlind" (by decide)).choose_spec.2 (de_var 0)) (da_cons (de_isX (by rfl) T.b_isinstance (by rfl) (isxE T "NoFixed" (by decide)).choose_spec.1 (isxE T "NoFixed" (by decide)).choose_spec.2 (de_var 0)) (da_nil)))))) sc__law_taken.nd)
  (dss_cons (ds_set 1 (de_add (de_var 1) (de_lst (da_cons (de_isX (by rfl) T.b_isinstance (by rfl) (isxE T "NotBeside" (by decide)).choose_spec.1 (isxE T "NotBeside" (by decide)).choose_spec.2 (de_var 0)) (da_cons (de_isX (by rfl) T.b_isinstance (by rfl) (isxE T "NoBox" (by decide)).choose_spec.1 (isxE T "NoBox" (by decide)).choose_spec.2 (de_var 0)) (da_cons (de_isX (by rfl) T.b_isinstance (by rfl) (isxE T "TooGreat" (by decide)).choose_spec.1 (isxE T "TooGreat" (by decide)).choose_spec.2 (de_var 0)) (da_nil)))))) sc__law_taken.nd)
  (dss_one (ds_ret (de_var 1)))))))))))
theorem ok__law_by_place (T : Txt K mg) (X_NoActivity_0 : ExcOk P w K mg "NoActivity" ["one"] 1 [] (fun a _ => a)) (X_NoAhead_0 : ExcOk P w K mg "NoAhead" ["index"] 1 [] (fun a _ => a)) (X_NoBlind_0 : ExcOk P w K mg "NoBlind" ["part", "index"] 2 [] (fun a _ => a)) (X_NoBound_0 : ExcOk P w K mg "NoBound" ["part", "index"] 2 [] (fun a _ => a)) (X_NoBox_0 : ExcOk P w K mg "NoBox" ["index"] 1 [] (fun a _ => a)) (X_NoCalendar_0 : ExcOk P w K mg "NoCalendar" ["part", "index"] 2 [] (fun a _ => a)) (X_NoChange_0 : ExcOk P w K mg "NoChange" ["word"] 1 [] (fun a _ => a)) (X_NoChoice_0 : ExcOk P w K mg "NoChoice" ["index"] 1 [] (fun a _ => a)) (X_NoDerivation_0 : ExcOk P w K mg "NoDerivation" ["part", "index"] 2 [] (fun a _ => a)) (X_NoDurations_0 : ExcOk P w K mg "NoDurations" ["index"] 1 [] (fun a _ => a)) (X_NoFixed_0 : ExcOk P w K mg "NoFixed" ["index"] 1 [] (fun a _ => a)) (X_NoGraph_0 : ExcOk P w K mg "NoGraph" ["index"] 1 [] (fun a _ => a)) (X_NoMix_0 : ExcOk P w K mg "NoMix" ["index"] 1 [] (fun a _ => a)) (X_NoNumber_0 : ExcOk P w K mg "NoNumber" ["part"] 1 [] (fun a _ => a)) (X_NoOrder_0 : ExcOk P w K mg "NoOrder" ["index"] 1 [] (fun a _ => a)) (X_NoPairs_0 : ExcOk P w K mg "NoPairs" ["index"] 1 [] (fun a _ => a)) (X_NoPlan_0 : ExcOk P w K mg "NoPlan" ["fault"] 1 [] (fun a _ => a)) (X_NoProject_0 : ExcOk P w K mg "NoProject" ["part", "index"] 2 [] (fun a _ => a)) (X_NoRota_0 : ExcOk P w K mg "NoRota" ["part", "index"] 2 [] (fun a _ => a)) (X_NoSchedule_0 : ExcOk P w K mg "NoSchedule" ["fault"] 1 [] (fun a _ => a)) (X_NoSet_0 : ExcOk P w K mg "NoSet" ["some"] 1 [] (fun a _ => a)) (X_NoShape_0 : ExcOk P w K mg "NoShape" ["part", "index"] 2 [] (fun a _ => a)) (X_NoStarts_0 : ExcOk P w K mg "NoStarts" ["index"] 1 [] (fun a _ => a)) (X_NoText_0 : ExcOk P w K mg "NoText" ["line"] 1 [] (fun a _ => a)) (X_NoWeights_0 : ExcOk P w K mg "NoWeights" ["index"] 1 [] (fun a _ => a)) (X_NotBeside_0 : ExcOk P w K mg "NotBeside" ["part"] 1 [] (fun a _ => a)) (X_TooGreat_0 : ExcOk P w K mg "TooGreat" ["most"] 1 [] (fun a _ => a)) : CallOk P w K mg "_law_by_place" 4 ["_law_x"] fn__law_by_place :=
  T.d__law_by_place.ok fun f fd F base hB => fn_denI F sc__law_by_place rfl rfl (by decide) fun cdv hcv A outer s H E hr tk po => dss_cons (ds_set 1 (de_lst (da_cons (de_exc X_NoNumber_0 (hr.mono (by decide)) tk (by rfl) (by decide) (da_cons (de_var 0) (da_nil)) (dk_nil)) (da_cons (de_exc X_NoShape_0 (hr.mono (by decide)) tk (by rfl) (by decide) (da_cons (de_var 0) (da_cons (de_int) (da_nil))) (dk_nil)) (da_cons (de_exc X_NoSet_0 (hr.mono (by decide)) tk (by rfl) (by decide) (da_cons (de_var 0) (da_nil)) (dk_nil)) (da_cons (de_exc X_NoDurations_0 (hr.mono (by decide)) tk (by rfl) (by decide) (da_cons (de_var 0) (da_nil)) (dk_nil)) (da_nil)))))) sc__law_by_place.nd)
  (dss_cons (ds_set 1 (de_add (de_var 1) (de_lst (da_cons (de_exc X_NoWeights_0 (hr.mono (by decide)) tk (by rfl) (by decide) (da_cons (de_var 0) (da_nil)) (dk_nil)) (da_cons (de_exc X_NoBound_0 (hr.mono (by decide)) tk (by rfl) (by decide) (da_cons (de_var 0) (da_cons (de_int) (da_nil))) (dk_nil)) (da_cons (de_exc X_NoPairs_0 (hr.mono (by decide)) tk (by rfl) (by decide) (da_cons (de_var 0) (da_nil)) (dk_nil)) (da_cons (de_exc X_NoOrder_0 (hr.mono (by decide)) tk (by rfl) (by decide) (da_cons (de_var 0) (da_nil)) (dk_nil)) (da_nil))))))) sc__law_by_place.nd)
  (dss_cons (ds_set 1 (de_add (de_var 1) (de_lst (da_cons (de_exc X_NoGraph_0 (hr.mono (by decide)) tk (by rfl) (by decide) (da_cons (de_var 0) (da_nil)) (dk_nil)) (da_cons (de_exc X_NoStarts_0 (hr.mono (by decide)) tk (by rfl) (by decide) (da_cons (de_var 0) (da_nil)) (dk_nil)) (da_cons (de_exc X_NoSchedule_0 (hr.mono (by decide)) tk (by rfl) (by decide) (da_cons (de_var 0) (da_nil)) (dk_nil)) (da_cons (de_exc X_NoActivity_0 (hr.mono (by decide)) tk (by rfl) (by decide) (da_cons (de_var 0) (da_nil)) (dk_nil)) (da_nil))))))) sc__law_by_place.nd)
  (dss_cons (ds_set 1 (de_add (de_var 1) (de_lst (da_cons (de_exc X_NoText_0 (hr.mono (by decide)) tk (by rfl) (by decide) (da_cons (de_var 0) (da_nil)) (dk_nil)) (da_cons (de_exc X_NoChange_0 (hr.mono (by decide)) tk (by rfl) (by decide) (da_cons (de_var 0) (da_nil)) (dk_nil)) (da_cons (de_exc X_NoCalendar_0 (hr.mono (by decide)) tk (by rfl) (by decide) (da_cons (de_var 0) (da_cons (de_int) (da_nil))) (dk_nil)) (da_cons (de_exc X_NoProject_0 (hr.mono (by decide)) tk (by rfl) (by decide) (da_cons (de_var 0) (da_cons (de_int) (da_nil))) (dk_nil)) (da_nil))))))) sc__law_by_place.nd)
  (dss_cons (ds_set 1 (de_add (de_var 1) (de_lst (da_cons (de_exc X_NoChoice_0 (hr.mono (by decide)) tk (by rfl) (by decide) (da_cons (de_var 0) (da_nil)) (dk_nil)) (da_cons (de_exc X_NoAhead_0 (hr.mono (by decide)) tk (by rfl) (by decide) (da_cons (de_var 0) (da_nil)) (dk_nil)) (da_cons (de_exc X_NoDerivation_0 (hr.mono (by decide)) tk (by rfl) (by decide) (da_cons (de_var 0) (da_cons (de_int) (da_nil))) (dk_nil)) (da_cons (de_exc X_NoPlan_0 (hr.mono (by decide)) tk (by rfl) (by decide) (da_cons (de_var 0) (da_nil)) (dk_nil)) (da_nil))))))) sc__law_by_place.nd)
  (dss_cons (ds_set 1 (de_add (de_var 1) (de_lst (da_cons (de_exc X_NoRota_0 (hr.mono (by decide)) tk (by rfl) (by decide) (da_cons (de_var 0) (da_cons (de_int) (da_nil))) (dk_nil)) (da_cons (de_exc X_NoMix_0 (hr.mono (by decide)) tk (by rfl) (by decide) (da_cons (de_var 0) (da_nil)) (dk_nil)) (da_cons (de_exc X_NoBlind_0 (hr.mono (by decide)) tk (by rfl) (by decide) (da_cons (de_var 0) (da_cons (de_int) (da_nil))) (dk_nil)) (da_cons (de_exc X_NoFixed_0 (hr.mono (by decide)) tk (by rfl) (by decide) (da_cons (de_var 0) (da_nil)) (dk_nil)) (da_nil))))))) sc__law_by_place.nd)
  (dss_cons (ds_set 1 (de_add (de_var 1) (de_lst (da_cons (de_exc X_NotBeside_0 (hr.mono (by decide)) tk (by rfl) (by decide) (da_cons (de_var 0) (da_nil)) (dk_nil)) (da_cons (de_exc X_NoBox_0 (hr.mono (by decide)) tk (by rfl) (by decide) (da_cons (de_var 0) (da_nil)) (dk_nil)) (da_cons (de_exc X_TooGreat_0 (hr.mono (by decide)) tk (by rfl) (by decide) (da_cons (de_var 0) (da_nil)) (dk_nil)) (da_nil)))))) sc__law_by_place.nd)
  (dss_one (ds_ret (de_var 1)))))))))
theorem ok__law_by_name (T : Txt K mg) (X_NoActivity_1 : ExcOk P w K mg "NoActivity" ["one"] 0 ["one"] (fun _ b => b)) (X_NoAhead_1 : ExcOk P w K mg "NoAhead" ["index"] 0 ["index"] (fun _ b => b)) (X_NoBlind_1 : ExcOk P w K mg "NoBlind" ["part", "index"] 0 ["index", "part"] (fun _ b => swap2 b)) (X_NoBound_1 : ExcOk P w K mg "NoBound" ["part", "index"] 0 ["index", "part"] (fun _ b => swap2 b)) (X_NoBox_1 : ExcOk P w K mg "NoBox" ["index"] 0 ["index"] (fun _ b => b)) (X_NoCalendar_1 : ExcOk P w K mg "NoCalendar" ["part", "index"] 0 ["index", "part"] (fun _ b => swap2 b)) (X_NoChange_1 : ExcOk P w K mg "NoChange" ["word"] 0 ["word"] (fun _ b => b)) (X_NoChoice_1 : ExcOk P w K mg "NoChoice" ["index"] 0 ["index"] (fun _ b => b)) (X_NoDerivation_1 : ExcOk P w K mg "NoDerivation" ["part", "index"] 0 ["index", "part"] (fun _ b => swap2 b)) (X_NoDurations_1 : ExcOk P w K mg "NoDurations" ["index"] 0 ["index"] (fun _ b => b)) (X_NoFixed_1 : ExcOk P w K mg "NoFixed" ["index"] 0 ["index"] (fun _ b => b)) (X_NoGraph_1 : ExcOk P w K mg "NoGraph" ["index"] 0 ["index"] (fun _ b => b)) (X_NoMix_1 : ExcOk P w K mg "NoMix" ["index"] 0 ["index"] (fun _ b => b)) (X_NoNumber_1 : ExcOk P w K mg "NoNumber" ["part"] 0 ["part"] (fun _ b => b)) (X_NoOrder_1 : ExcOk P w K mg "NoOrder" ["index"] 0 ["index"] (fun _ b => b)) (X_NoPairs_1 : ExcOk P w K mg "NoPairs" ["index"] 0 ["index"] (fun _ b => b)) (X_NoPlan_1 : ExcOk P w K mg "NoPlan" ["fault"] 0 ["fault"] (fun _ b => b)) (X_NoProject_1 : ExcOk P w K mg "NoProject" ["part", "index"] 0 ["index", "part"] (fun _ b => swap2 b)) (X_NoRota_1 : ExcOk P w K mg "NoRota" ["part", "index"] 0 ["index", "part"] (fun _ b => swap2 b)) (X_NoSchedule_1 : ExcOk P w K mg "NoSchedule" ["fault"] 0 ["fault"] (fun _ b => b)) (X_NoSet_1 : ExcOk P w K mg "NoSet" ["some"] 0 ["some"] (fun _ b => b)) (X_NoShape_1 : ExcOk P w K mg "NoShape" ["part", "index"] 0 ["index", "part"] (fun _ b => swap2 b)) (X_NoStarts_1 : ExcOk P w K mg "NoStarts" ["index"] 0 ["index"] (fun _ b => b)) (X_NoText_1 : ExcOk P w K mg "NoText" ["line"] 0 ["line"] (fun _ b => b)) (X_NoWeights_1 : ExcOk P w K mg "NoWeights" ["index"] 0 ["index"] (fun _ b => b)) (X_NotBeside_1 : ExcOk P w K mg "NotBeside" ["part"] 0 ["part"] (fun _ b => b)) (X_TooGreat_1 : ExcOk P w K mg "TooGreat" ["most"] 0 ["most"] (fun _ b => b)) : CallOk P w K mg "_law_by_name" 4 ["_law_x"] fn__law_by_name :=
  T.d__law_by_name.ok fun f fd F base hB => fn_denI F sc__law_by_name rfl rfl (by decide) fun cdv hcv A outer s H E hr tk po => dss_cons (ds_set 1 (de_lst (da_cons (de_exc0 X_NoNumber_1 (hr.mono (by decide)) tk (by rfl) (dk_cons (de_var 0) (dk_nil))) (da_cons (de_exc0 X_NoShape_1 (hr.mono (by decide)) tk (by rfl) (dk_cons (de_int) (dk_cons (de_var 0) (dk_nil)))) (da_cons (de_exc0 X_NoSet_1 (hr.mono (by decide)) tk (by rfl) (dk_cons (de_var 0) (dk_nil))) (da_nil))))) sc__law_by_name.nd)
  (dss_cons (ds_set 1 (de_add (de_var 1) (de_lst (da_cons (de_exc0 X_NoDurations_1 (hr.mono (by decide)) tk (by rfl) (dk_cons (de_var 0) (dk_nil))) (da_cons (de_exc0 X_NoWeights_1 (hr.mono (by decide)) tk (by rfl) (dk_cons (de_var 0) (dk_nil))) (da_cons (de_exc0 X_NoBound_1 (hr.mono (by decide)) tk (by rfl) (dk_cons (de_int) (dk_cons (de_var 0) (dk_nil)))) (da_nil)))))) sc__law_by_name.nd)
  (dss_cons (ds_set 1 (de_add (de_var 1) (de_lst (da_cons (de_exc0 X_NoPairs_1 (hr.mono (by decide)) tk (by rfl) (dk_cons (de_var 0) (dk_nil))) (da_cons (de_exc0 X_NoOrder_1 (hr.mono (by decide)) tk (by rfl) (dk_cons (de_var 0) (dk_nil))) (da_cons (de_exc0 X_NoGraph_1 (hr.mono (by decide)) tk (by rfl) (dk_cons (de_var 0) (dk_nil))) (da_nil)))))) sc__law_by_name.nd)
  (dss_cons (ds_set 1 (de_add (de_var 1) (de_lst (da_cons (de_exc0 X_NoStarts_1 (hr.mono (by decide)) tk (by rfl) (dk_cons (de_var 0) (dk_nil))) (da_cons (de_exc0 X_NoSchedule_1 (hr.mono (by decide)) tk (by rfl) (dk_cons (de_var 0) (dk_nil))) (da_cons (de_exc0 X_NoActivity_1 (hr.mono (by decide)) tk (by rfl) (dk_cons (de_var 0) (dk_nil))) (da_nil)))))) sc__law_by_name.nd)
  (dss_cons (ds_set 1 (de_add (de_var 1) (de_lst (da_cons (de_exc0 X_NoText_1 (hr.mono (by decide)) tk (by rfl) (dk_cons (de_var 0) (dk_nil))) (da_cons (de_exc0 X_NoChange_1 (hr.mono (by decide)) tk (by rfl) (dk_cons (de_var 0) (dk_nil))) (da_cons (de_exc0 X_NoCalendar_1 (hr.mono (by decide)) tk (by rfl) (dk_cons (de_int) (dk_cons (de_var 0) (dk_nil)))) (da_nil)))))) sc__law_by_name.nd)
  (dss_cons (ds_set 1 (de_add (de_var 1) (de_lst (da_cons (de_exc0 X_NoProject_1 (hr.mono (by decide)) tk (by rfl) (dk_cons (de_int) (dk_cons (de_var 0) (dk_nil)))) (da_cons (de_exc0 X_NoChoice_1 (hr.mono (by decide)) tk (by rfl) (dk_cons (de_var 0) (dk_nil))) (da_cons (de_exc0 X_NoAhead_1 (hr.mono (by decide)) tk (by rfl) (dk_cons (de_var 0) (dk_nil))) (da_nil)))))) sc__law_by_name.nd)
  (dss_cons (ds_set 1 (de_add (de_var 1) (de_lst (da_cons (de_exc0 X_NoDerivation_1 (hr.mono (by decide)) tk (by rfl) (dk_cons (de_int) (dk_cons (de_var 0) (dk_nil)))) (da_cons (de_exc0 X_NoPlan_1 (hr.mono (by decide)) tk (by rfl) (dk_cons (de_var 0) (dk_nil))) (da_cons (de_exc0 X_NoRota_1 (hr.mono (by decide)) tk (by rfl) (dk_cons (de_int) (dk_cons (de_var 0) (dk_nil)))) (da_nil)))))) sc__law_by_name.nd)
  (dss_cons (ds_set 1 (de_add (de_var 1) (de_lst (da_cons (de_exc0 X_NoMix_1 (hr.mono (by decide)) tk (by rfl) (dk_cons (de_var 0) (dk_nil))) (da_cons (de_exc0 X_NoBlind_1 (hr.mono (by decide)) tk (by rfl) (dk_cons (de_int) (dk_cons (de_var 0) (dk_nil)))) (da_cons (de_exc0 X_NoFixed_1 (hr.mono (by decide)) tk (by rfl) (dk_cons (de_var 0) (dk_nil))) (da_nil)))))) sc__law_by_name.nd)
  (dss_cons (ds_set 1 (de_add (de_var 1) (de_lst (da_cons (de_exc0 X_NotBeside_1 (hr.mono (by decide)) tk (by rfl) (dk_cons (de_var 0) (dk_nil))) (da_cons (de_exc0 X_NoBox_1 (hr.mono (by decide)) tk (by rfl) (dk_cons (de_var 0) (dk_nil))) (da_cons (de_exc0 X_TooGreat_1 (hr.mono (by decide)) tk (by rfl) (dk_cons (de_var 0) (dk_nil))) (da_nil)))))) sc__law_by_name.nd)
  (dss_one (ds_ret (de_var 1)))))))))))
theorem ok__law_fields (T : Txt K mg)  : CallOk P w K mg "_law_fields" 1 ["_law_some_so"] fn__law_fields :=
  T.d__law_fields.ok fun f fd F base hB => fn_denI F sc__law_fields rfl rfl (by decide) fun cdv hcv A outer s H E hr tk po => dss_cons (ds_set 1 (de_lst (da_cons (de_xv (xat_part T) (de_ix (de_var 0) (de_int))) (da_cons (de_xv (xat_part T) (de_ix (de_var 0) (de_int))) (da_cons (de_xv (xat_index T) (de_ix (de_var 0) (de_int))) (da_cons (de_xv (xat_some T) (de_ix (de_var 0) (de_int))) (da_nil)))))) sc__law_fields.nd)
  (dss_cons (ds_set 1 (de_add (de_var 1) (de_lst (da_cons (de_xv (xat_index T) (de_ix (de_var 0) (de_int))) (da_cons (de_xv (xat_index T) (de_ix (de_var 0) (de_int))) (da_cons (de_xv (xat_part T) (de_ix (de_var 0) (de_int))) (da_cons (de_xv (xat_index T) (de_ix (de_var 0) (de_int))) (da_nil))))))) sc__law_fields.nd)
  (dss_cons (ds_set 1 (de_add (de_var 1) (de_lst (da_cons (de_xv (xat_index T) (de_ix (de_var 0) (de_int))) (da_cons (de_xv (xat_index T) (de_ix (de_var 0) (de_int))) (da_cons (de_xv (xat_index T) (de_ix (de_var 0) (de_int))) (da_cons (de_xv (xat_index T) (de_ix (de_var 0) (de_int))) (da_nil))))))) sc__law_fields.nd)
  (dss_cons (ds_set 1 (de_add (de_var 1) (de_lst (da_cons (de_xv (xat_fault T) (de_ix (de_var 0) (de_int))) (da_cons (de_xv (xat_one T) (de_ix (de_var 0) (de_int))) (da_cons (de_xv (xat_line T) (de_ix (de_var 0) (de_int))) (da_cons (de_xv (xat_word T) (de_ix (de_var 0) (de_int))) (da_nil))))))) sc__law_fields.nd)
  (dss_cons (ds_set 1 (de_add (de_var 1) (de_lst (da_cons (de_xv (xat_part T) (de_ix (de_var 0) (de_int))) (da_cons (de_xv (xat_index T) (de_ix (de_var 0) (de_int))) (da_cons (de_xv (xat_part T) (de_ix (de_var 0) (de_int))) (da_cons (de_xv (xat_index T) (de_ix (de_var 0) (de_int))) (da_nil))))))) sc__law_fields.nd)
  (dss_cons (ds_set 1 (de_add (de_var 1) (de_lst (da_cons (de_xv (xat_index T) (de_ix (de_var 0) (de_int))) (da_cons (de_xv (xat_index T) (de_ix (de_var 0) (de_int))) (da_cons (de_xv (xat_part T) (de_ix (de_var 0) (de_int))) (da_cons (de_xv (xat_index T) (de_ix (de_var 0) (de_int))) (da_nil))))))) sc__law_fields.nd)
  (dss_cons (ds_set 1 (de_add (de_var 1) (de_lst (da_cons (de_xv (xat_fault T) (de_ix (de_var 0) (de_int))) (da_cons (de_xv (xat_part T) (de_ix (de_var 0) (de_int))) (da_cons (de_xv (xat_index T) (de_ix (de_var 0) (de_int))) (da_cons (de_xv (xat_index T) (de_ix (de_var 0) (de_int))) (da_nil))))))) sc__law_fields.nd)
  (dss_cons (ds_set 1 (de_add (de_var 1) (de_lst (da_cons (de_xv (xat_part T) (de_ix (de_var 0) (de_int))) (da_cons (de_xv (xat_index T) (de_ix (de_var 0) (de_int))) (da_cons (de_xv (xat_index T) (de_ix (de_var 0) (de_int))) (da_cons (de_xv (xat_part T) (de_ix (de_var 0) (de_int))) (da_nil))))))) sc__law_fields.nd)
  (dss_cons (ds_set 1 (de_add (de_var 1) (de_lst (da_cons (de_xv (xat_index T) (de_ix (de_var 0) (de_int))) (da_cons (de_xv (xat_most T) (de_ix (de_var 0) (de_int))) (da_nil))))) sc__law_fields.nd)
  (dss_one (ds_ret (de_var 1)))))))))))
theorem ok__law_right (T : Txt K mg) (C__law_by_name : CallOk P w K mg "_law_by_name" 4 ["_law_x"] fn__law_by_name) (C__law_by_place : CallOk P w K mg "_law_by_place" 4 ["_law_x"] fn__law_by_place) (C__law_draw : CallOk P w K mg "_law_draw" 1 ["_law_well", "_law_many"] fn__law_draw) (C__law_fields : CallOk P w K mg "_law_fields" 1 ["_law_some_so"] fn__law_fields) (C__law_one : CallOk P w K mg "_law_one" 2 ["_law_well", "_law_some_so"] fn__law_one) (C__law_taken : CallOk P w K mg "_law_taken" 1 ["_law_e"] fn__law_taken) : CallOk P w K mg "_law_right" 5 ["_law_well"] fn__law_right :=
  T.d__law_right.ok fun f fd F base hB => fn_denI F sc__law_right rfl rfl (by decide) fun cdv hcv A outer s H E hr tk po => dss_cons (ds_set 1 (de_callN C__law_one hB (hr.mono (by decide)) tk (by rfl) (da_lend 0 (da_cons (de_lst (da_cons (de_callN C__law_draw hB (hr.mono (by decide)) tk (by rfl) (da_lend 0 (da_cons (de_int) (da_nil)))) (da_cons (de_neg (de_int)) (da_cons (de_non) (da_cons (de_str) (da_cons (de_tup (da_cons (de_int) (da_cons (de_int) (da_nil)))) (da_nil))))))) (da_nil)))) sc__law_right.nd)
  (dss_cons (ds_set 2 (de_lst (da_cons (de_var 1) (da_cons (de_var 1) (da_cons (de_int) (da_cons (de_var 1) (da_cons (de_var 1) (da_cons (de_var 1) (da_cons (de_var 1) (da_cons (de_int) (da_cons (de_var 1) (da_cons (de_var 1) (da_cons (de_var 1) (da_cons (de_var 1) (da_cons (de_var 1) (da_cons (de_var 1) (da_cons (de_var 1) (da_cons (de_var 1) (da_cons (de_var 1) (da_cons (de_int) (da_cons (de_var 1) (da_cons (de_int) (da_cons (de_var 1) (da_cons (de_var 1) (da_nil)))))))))))))))))))))))) sc__law_right.nd)
  (dss_cons (ds_set 2 (de_add (de_var 2) (de_lst (da_cons (de_var 1) (da_cons (de_int) (da_cons (de_var 1) (da_cons (de_var 1) (da_cons (de_int) (da_cons (de_var 1) (da_cons (de_var 1) (da_cons (de_int) (da_cons (de_var 1) (da_cons (de_var 1) (da_cons (de_var 1) (da_cons (de_var 1) (da_nil))))))))))))))) sc__law_right.nd)
  (dss_cons (ds_for po rfl (di_seq (de_lst (da_cons (de_callN C__law_by_place hB (hr.mono (by decide)) tk (by rfl) (da_cons (de_var 1) (da_nil))) (da_cons (de_callN C__law_by_name hB (hr.mono (by decide)) tk (by rfl) (da_cons (de_var 1) (da_nil))) (da_nil))))) (dg_name 3 sc__law_right.nd) (dss_cons (ds_if (dt_ne hr (de_callN C__law_fields hB (hr.mono (by decide)) tk (by rfl) (da_cons (de_var 3) (da_nil))) (de_var 2)) (dss_one (ds_ret (de_bl))) (dss_nil))
  (dss_one (ds_for po rfl (di_enum (by rfl) T.b_enumerate (de_var 3)) (dg_tup rfl (dgs_cons (dg_name 4 sc__law_right.nd) (dgs_cons (dg_name 5 sc__law_right.nd) (dgs_nil)))) (dss_cons (ds_if (dt_ne hr (de_callN C__law_taken hB (hr.mono (by decide)) tk (by rfl) (da_cons (de_var 5) (da_nil))) (de_lc [("_law_k", 6)] rfl sc__law_right.nd (di_rangeW1 (by rfl) T.b_range (de_len (by rfl) T.b_len (de_var 3))) (by kernel_rfl) (fun _ _ _ _ _ => dg_name 6 sc__law_right.nd) (fun _ _ _ _ _ => dts_nil) (fun _ _ _ _ _ => de_eq hr (de_var 6) (de_var 4)))) (dss_one (ds_ret (de_bl))) (dss_nil))
  (dss_one (ds_if (DW.dt (dw_or (dt_not (dt_val (de_isX (by rfl) T.b_isinstance (by rfl) (isxC T).choose_spec.1 (isxC T).choose_spec.2 (de_var 5)))) (dw_or1 (dt_not (dt_val (de_isXV (by rfl) T.b_isinstance (by rfl) T.b_ValueError (isxV T) (de_var 5))))))) (dss_one (ds_ret (de_bl))) (dss_nil))))))))
  (dss_one (ds_ret (de_not (de_isVX (by rfl) T.b_isinstance (by rfl) T.b_ValueError (by rfl) T.kn.choose_spec.1 T.kn.choose_spec.2)))))))
theorem ok_law (T : Txt K mg) (C__law_right : CallOk P w K mg "_law_right" 5 ["_law_well"] fn__law_right) : CallOk P w K mg "law" 6 ["_law_script"] fn_law :=
  T.d_law.ok fun f fd F base hB => fn_denI F sc_law rfl rfl (by decide) fun cdv hcv A outer s H E hr tk po => dss_cons (ds_for po rfl (di_enum (by rfl) T.b_enumerate (de_slice (de_add (de_var 0) (de_lst (da_cons (de_int) (da_nil)))) (do_no) (do_some (de_int)))) (dg_tup rfl (dgs_cons (dg_name 1 sc_law.nd) (dgs_cons (dg_name 2 sc_law.nd) (dgs_nil)))) (dss_cons (ds_set 3 (de_lst (da_cons (de_mulK (de_var 2) (de_intOf (by rfl) T.b_int (de_ge (de_var 2) (de_pow (de_int) (de_int))))) (da_cons (de_add (de_mod (de_intOf (by rfl) T.b_int (de_var 2)) (de_int)) (de_mulK (de_int) (de_var 1))) (da_cons (de_int) (da_nil))))) sc_law.nd)
  (dss_one (ds_if (dt_not (dt_val (de_callN C__law_right hB (hr.mono (by decide)) tk (by rfl) (da_lend 3 (da_nil))))) (dss_one (ds_ret (de_bl))) (dss_nil)))))
  (dss_one (ds_ret (de_bl)))
end
end Lw

set_option Elab.async false
set_option linter.all false
set_option maxRecDepth 100000
set_option maxHeartbeats 1000000
namespace Lw
open PySem L2 Y
variable [TB]
def kinds : List (Str × List Str) := [("NoNumber", ["part"]), ("NoShape", ["part", "index"]), ("NoSet", ["some"]), ("NoDurations", ["index"]), ("NoWeights", ["index"]), ("NoBound", ["part", "index"]), ("NoPairs", ["index"]), ("NoOrder", ["index"]), ("NoGraph", ["index"]), ("NoStarts", ["index"]), ("NoSchedule", ["fault"]), ("NoActivity", ["one"]), ("NoText", ["line"]), ("NoChange", ["word"]), ("NoCalendar", ["part", "index"]), ("NoProject", ["part", "index"]), ("NoChoice", ["index"]), ("NoAhead", ["index"]), ("NoDerivation", ["part", "index"]), ("NoPlan", ["fault"]), ("NoRota", ["part", "index"]), ("NoMix", ["index"]), ("NoBlind", ["part", "index"]), ("NoFixed", ["index"]), ("NotBeside", ["part"]), ("NoBox", ["index"]), ("TooGreat", ["most"])]
def exD (x : D) : Str × List Str → D
  | (c, [f]) => .exc c [(f, x)]
  | (c, [f, g]) => .exc c [(g, .int 7), (f, x)]
  | (c, _) => .exc c []
theorem t_place (x : D) : fn__law_by_place [.val x] = .ok (.own (.lst (kinds.map (exD x)))) [.val x] := by kernel_rfl
theorem t_name (x : D) : fn__law_by_name [.val x] = .ok (.own (.lst (kinds.map (exD x)))) [.val x] := by kernel_rfl
def dueL (x : D) : List D := [x, x, .int 7, x, x, x, x, .int 7, x, x, x, x, x, x, x, x, x, .int 7, x, .int 7, x, x, x, .int 7, x, x, .int 7, x, x, .int 7, x, x, x, x]
theorem t_fields (x : D) : fn__law_fields [.val (.lst (kinds.map (exD x)))] = .ok (.own (.lst (dueL x))) [.val (.lst (kinds.map (exD x)))] := by kernel_rfl
end Lw

set_option Elab.async false
set_option linter.all false
set_option maxRecDepth 100000
set_option maxHeartbeats 1000000
namespace Lw
open PySem L2 Y
variable [TB]
abbrev lastX (x : D) : D := exD x ("TooGreat", ["most"])
abbrev stX (w x : D) (s4 s5 : Slot) : Sl := [.own true (.lst [w]), .val x, .own false (.lst (dueL x)), .val (.lst (kinds.map (exD x))), s4, s5, .no]
theorem l_in1 (s0 : List D) (x : D) : forRun (tTupD 2 (tsCons (tName 4) (tsCons (tName 5) (tsNil)))) lb__law_right_1 (enumD 0 (kinds.map (exD x))) [.own true (.lst s0), .val x, .own false (.lst (dueL x)), .val (.lst (kinds.map (exD x))), .no, .no, .no] = .ok .nx [.own true (.lst s0), .val x, .own false (.lst (dueL x)), .val (.lst (kinds.map (exD x))), .val (.int 26), .val (lastX x), .no] := by kernel_rfl
theorem l_in2 (s0 : List D) (x : D) : forRun (tTupD 2 (tsCons (tName 4) (tsCons (tName 5) (tsNil)))) lb__law_right_1 (enumD 0 (kinds.map (exD x))) [.own true (.lst s0), .val x, .own false (.lst (dueL x)), .val (.lst (kinds.map (exD x))), .val (.int 26), .val (lastX x), .no] = .ok .nx [.own true (.lst s0), .val x, .own false (.lst (dueL x)), .val (.lst (kinds.map (exD x))), .val (.int 26), .val (lastX x), .no] := by kernel_rfl
end Lw

set_option Elab.async false
set_option linter.all false
set_option maxRecDepth 100000
set_option maxHeartbeats 1000000
namespace Lw
open PySem L2 Y
variable [TB]
abbrev WL (a b c : Int) : Cont := .lst [.int a, .int b, .int c]
theorem t_draw (a b c m : Int) (hm : 0 < m) (hm2 : m < 1073741824) : ∃ r : Nat, (r : Int) < m ∧ ∃ a' b' c', fn__law_draw [.own true (WL a b c), .val (.int m)] = .ok (.val (.int r)) [.own true (WL a' b' c'), .val (.int m)] := by
  by_cases ha : 0 < a
  · have h1 := Int.emod_nonneg a (b := m) (by omega)
    have h2 := Int.emod_lt_of_pos a hm
    refine ⟨(a % m).toNat, by omega, a / m, b, c, ?_⟩
    rw [Int.toNat_of_nonneg h1]
    simp [fn__law_draw, dn__law_draw, ha, hm, hm2, ixN]
  · have key : ∀ x : Int, ∃ r : Nat, (r : Int) = x % m ∧ (r : Int) < m := fun x => by
      have h1 := Int.emod_nonneg x (b := m) (by omega)
      have h2 := Int.emod_lt_of_pos x hm
      exact ⟨(x % m).toNat, by omega, by omega⟩
    have q1 : ∀ x : Int, -18446744073709551616 < x % 2147483647 := fun x => by omega
    have q2 : ∀ x : Int, x % 2147483647 < 18446744073709551616 := fun x => by omega
    obtain ⟨x, hx⟩ : ∃ x, fn__law_draw [.own true (WL a b c), .val (.int m)] = .ok (.val (.int (x % m))) [.own true (WL a b (c + 1)), .val (.int m)] := by
      let n1 : Int := ((b + 104729 * (c + 1) + 1) * 48271) % 2147483647
      let n2 : Int := (n1 * (n1 / 1009 + 69621)) % 2147483647
      refine ⟨(n2 * (n2 / 2003 + 40692)) % 2147483399, ?_⟩
      simp [fn__law_draw, dn__law_draw, ha, hm, hm2, ixN, q1, q2, n1, n2]
    obtain ⟨r, h1, h2⟩ := key x
    exact ⟨r, h2, a, b, c + 1, by rw [h1]; exact hx⟩
theorem t_one (xs : List D) (h0 : xs ≠ []) (h1 : xs.length ≤ 1000) (a b c : Int) : ∃ d ∈ xs, ∃ a' b' c', fn__law_one [.own true (WL a b c), .val (.lst xs)] = .ok (.val d) [.own true (WL a' b' c'), .val (.lst xs)] := by
  have hp : 0 < xs.length := List.length_pos_iff.mpr h0
  obtain ⟨r, hr, a', b', c', h⟩ := t_draw a b c (xs.length : Int) (by omega) (by omega)
  have hr' : r < xs.length := by omega
  refine ⟨xs[r], List.getElem_mem hr', a', b', c', ?_⟩
  have e3 : ixN xs.length (r : Int) = some r := by
    unfold ixN
    simp
    omega
  simp [fn__law_one, dn__law_one, h, atI, e3, hr']
def goodX (x : D) : Prop := okD x = true ∧ dpD x ≤ 3 ∧ eqd x x = true
theorem eq_due {x : D} (h : goodX x) : eqD (.lst (dueL x)) (.lst (dueL x)) = some true := by
  obtain ⟨h1, h2, h3⟩ := h
  rw [eqD_of]
  · simp [dueL, eqd, eqds, h3]
  · simp [dueL, okD, okDs, h1]
  · simp [dueL, okD, okDs, h1]
  · simp [dueL, dpD, dpDs]; omega
  · simp [dueL, dpD, dpDs]; omega
theorem t_right (a b d : Int) : ∃ a' b' d', fn__law_right [.own true (WL a b d)] = .ok (.val (.bl true)) [.own true (WL a' b' d')] := by
  obtain ⟨k, hk, a1, b1, d1, e1⟩ := t_draw a b d 1000 (by omega) (by omega)
  obtain ⟨x, hx, a2, b2, d2, e2⟩ := t_one [.int k, .int (-1), .non, .str "v", .tup [.int 0, .int 1]] (by simp) (by simp) a1 b1 d1
  have g : goodX x := by
    simp only [List.mem_cons, List.not_mem_nil, or_false] at hx
    rcases hx with rfl | rfl | rfl | rfl | rfl <;> refine ⟨?_, ?_, ?_⟩ <;> first | (simp [okD, okDs, dpD, dpDs, eqd, eqds]; done) | kernel_rfl
  have p1 := t_place x
  have p2 := t_name x
  have p3 := t_fields x
  have ed := eq_due g
  have i1 := l_in1 [.int a2, .int b2, .int d2] x
  have i2 := l_in2 [.int a2, .int b2, .int d2] x
  refine ⟨a2, b2, d2, ?_⟩
  have s5 : 5 ≤ sizeLine := by decide +kernel
  have s2 : 2 ≤ sizeLine := by decide +kernel
  have s22 : 22 ≤ sizeLine := by decide +kernel
  have s12 : 12 ≤ sizeLine := by decide +kernel
  have s34 : 34 ≤ sizeLine := by decide +kernel
  have du : [x, x, .int 7, x, x, x, x, .int 7, x, x, x, x, x, x, x, x, x, .int 7, x, .int 7, x, x, x, .int 7, x, x, .int 7, x, x, .int 7, x, x, x, x] = dueL x := rfl
  simp [fn__law_right, dn__law_right, e1, e2, s5, s2, s22, s12, s34, du, p1, p2, lb__law_right_2, p3, ed, i1, i2, v_forC, v_forN]
theorem l_law (x : D) : ∀ (ns : List Int) (j : Nat) (s1 s2 s3 : Slot), stoS (some s1) = true → stoS (some s2) = true → stoS (some s3) = true → ∃ s1' s2' s3',
    forRun (tTupD 2 (tsCons (tName 1) (tsCons (tName 2) (tsNil)))) lb_law_1 (enumD j (ns.map D.int)) [.val x, s1, s2, s3] = .ok .nx [.val x, s1', s2', s3']
  | [], j, s1, s2, s3, _, _, _ => ⟨s1, s2, s3, v_forN _ _ _⟩
  | n :: r, j, s1, s2, s3, h1, h2, h3 => by
    have sl3 : 3 ≤ sizeLine := by decide +kernel
    by_cases hn : (1000000000000000000 : Int) ≤ n
    · obtain ⟨a1, b1, c1, hr⟩ := t_right n (n % 2147483647 + 7919 * j) 0
      obtain ⟨s1', s2', s3', e⟩ := l_law x r (j + 1) (.val (.int j)) (.val (.int n)) (.own false (WL a1 b1 c1)) rfl rfl rfl
      refine ⟨s1', s2', s3', ?_⟩
      rw [List.map_cons]
      unfold enumD
      rw [v_forC, ← e]
      simp [lb_law_1, h1, h2, h3, hr, hn, sl3]
    · obtain ⟨a1, b1, c1, hr⟩ := t_right 0 (n % 2147483647 + 7919 * j) 0
      obtain ⟨s1', s2', s3', e⟩ := l_law x r (j + 1) (.val (.int j)) (.val (.int n)) (.own false (WL a1 b1 c1)) rfl rfl rfl
      refine ⟨s1', s2', s3', ?_⟩
      rw [List.map_cons]
      unfold enumD
      rw [v_forC, ← e]
      simp [lb_law_1, h1, h2, h3, hr, hn, sl3]
theorem cut4 (xs : List D) : cutD xs none (some 4) = xs.take 4 := by
  unfold cutD
  rw [show HT.sIx xs.length 0 none = 0 from rfl, show (some (4 : Int)) = some ((4 : Nat) : Int) from rfl, HT.sIx_nat, List.drop_zero, Nat.sub_zero]
  rcases Nat.le_total 4 xs.length with q | q
  · rw [Nat.min_eq_left q]
  · rw [Nat.min_eq_right q, List.take_length, List.take_of_length_le q]
theorem law_true : ∀ ns : List Int, ns.length ≤ 63 → ∃ e, fn_law [.val (.lst (ns.map D.int))] = .ok (.val (.bl true)) e := by
  intro ns hn
  obtain ⟨s1', s2', s3', e⟩ := l_law (.lst (ns.map D.int)) ((ns ++ [0]).take 4) 0 .no .no .no rfl rfl rfl
  have sl : ns.length + 1 ≤ sizeLine := Nat.le_of_lt (small_line (by omega))
  have sl1 : 1 ≤ sizeLine := Nat.le_of_lt (small_line (by omega))
  rw [List.map_take, List.map_append] at e
  change forRun _ _ (enumD 0 (List.take 4 (_ ++ [D.int 0]))) _ = _ at e
  refine ⟨[.val (.lst (ns.map D.int))], ?_⟩
  simp [-List.map_take, fn_law, dn_law, sl, sl1, cut4, e]
end Lw

set_option Elab.async false
set_option linter.all false
set_option maxRecDepth 100000
set_option maxHeartbeats 0
namespace Lw
open PySem PySem.Spec L2 Y
set_option autoImplicit false
section
variable [TB] {P : Program} {w : World} {K : PySem.W.Frag} {mg : Mg}
theorem all_ok (T : Txt K mg) : CallOk P w K mg "law" 6 ["_law_script"] fn_law := by
  have X_NoNumber_0 := okx_NoNumber_0 (P := P) (w := w) T
  have X_NoNumber_1 := okx_NoNumber_1 (P := P) (w := w) T
  have X_NoShape_0 := okx_NoShape_0 (P := P) (w := w) T
  have X_NoShape_1 := okx_NoShape_1 (P := P) (w := w) T
  have X_NoSet_0 := okx_NoSet_0 (P := P) (w := w) T
  have X_NoSet_1 := okx_NoSet_1 (P := P) (w := w) T
  have X_NoDurations_0 := okx_NoDurations_0 (P := P) (w := w) T
  have X_NoDurations_1 := okx_NoDurations_1 (P := P) (w := w) T
  have X_NoWeights_0 := okx_NoWeights_0 (P := P) (w := w) T
  have X_NoWeights_1 := okx_NoWeights_1 (P := P) (w := w) T
  have X_NoBound_0 := okx_NoBound_0 (P := P) (w := w) T
  have X_NoBound_1 := okx_NoBound_1 (P := P) (w := w) T
  have X_NoPairs_0 := okx_NoPairs_0 (P := P) (w := w) T
  have X_NoPairs_1 := okx_NoPairs_1 (P := P) (w := w) T
  have X_NoOrder_0 := okx_NoOrder_0 (P := P) (w := w) T
  have X_NoOrder_1 := okx_NoOrder_1 (P := P) (w := w) T
  have X_NoGraph_0 := okx_NoGraph_0 (P := P) (w := w) T
  have X_NoGraph_1 := okx_NoGraph_1 (P := P) (w := w) T
  have X_NoStarts_0 := okx_NoStarts_0 (P := P) (w := w) T
  have X_NoStarts_1 := okx_NoStarts_1 (P := P) (w := w) T
  have X_NoSchedule_0 := okx_NoSchedule_0 (P := P) (w := w) T
  have X_NoSchedule_1 := okx_NoSchedule_1 (P := P) (w := w) T
  have X_NoActivity_0 := okx_NoActivity_0 (P := P) (w := w) T
  have X_NoActivity_1 := okx_NoActivity_1 (P := P) (w := w) T
  have X_NoText_0 := okx_NoText_0 (P := P) (w := w) T
  have X_NoText_1 := okx_NoText_1 (P := P) (w := w) T
  have X_NoChange_0 := okx_NoChange_0 (P := P) (w := w) T
  have X_NoChange_1 := okx_NoChange_1 (P := P) (w := w) T
  have X_NoCalendar_0 := okx_NoCalendar_0 (P := P) (w := w) T
  have X_NoCalendar_1 := okx_NoCalendar_1 (P := P) (w := w) T
  have X_NoProject_0 := okx_NoProject_0 (P := P) (w := w) T
  have X_NoProject_1 := okx_NoProject_1 (P := P) (w := w) T
  have X_NoChoice_0 := okx_NoChoice_0 (P := P) (w := w) T
  have X_NoChoice_1 := okx_NoChoice_1 (P := P) (w := w) T
  have X_NoAhead_0 := okx_NoAhead_0 (P := P) (w := w) T
  have X_NoAhead_1 := okx_NoAhead_1 (P := P) (w := w) T
  have X_NoDerivation_0 := okx_NoDerivation_0 (P := P) (w := w) T
  have X_NoDerivation_1 := okx_NoDerivation_1 (P := P) (w := w) T
  have X_NoPlan_0 := okx_NoPlan_0 (P := P) (w := w) T
  have X_NoPlan_1 := okx_NoPlan_1 (P := P) (w := w) T
  have X_NoRota_0 := okx_NoRota_0 (P := P) (w := w) T
  have X_NoRota_1 := okx_NoRota_1 (P := P) (w := w) T
  have X_NoMix_0 := okx_NoMix_0 (P := P) (w := w) T
  have X_NoMix_1 := okx_NoMix_1 (P := P) (w := w) T
  have X_NoBlind_0 := okx_NoBlind_0 (P := P) (w := w) T
  have X_NoBlind_1 := okx_NoBlind_1 (P := P) (w := w) T
  have X_NoFixed_0 := okx_NoFixed_0 (P := P) (w := w) T
  have X_NoFixed_1 := okx_NoFixed_1 (P := P) (w := w) T
  have X_NotBeside_0 := okx_NotBeside_0 (P := P) (w := w) T
  have X_NotBeside_1 := okx_NotBeside_1 (P := P) (w := w) T
  have X_NoBox_0 := okx_NoBox_0 (P := P) (w := w) T
  have X_NoBox_1 := okx_NoBox_1 (P := P) (w := w) T
  have X_TooGreat_0 := okx_TooGreat_0 (P := P) (w := w) T
  have X_TooGreat_1 := okx_TooGreat_1 (P := P) (w := w) T
  have C__law_draw := ok__law_draw (P := P) (w := w) T
  have C__law_one := ok__law_one (P := P) (w := w) T C__law_draw
  have C__law_taken := ok__law_taken (P := P) (w := w) T
  have C__law_by_place := ok__law_by_place (P := P) (w := w) T X_NoActivity_0 X_NoAhead_0 X_NoBlind_0 X_NoBound_0 X_NoBox_0 X_NoCalendar_0 X_NoChange_0 X_NoChoice_0 X_NoDerivation_0 X_NoDurations_0 X_NoFixed_0 X_NoGraph_0 X_NoMix_0 X_NoNumber_0 X_NoOrder_0 X_NoPairs_0 X_NoPlan_0 X_NoProject_0 X_NoRota_0 X_NoSchedule_0 X_NoSet_0 X_NoShape_0 X_NoStarts_0 X_NoText_0 X_NoWeights_0 X_NotBeside_0 X_TooGreat_0
  have C__law_by_name := ok__law_by_name (P := P) (w := w) T X_NoActivity_1 X_NoAhead_1 X_NoBlind_1 X_NoBound_1 X_NoBox_1 X_NoCalendar_1 X_NoChange_1 X_NoChoice_1 X_NoDerivation_1 X_NoDurations_1 X_NoFixed_1 X_NoGraph_1 X_NoMix_1 X_NoNumber_1 X_NoOrder_1 X_NoPairs_1 X_NoPlan_1 X_NoProject_1 X_NoRota_1 X_NoSchedule_1 X_NoSet_1 X_NoShape_1 X_NoStarts_1 X_NoText_1 X_NoWeights_1 X_NotBeside_1 X_TooGreat_1
  have C__law_fields := ok__law_fields (P := P) (w := w) T
  have C__law_right := ok__law_right (P := P) (w := w) T C__law_by_name C__law_by_place C__law_draw C__law_fields C__law_one C__law_taken
  have C_law := ok_law (P := P) (w := w) T C__law_right
  exact C_law
end
def dd__law_draw : He.DefD := ⟨("_law_draw", none), "_law_draw", "_law_draw", defArgs s__law_draw, defBody s__law_draw, defScope s__law_draw, [], []⟩
def dd__law_one : He.DefD := ⟨("_law_one", none), "_law_one", "_law_one", defArgs s__law_one, defBody s__law_one, defScope s__law_one, [], []⟩
def dd__law_taken : He.DefD := ⟨("_law_taken", none), "_law_taken", "_law_taken", defArgs s__law_taken, defBody s__law_taken, defScope s__law_taken, [], []⟩
def dd__law_by_place : He.DefD := ⟨("_law_by_place", none), "_law_by_place", "_law_by_place", defArgs s__law_by_place, defBody s__law_by_place, defScope s__law_by_place, [], []⟩
def dd__law_by_name : He.DefD := ⟨("_law_by_name", none), "_law_by_name", "_law_by_name", defArgs s__law_by_name, defBody s__law_by_name, defScope s__law_by_name, [], []⟩
def dd__law_fields : He.DefD := ⟨("_law_fields", none), "_law_fields", "_law_fields", defArgs s__law_fields, defBody s__law_fields, defScope s__law_fields, [], []⟩
def dd__law_right : He.DefD := ⟨("_law_right", none), "_law_right", "_law_right", defArgs s__law_right, defBody s__law_right, defScope s__law_right, [], []⟩
def dd_law : He.DefD := ⟨("law", none), "law", "law", defArgs s_law, defBody s_law, defScope s_law, [], []⟩
def dd_x_NoNumber : He.DefD := ⟨("NoNumber", some "__init__"), "__init__", "NoNumber.__init__", defArgs sx_NoNumber, defBody sx_NoNumber, defScope sx_NoNumber, [], []⟩
def dd_x_NoShape : He.DefD := ⟨("NoShape", some "__init__"), "__init__", "NoShape.__init__", defArgs sx_NoShape, defBody sx_NoShape, defScope sx_NoShape, [], []⟩
def dd_x_NoSet : He.DefD := ⟨("NoSet", some "__init__"), "__init__", "NoSet.__init__", defArgs sx_NoSet, defBody sx_NoSet, defScope sx_NoSet, [], []⟩
def dd_x_NoDurations : He.DefD := ⟨("NoDurations", some "__init__"), "__init__", "NoDurations.__init__", defArgs sx_NoDurations, defBody sx_NoDurations, defScope sx_NoDurations, [], []⟩
def dd_x_NoWeights : He.DefD := ⟨("NoWeights", some "__init__"), "__init__", "NoWeights.__init__", defArgs sx_NoWeights, defBody sx_NoWeights, defScope sx_NoWeights, [], []⟩
def dd_x_NoBound : He.DefD := ⟨("NoBound", some "__init__"), "__init__", "NoBound.__init__", defArgs sx_NoBound, defBody sx_NoBound, defScope sx_NoBound, [], []⟩
def dd_x_NoPairs : He.DefD := ⟨("NoPairs", some "__init__"), "__init__", "NoPairs.__init__", defArgs sx_NoPairs, defBody sx_NoPairs, defScope sx_NoPairs, [], []⟩
def dd_x_NoOrder : He.DefD := ⟨("NoOrder", some "__init__"), "__init__", "NoOrder.__init__", defArgs sx_NoOrder, defBody sx_NoOrder, defScope sx_NoOrder, [], []⟩
def dd_x_NoGraph : He.DefD := ⟨("NoGraph", some "__init__"), "__init__", "NoGraph.__init__", defArgs sx_NoGraph, defBody sx_NoGraph, defScope sx_NoGraph, [], []⟩
def dd_x_NoStarts : He.DefD := ⟨("NoStarts", some "__init__"), "__init__", "NoStarts.__init__", defArgs sx_NoStarts, defBody sx_NoStarts, defScope sx_NoStarts, [], []⟩
def dd_x_NoSchedule : He.DefD := ⟨("NoSchedule", some "__init__"), "__init__", "NoSchedule.__init__", defArgs sx_NoSchedule, defBody sx_NoSchedule, defScope sx_NoSchedule, [], []⟩
def dd_x_NoActivity : He.DefD := ⟨("NoActivity", some "__init__"), "__init__", "NoActivity.__init__", defArgs sx_NoActivity, defBody sx_NoActivity, defScope sx_NoActivity, [], []⟩
def dd_x_NoText : He.DefD := ⟨("NoText", some "__init__"), "__init__", "NoText.__init__", defArgs sx_NoText, defBody sx_NoText, defScope sx_NoText, [], []⟩
def dd_x_NoChange : He.DefD := ⟨("NoChange", some "__init__"), "__init__", "NoChange.__init__", defArgs sx_NoChange, defBody sx_NoChange, defScope sx_NoChange, [], []⟩
def dd_x_NoCalendar : He.DefD := ⟨("NoCalendar", some "__init__"), "__init__", "NoCalendar.__init__", defArgs sx_NoCalendar, defBody sx_NoCalendar, defScope sx_NoCalendar, [], []⟩
def dd_x_NoProject : He.DefD := ⟨("NoProject", some "__init__"), "__init__", "NoProject.__init__", defArgs sx_NoProject, defBody sx_NoProject, defScope sx_NoProject, [], []⟩
def dd_x_NoChoice : He.DefD := ⟨("NoChoice", some "__init__"), "__init__", "NoChoice.__init__", defArgs sx_NoChoice, defBody sx_NoChoice, defScope sx_NoChoice, [], []⟩
def dd_x_NoAhead : He.DefD := ⟨("NoAhead", some "__init__"), "__init__", "NoAhead.__init__", defArgs sx_NoAhead, defBody sx_NoAhead, defScope sx_NoAhead, [], []⟩
def dd_x_NoDerivation : He.DefD := ⟨("NoDerivation", some "__init__"), "__init__", "NoDerivation.__init__", defArgs sx_NoDerivation, defBody sx_NoDerivation, defScope sx_NoDerivation, [], []⟩
def dd_x_NoPlan : He.DefD := ⟨("NoPlan", some "__init__"), "__init__", "NoPlan.__init__", defArgs sx_NoPlan, defBody sx_NoPlan, defScope sx_NoPlan, [], []⟩
def dd_x_NoRota : He.DefD := ⟨("NoRota", some "__init__"), "__init__", "NoRota.__init__", defArgs sx_NoRota, defBody sx_NoRota, defScope sx_NoRota, [], []⟩
def dd_x_NoMix : He.DefD := ⟨("NoMix", some "__init__"), "__init__", "NoMix.__init__", defArgs sx_NoMix, defBody sx_NoMix, defScope sx_NoMix, [], []⟩
def dd_x_NoBlind : He.DefD := ⟨("NoBlind", some "__init__"), "__init__", "NoBlind.__init__", defArgs sx_NoBlind, defBody sx_NoBlind, defScope sx_NoBlind, [], []⟩
def dd_x_NoFixed : He.DefD := ⟨("NoFixed", some "__init__"), "__init__", "NoFixed.__init__", defArgs sx_NoFixed, defBody sx_NoFixed, defScope sx_NoFixed, [], []⟩
def dd_x_NotBeside : He.DefD := ⟨("NotBeside", some "__init__"), "__init__", "NotBeside.__init__", defArgs sx_NotBeside, defBody sx_NotBeside, defScope sx_NotBeside, [], []⟩
def dd_x_NoBox : He.DefD := ⟨("NoBox", some "__init__"), "__init__", "NoBox.__init__", defArgs sx_NoBox, defBody sx_NoBox, defScope sx_NoBox, [], []⟩
def dd_x_TooGreat : He.DefD := ⟨("TooGreat", some "__init__"), "__init__", "TooGreat.__init__", defArgs sx_TooGreat, defBody sx_TooGreat, defScope sx_TooGreat, [], []⟩
def fnl_0 : List He.DefD := [dd__law_draw, dd__law_one, dd__law_taken, dd__law_by_place, dd__law_by_name, dd__law_fields, dd__law_right, dd_law, dd_x_NoNumber, dd_x_NoShape, dd_x_NoSet, dd_x_NoDurations, dd_x_NoWeights, dd_x_NoBound, dd_x_NoPairs, dd_x_NoOrder, dd_x_NoGraph, dd_x_NoStarts, dd_x_NoSchedule, dd_x_NoActivity, dd_x_NoText, dd_x_NoChange, dd_x_NoCalendar, dd_x_NoProject, dd_x_NoChoice, dd_x_NoAhead, dd_x_NoDerivation, dd_x_NoPlan, dd_x_NoRota, dd_x_NoMix]
def fnl_1 : List He.DefD := [dd_x_NoBlind, dd_x_NoFixed, dd_x_NotBeside, dd_x_NoBox, dd_x_TooGreat]
def fnl : List He.DefD := fnl_0 ++ fnl_1
def fal_0 : List He.Fa := [.glo "_law_draw", .glo "_law_one", .glo "_law_taken", .glo "_law_by_place", .glo "_law_by_name", .glo "_law_fields", .glo "_law_right", .glo "law", .glo "NoNumber", .glo "NoShape", .glo "NoSet", .glo "NoDurations", .glo "NoWeights", .glo "NoBound", .glo "NoPairs", .glo "NoOrder", .glo "NoGraph", .glo "NoStarts", .glo "NoSchedule", .glo "NoActivity", .glo "NoText", .glo "NoChange", .glo "NoCalendar", .glo "NoProject", .glo "NoChoice", .glo "NoAhead", .glo "NoDerivation", .glo "NoPlan", .glo "NoRota", .glo "NoMix"]
def fal_1 : List He.Fa := [.glo "NoBlind", .glo "NoFixed", .glo "NotBeside", .glo "NoBox", .glo "TooGreat", .glo "CrewError", .free "ValueError", .free "enumerate", .free "int", .free "isinstance", .free "len", .free "range"]
def fal : List He.Fa := fal_0 ++ fal_1
def lol_0 : List PySem.Str := ["CrewError", "NoNumber", "NoShape", "NoSet", "NoDurations", "NoWeights", "NoBound", "NoPairs", "NoOrder", "NoGraph", "NoStarts", "NoSchedule", "NoActivity", "NoText", "NoChange", "NoCalendar", "NoProject", "NoChoice", "NoAhead", "NoDerivation", "NoPlan", "NoRota", "NoMix", "NoBlind", "NoFixed", "NotBeside", "NoBox", "TooGreat", "_law_draw", "_law_one"]
def lol_1 : List PySem.Str := ["_law_taken", "_law_by_place", "_law_by_name", "_law_fields", "_law_right"]
def lol : List PySem.Str := lol_0 ++ lol_1
def tfl : List He.Defn := []
def ex_0 (K : PySem.W.Frag) : Bool := crewB K (He.ga K "CrewError")
def ex_1 (K : PySem.W.Frag) : Bool := excB K (He.ga K "NoNumber") ["part"]
def ex_2 (K : PySem.W.Frag) : Bool := excB K (He.ga K "NoShape") ["part", "index"]
def ex_3 (K : PySem.W.Frag) : Bool := excB K (He.ga K "NoSet") ["some"]
def ex_4 (K : PySem.W.Frag) : Bool := excB K (He.ga K "NoDurations") ["index"]
def ex_5 (K : PySem.W.Frag) : Bool := excB K (He.ga K "NoWeights") ["index"]
def ex_6 (K : PySem.W.Frag) : Bool := excB K (He.ga K "NoBound") ["part", "index"]
def ex_7 (K : PySem.W.Frag) : Bool := excB K (He.ga K "NoPairs") ["index"]
def ex_8 (K : PySem.W.Frag) : Bool := excB K (He.ga K "NoOrder") ["index"]
def ex_9 (K : PySem.W.Frag) : Bool := excB K (He.ga K "NoGraph") ["index"]
def ex_10 (K : PySem.W.Frag) : Bool := excB K (He.ga K "NoStarts") ["index"]
def ex_11 (K : PySem.W.Frag) : Bool := excB K (He.ga K "NoSchedule") ["fault"]
def ex_12 (K : PySem.W.Frag) : Bool := excB K (He.ga K "NoActivity") ["one"]
def ex_13 (K : PySem.W.Frag) : Bool := excB K (He.ga K "NoText") ["line"]
def ex_14 (K : PySem.W.Frag) : Bool := excB K (He.ga K "NoChange") ["word"]
def ex_15 (K : PySem.W.Frag) : Bool := excB K (He.ga K "NoCalendar") ["part", "index"]
def ex_16 (K : PySem.W.Frag) : Bool := excB K (He.ga K "NoProject") ["part", "index"]
def ex_17 (K : PySem.W.Frag) : Bool := excB K (He.ga K "NoChoice") ["index"]
def ex_18 (K : PySem.W.Frag) : Bool := excB K (He.ga K "NoAhead") ["index"]
def ex_19 (K : PySem.W.Frag) : Bool := excB K (He.ga K "NoDerivation") ["part", "index"]
def ex_20 (K : PySem.W.Frag) : Bool := excB K (He.ga K "NoPlan") ["fault"]
def ex_21 (K : PySem.W.Frag) : Bool := excB K (He.ga K "NoRota") ["part", "index"]
def ex_22 (K : PySem.W.Frag) : Bool := excB K (He.ga K "NoMix") ["index"]
def ex_23 (K : PySem.W.Frag) : Bool := excB K (He.ga K "NoBlind") ["part", "index"]
def ex_24 (K : PySem.W.Frag) : Bool := excB K (He.ga K "NoFixed") ["index"]
def ex_25 (K : PySem.W.Frag) : Bool := excB K (He.ga K "NotBeside") ["part"]
def ex_26 (K : PySem.W.Frag) : Bool := excB K (He.ga K "NoBox") ["index"]
def ex_27 (K : PySem.W.Frag) : Bool := excB K (He.ga K "TooGreat") ["most"]
def ex_28 (K : PySem.W.Frag) : Bool := (xs.all fun c => xs.all fun n => dB (PySem.W.kitOne K (.ref (He.ga K c)) (.ref (He.ga K n))) (some (c == n)))
def ex_29 (K : PySem.W.Frag) : Bool := (xs.all fun c => dB (PySem.W.kitOne K (.ref (He.ga K c)) (.ref (He.ga K "CrewError"))) (some true))
def ex_30 (K : PySem.W.Frag) : Bool := (xs.all fun c => dB (PySem.W.kitOne K (.ref (He.ga K c)) (.type "ValueError")) (some true))
def ex_31 (K : PySem.W.Frag) : Bool := dB (PySem.W.kitOne K (.type "ValueError") (.ref (He.ga K "CrewError"))) (some false)
def ex_32 (K : PySem.W.Frag) : Bool := true
def exl (K : PySem.W.Frag) : Bool := [ex_0, ex_1, ex_2, ex_3, ex_4, ex_5, ex_6, ex_7, ex_8, ex_9, ex_10, ex_11, ex_12, ex_13, ex_14, ex_15, ex_16, ex_17, ex_18, ex_19, ex_20, ex_21, ex_22, ex_23, ex_24, ex_25, ex_26, ex_27, ex_28, ex_29, ex_30, ex_31, ex_32].all fun f => f K
theorem exl_at {K : PySem.W.Frag} (h : exl K = true) {f : PySem.W.Frag → Bool} (hf : f ∈ [ex_0, ex_1, ex_2, ex_3, ex_4, ex_5, ex_6, ex_7, ex_8, ex_9, ex_10, ex_11, ex_12, ex_13, ex_14, ex_15, ex_16, ex_17, ex_18, ex_19, ex_20, ex_21, ex_22, ex_23, ex_24, ex_25, ex_26, ex_27, ex_28, ex_29, ex_30, ex_31, ex_32]) : f K = true := List.all_eq_true.mp h f hf
abbrev Rw : PySem.W.OpenRow := PySem.W.OpenLaw.row PySem.Challenge.rw_crewlags_k04_exceptions
abbrev hk : PySem.W.Hook := hookY 5 fal fnl tfl exl
def ob (s : PySem.W.SharedT) : He.AlX := obsY 5 fal fnl tfl exl (HandSHeadRun.getT s)
theorem ob_eq (s : PySem.W.SharedT) : ob s = hk.obs s.abs := obsY_eq (HandSHeadRun.getT_eq s)
theorem run (w : World) : HandSHeadRun.RunEq Rw (PySem.W.view Rw.prog [37]) hk ob 20000 lol w := by
  intro os
  kernel_rfl
def tbOf (K : PySem.W.Frag) : TB := ⟨[], fun _ h => by cases h⟩
theorem tb_in (K : PySem.W.Frag) : ∀ q ∈ (tbOf K).T, ∃ p ∈ tfl, q.1 = (He.cT K p).1 ∧ q.2.1 = (He.cT K p).2 := fun q h => by cases h
section
variable [TB] {w : World} {K : PySem.W.Frag} {mg : Mg} {h : Heap}
theorem txt (X : K.In h) (G : h.Ns mainGlobals mg) (c : He.SaysX fal fnl [] tfl exl w h K) : Txt K mg := by
  have glo : ∀ (x : PySem.Str) (i : Nat), fal[i]? = some (.glo x) → mg x = some (.ref (He.ga K x)) := fun x i hi => He.glo_ok X G (c.t.d.fact i (f := .glo x) hi)
  have e_NoNumber := excB_ok (c := "NoNumber") (glo "NoNumber" 8 rfl) (exl_at c.more (f := ex_1) (by simp))
  have e_NoShape := excB_ok (c := "NoShape") (glo "NoShape" 9 rfl) (exl_at c.more (f := ex_2) (by simp))
  have e_NoSet := excB_ok (c := "NoSet") (glo "NoSet" 10 rfl) (exl_at c.more (f := ex_3) (by simp))
  have e_NoDurations := excB_ok (c := "NoDurations") (glo "NoDurations" 11 rfl) (exl_at c.more (f := ex_4) (by simp))
  have e_NoWeights := excB_ok (c := "NoWeights") (glo "NoWeights" 12 rfl) (exl_at c.more (f := ex_5) (by simp))
  have e_NoBound := excB_ok (c := "NoBound") (glo "NoBound" 13 rfl) (exl_at c.more (f := ex_6) (by simp))
  have e_NoPairs := excB_ok (c := "NoPairs") (glo "NoPairs" 14 rfl) (exl_at c.more (f := ex_7) (by simp))
  have e_NoOrder := excB_ok (c := "NoOrder") (glo "NoOrder" 15 rfl) (exl_at c.more (f := ex_8) (by simp))
  have e_NoGraph := excB_ok (c := "NoGraph") (glo "NoGraph" 16 rfl) (exl_at c.more (f := ex_9) (by simp))
  have e_NoStarts := excB_ok (c := "NoStarts") (glo "NoStarts" 17 rfl) (exl_at c.more (f := ex_10) (by simp))
  have e_NoSchedule := excB_ok (c := "NoSchedule") (glo "NoSchedule" 18 rfl) (exl_at c.more (f := ex_11) (by simp))
  have e_NoActivity := excB_ok (c := "NoActivity") (glo "NoActivity" 19 rfl) (exl_at c.more (f := ex_12) (by simp))
  have e_NoText := excB_ok (c := "NoText") (glo "NoText" 20 rfl) (exl_at c.more (f := ex_13) (by simp))
  have e_NoChange := excB_ok (c := "NoChange") (glo "NoChange" 21 rfl) (exl_at c.more (f := ex_14) (by simp))
  have e_NoCalendar := excB_ok (c := "NoCalendar") (glo "NoCalendar" 22 rfl) (exl_at c.more (f := ex_15) (by simp))
  have e_NoProject := excB_ok (c := "NoProject") (glo "NoProject" 23 rfl) (exl_at c.more (f := ex_16) (by simp))
  have e_NoChoice := excB_ok (c := "NoChoice") (glo "NoChoice" 24 rfl) (exl_at c.more (f := ex_17) (by simp))
  have e_NoAhead := excB_ok (c := "NoAhead") (glo "NoAhead" 25 rfl) (exl_at c.more (f := ex_18) (by simp))
  have e_NoDerivation := excB_ok (c := "NoDerivation") (glo "NoDerivation" 26 rfl) (exl_at c.more (f := ex_19) (by simp))
  have e_NoPlan := excB_ok (c := "NoPlan") (glo "NoPlan" 27 rfl) (exl_at c.more (f := ex_20) (by simp))
  have e_NoRota := excB_ok (c := "NoRota") (glo "NoRota" 28 rfl) (exl_at c.more (f := ex_21) (by simp))
  have e_NoMix := excB_ok (c := "NoMix") (glo "NoMix" 29 rfl) (exl_at c.more (f := ex_22) (by simp))
  have e_NoBlind := excB_ok (c := "NoBlind") (glo "NoBlind" 30 rfl) (exl_at c.more (f := ex_23) (by simp))
  have e_NoFixed := excB_ok (c := "NoFixed") (glo "NoFixed" 31 rfl) (exl_at c.more (f := ex_24) (by simp))
  have e_NotBeside := excB_ok (c := "NotBeside") (glo "NotBeside" 32 rfl) (exl_at c.more (f := ex_25) (by simp))
  have e_NoBox := excB_ok (c := "NoBox") (glo "NoBox" 33 rfl) (exl_at c.more (f := ex_26) (by simp))
  have e_TooGreat := excB_ok (c := "TooGreat") (glo "TooGreat" 34 rfl) (exl_at c.more (f := ex_27) (by simp))
  have exs : ∀ c ∈ xs, mg c = some (.ref (He.ga K c)) ∧ ExcC K (He.ga K c) := by
    intro c hc
    simp only [xs, List.mem_cons, List.not_mem_nil, or_false] at hc
    rcases hc with rfl | rfl | rfl | rfl | rfl | rfl | rfl | rfl | rfl | rfl | rfl | rfl | rfl | rfl | rfl | rfl | rfl | rfl | rfl | rfl | rfl | rfl | rfl | rfl | rfl | rfl | rfl
    · exact ⟨e_NoNumber.mgC, e_NoNumber.ec⟩
    · exact ⟨e_NoShape.mgC, e_NoShape.ec⟩
    · exact ⟨e_NoSet.mgC, e_NoSet.ec⟩
    · exact ⟨e_NoDurations.mgC, e_NoDurations.ec⟩
    · exact ⟨e_NoWeights.mgC, e_NoWeights.ec⟩
    · exact ⟨e_NoBound.mgC, e_NoBound.ec⟩
    · exact ⟨e_NoPairs.mgC, e_NoPairs.ec⟩
    · exact ⟨e_NoOrder.mgC, e_NoOrder.ec⟩
    · exact ⟨e_NoGraph.mgC, e_NoGraph.ec⟩
    · exact ⟨e_NoStarts.mgC, e_NoStarts.ec⟩
    · exact ⟨e_NoSchedule.mgC, e_NoSchedule.ec⟩
    · exact ⟨e_NoActivity.mgC, e_NoActivity.ec⟩
    · exact ⟨e_NoText.mgC, e_NoText.ec⟩
    · exact ⟨e_NoChange.mgC, e_NoChange.ec⟩
    · exact ⟨e_NoCalendar.mgC, e_NoCalendar.ec⟩
    · exact ⟨e_NoProject.mgC, e_NoProject.ec⟩
    · exact ⟨e_NoChoice.mgC, e_NoChoice.ec⟩
    · exact ⟨e_NoAhead.mgC, e_NoAhead.ec⟩
    · exact ⟨e_NoDerivation.mgC, e_NoDerivation.ec⟩
    · exact ⟨e_NoPlan.mgC, e_NoPlan.ec⟩
    · exact ⟨e_NoRota.mgC, e_NoRota.ec⟩
    · exact ⟨e_NoMix.mgC, e_NoMix.ec⟩
    · exact ⟨e_NoBlind.mgC, e_NoBlind.ec⟩
    · exact ⟨e_NoFixed.mgC, e_NoFixed.ec⟩
    · exact ⟨e_NotBeside.mgC, e_NotBeside.ec⟩
    · exact ⟨e_NoBox.mgC, e_NoBox.ec⟩
    · exact ⟨e_TooGreat.mgC, e_TooGreat.ec⟩
  constructor
  case d__law_draw =>
    obtain ⟨fd, F⟩ := c.t.d.def_ 0 (d := dd__law_draw) rfl
    exact ⟨_, fd, F, glo "_law_draw" 0 rfl, FunD.ba F (fun _ _ _ _ _ _ us hl => match us, hl with | [_, _], _ => rfl)⟩
  case d__law_one =>
    obtain ⟨fd, F⟩ := c.t.d.def_ 1 (d := dd__law_one) rfl
    exact ⟨_, fd, F, glo "_law_one" 1 rfl, FunD.ba F (fun _ _ _ _ _ _ us hl => match us, hl with | [_, _], _ => rfl)⟩
  case d__law_taken =>
    obtain ⟨fd, F⟩ := c.t.d.def_ 2 (d := dd__law_taken) rfl
    exact ⟨_, fd, F, glo "_law_taken" 2 rfl, FunD.ba F (fun _ _ _ _ _ _ us hl => match us, hl with | [_], _ => rfl)⟩
  case d__law_by_place =>
    obtain ⟨fd, F⟩ := c.t.d.def_ 3 (d := dd__law_by_place) rfl
    exact ⟨_, fd, F, glo "_law_by_place" 3 rfl, FunD.ba F (fun _ _ _ _ _ _ us hl => match us, hl with | [_], _ => rfl)⟩
  case d__law_by_name =>
    obtain ⟨fd, F⟩ := c.t.d.def_ 4 (d := dd__law_by_name) rfl
    exact ⟨_, fd, F, glo "_law_by_name" 4 rfl, FunD.ba F (fun _ _ _ _ _ _ us hl => match us, hl with | [_], _ => rfl)⟩
  case d__law_fields =>
    obtain ⟨fd, F⟩ := c.t.d.def_ 5 (d := dd__law_fields) rfl
    exact ⟨_, fd, F, glo "_law_fields" 5 rfl, FunD.ba F (fun _ _ _ _ _ _ us hl => match us, hl with | [_], _ => rfl)⟩
  case d__law_right =>
    obtain ⟨fd, F⟩ := c.t.d.def_ 6 (d := dd__law_right) rfl
    exact ⟨_, fd, F, glo "_law_right" 6 rfl, FunD.ba F (fun _ _ _ _ _ _ us hl => match us, hl with | [_], _ => rfl)⟩
  case d_law =>
    obtain ⟨fd, F⟩ := c.t.d.def_ 7 (d := dd_law) rfl
    exact ⟨_, fd, F, glo "law" 7 rfl, FunD.ba F (fun _ _ _ _ _ _ us hl => match us, hl with | [_], _ => rfl)⟩
  case b_ValueError => exact He.free_ok X G (c.t.d.fact 36 (f := .free "ValueError") rfl)
  case b_enumerate => exact He.free_ok X G (c.t.d.fact 37 (f := .free "enumerate") rfl)
  case b_int => exact He.free_ok X G (c.t.d.fact 38 (f := .free "int") rfl)
  case b_isinstance => exact He.free_ok X G (c.t.d.fact 39 (f := .free "isinstance") rfl)
  case b_len => exact He.free_ok X G (c.t.d.fact 40 (f := .free "len") rfl)
  case b_range => exact He.free_ok X G (c.t.d.fact 41 (f := .free "range") rfl)
  case crew => exact ⟨_, crewB_ok (exl_at c.more (f := ex_0) (by simp)), glo "CrewError" 35 rfl⟩
  case x_NoNumber =>
    obtain ⟨fd, F⟩ := c.t.d.def_ 8 (d := dd_x_NoNumber) rfl
    exact ⟨_, _, fd, e_NoNumber, F⟩
  case x_NoShape =>
    obtain ⟨fd, F⟩ := c.t.d.def_ 9 (d := dd_x_NoShape) rfl
    exact ⟨_, _, fd, e_NoShape, F⟩
  case x_NoSet =>
    obtain ⟨fd, F⟩ := c.t.d.def_ 10 (d := dd_x_NoSet) rfl
    exact ⟨_, _, fd, e_NoSet, F⟩
  case x_NoDurations =>
    obtain ⟨fd, F⟩ := c.t.d.def_ 11 (d := dd_x_NoDurations) rfl
    exact ⟨_, _, fd, e_NoDurations, F⟩
  case x_NoWeights =>
    obtain ⟨fd, F⟩ := c.t.d.def_ 12 (d := dd_x_NoWeights) rfl
    exact ⟨_, _, fd, e_NoWeights, F⟩
  case x_NoBound =>
    obtain ⟨fd, F⟩ := c.t.d.def_ 13 (d := dd_x_NoBound) rfl
    exact ⟨_, _, fd, e_NoBound, F⟩
  case x_NoPairs =>
    obtain ⟨fd, F⟩ := c.t.d.def_ 14 (d := dd_x_NoPairs) rfl
    exact ⟨_, _, fd, e_NoPairs, F⟩
  case x_NoOrder =>
    obtain ⟨fd, F⟩ := c.t.d.def_ 15 (d := dd_x_NoOrder) rfl
    exact ⟨_, _, fd, e_NoOrder, F⟩
  case x_NoGraph =>
    obtain ⟨fd, F⟩ := c.t.d.def_ 16 (d := dd_x_NoGraph) rfl
    exact ⟨_, _, fd, e_NoGraph, F⟩
  case x_NoStarts =>
    obtain ⟨fd, F⟩ := c.t.d.def_ 17 (d := dd_x_NoStarts) rfl
    exact ⟨_, _, fd, e_NoStarts, F⟩
  case x_NoSchedule =>
    obtain ⟨fd, F⟩ := c.t.d.def_ 18 (d := dd_x_NoSchedule) rfl
    exact ⟨_, _, fd, e_NoSchedule, F⟩
  case x_NoActivity =>
    obtain ⟨fd, F⟩ := c.t.d.def_ 19 (d := dd_x_NoActivity) rfl
    exact ⟨_, _, fd, e_NoActivity, F⟩
  case x_NoText =>
    obtain ⟨fd, F⟩ := c.t.d.def_ 20 (d := dd_x_NoText) rfl
    exact ⟨_, _, fd, e_NoText, F⟩
  case x_NoChange =>
    obtain ⟨fd, F⟩ := c.t.d.def_ 21 (d := dd_x_NoChange) rfl
    exact ⟨_, _, fd, e_NoChange, F⟩
  case x_NoCalendar =>
    obtain ⟨fd, F⟩ := c.t.d.def_ 22 (d := dd_x_NoCalendar) rfl
    exact ⟨_, _, fd, e_NoCalendar, F⟩
  case x_NoProject =>
    obtain ⟨fd, F⟩ := c.t.d.def_ 23 (d := dd_x_NoProject) rfl
    exact ⟨_, _, fd, e_NoProject, F⟩
  case x_NoChoice =>
    obtain ⟨fd, F⟩ := c.t.d.def_ 24 (d := dd_x_NoChoice) rfl
    exact ⟨_, _, fd, e_NoChoice, F⟩
  case x_NoAhead =>
    obtain ⟨fd, F⟩ := c.t.d.def_ 25 (d := dd_x_NoAhead) rfl
    exact ⟨_, _, fd, e_NoAhead, F⟩
  case x_NoDerivation =>
    obtain ⟨fd, F⟩ := c.t.d.def_ 26 (d := dd_x_NoDerivation) rfl
    exact ⟨_, _, fd, e_NoDerivation, F⟩
  case x_NoPlan =>
    obtain ⟨fd, F⟩ := c.t.d.def_ 27 (d := dd_x_NoPlan) rfl
    exact ⟨_, _, fd, e_NoPlan, F⟩
  case x_NoRota =>
    obtain ⟨fd, F⟩ := c.t.d.def_ 28 (d := dd_x_NoRota) rfl
    exact ⟨_, _, fd, e_NoRota, F⟩
  case x_NoMix =>
    obtain ⟨fd, F⟩ := c.t.d.def_ 29 (d := dd_x_NoMix) rfl
    exact ⟨_, _, fd, e_NoMix, F⟩
  case x_NoBlind =>
    obtain ⟨fd, F⟩ := c.t.d.def_ 30 (d := dd_x_NoBlind) rfl
    exact ⟨_, _, fd, e_NoBlind, F⟩
  case x_NoFixed =>
    obtain ⟨fd, F⟩ := c.t.d.def_ 31 (d := dd_x_NoFixed) rfl
    exact ⟨_, _, fd, e_NoFixed, F⟩
  case x_NotBeside =>
    obtain ⟨fd, F⟩ := c.t.d.def_ 32 (d := dd_x_NotBeside) rfl
    exact ⟨_, _, fd, e_NotBeside, F⟩
  case x_NoBox =>
    obtain ⟨fd, F⟩ := c.t.d.def_ 33 (d := dd_x_NoBox) rfl
    exact ⟨_, _, fd, e_NoBox, F⟩
  case x_TooGreat =>
    obtain ⟨fd, F⟩ := c.t.d.def_ 34 (d := dd_x_TooGreat) rfl
    exact ⟨_, _, fd, e_TooGreat, F⟩
  case kx =>
    have z := List.all_eq_true.mp (exl_at c.more (f := ex_28) (by simp))
    intro c1 h1 n h2
    obtain ⟨m1, E1⟩ := exs c1 h1
    obtain ⟨m2, E2⟩ := exs n h2
    exact ⟨_, _, m1, m2, E1, dB_ok (List.all_eq_true.mp (z c1 h1) n h2)⟩
  case kc =>
    have z := List.all_eq_true.mp (exl_at c.more (f := ex_29) (by simp))
    exact ⟨_, glo "CrewError" 35 rfl, fun c1 h1 => ⟨_, (exs c1 h1).1, (exs c1 h1).2, dB_ok (z c1 h1)⟩⟩
  case kv =>
    have z := List.all_eq_true.mp (exl_at c.more (f := ex_30) (by simp))
    exact fun c1 h1 => ⟨_, (exs c1 h1).1, (exs c1 h1).2, dB_ok (z c1 h1)⟩
  case kn => exact ⟨_, glo "CrewError" 35 rfl, dB_ok (exl_at c.more (f := ex_31) (by simp))⟩
end
end Lw
open PySem PySem.W PySem.Calls PyProof.Rows
theorem PySem.Challenge.cw_crewlags_k04_exceptions_holds : PySem.Challenge.rw_crewlags_k04_exceptions.Holds := by
  w_on; o_law
  refine HandSHeadRun.head_any (r := OpenLaw.row PySem.Challenge.rw_crewlags_k04_exceptions) (q := view (OpenLaw.row PySem.Challenge.rw_crewlags_k04_exceptions).prog [37]) (H := Lw.hk) (ob := Lw.ob) (M := 20000) (loose := Lw.lol) (d := HandSHeadRun.topDef (OpenLaw.row PySem.Challenge.rw_crewlags_k04_exceptions).prog 37) (kwd := []) Lw.ob_eq
    (by kernel_rfl) (fun s => by kernel_rfl) Lw.run (by kernel_rfl) (by kernel_rfl) (by kernel_rfl) (by rfl) (by first | assumption | decide +kernel) (by decide +kernel) ⟨rfl, rfl, rfl, rfl, rfl, by decide +kernel⟩ ?hw ?hc
  case hw => w_witness2
  case hc =>
    refine LamX.walk_ofTsE (l := PySem.Challenge.rw_crewlags_k04_exceptions) (n := 63) (k := 6) (x := "_law_script") (CX := fun w => L2.CX (PySem.Challenge.rw_crewlags_k04_exceptions).prog w) rfl (by decide) (by kernel_rfl) ⟨rfl, by decide, by decide⟩ ?F ?X
    case X => exact fun w H s e s' h => @Y.cx_none (Lw.tbOf []) _ _ _ _ _ _ h
    case F =>
      intro w mg fa h Y G hmg0
      obtain ⟨K, KX, c⟩ := Y
      have hmg : mg ("law" : PySem.Str) = some (.ref fa) := by
        have e : (HandSHeadRun.topDef (OpenLaw.row PySem.Challenge.rw_crewlags_k04_exceptions).prog 37).name = ("law" : PySem.Str) := by kernel_rfl
        rw [← e]
        exact hmg0
      letI : Y.TB := Lw.tbOf K
      exact ⟨K, KX, Y.law_at KX c.hd c.out c.empty (Lw.tb_in K) (Lw.all_ok (Lw.txt KX G c)) hmg Lw.law_true⟩

