import PyProof.Rows.All
import Wide.All
import OpenK.AllK
import Wide.FinOn
import HandS.ForMost
import HandS.ForExc
import HandS.CallSlots
import HandS.Lambda
import HandS.ExcInit
import HandS.Deep
import HandS.TupAny
import HandS.IsInst
import HandS.Wide
import HandS.Walk
import HandS.Style
import HandS.MakeKwOnly
import KE.GoesMore
import HandS.Iter
import HandS.Defaults
import HandS.NoneIn
import OpenK.KWalk
import HandS.TupMul
import HandS.SortInts
import HandS.Conv
import PyProof.LongRange
import KE.SortKeyHeap
import HandS.SortKw
import HandS.ExcField
import HandS.ExcIs
import HandS.ClsMeth
import KE.KExcIs
import HandS.ExcBuiltin
import HandS.ExcValue
import HandS.HeadHook4
import HandS.HeadWalk
import HandS.Dict
import HandS.Text
import HandS.WordsDict
import HandS.Set
import HandS.SetKeys
import HandS.SetFor
import KE.SortData
import PyProof.SetRoads
import HandS.Nested
import HandS.WideBits
import HandS.Head0
import HandS.Head1
import HandS.Head2
import HandS.HeadEnd
import PySem.Challenge.RW_crewlags_k23_greatest_cliques_of_graphs
set_option Elab.async false
set_option linter.all false
set_option maxRecDepth 100000
set_option maxHeartbeats 4000000
namespace Y
open PySem PySem.Spec L2
set_option autoImplicit false
/-! tables of code objects: those of the defs that make lambdas -/
class TB where
  T : List (Addr × Addr × Str)
  uq : ∀ p ∈ T, ∀ q ∈ T, p.2.1 = q.2.1 → p.2.2 = q.2.2
  cv : Nat → Option (Addr × HO × List V)
def TabOk [TB] (H : Hp) : Prop := LamX.Tabs (TB.T.map (·.2)) H
/-- the head's heap bears them -/
def BaseOk [TB] (mg : Str → Option Value) (base : Heap) : Prop := ∀ p ∈ TB.T, LamX.TabB base mg p.1 p.2.1
def NoTbl (o : HO) : Prop := ∀ ps, o ≠ .tbl ps
/-- a heap without its tables -/
def strip (H : Hp) : Hp := fun b => match H b with
  | some (.tbl _) => none
  | o => o
theorem strip_some {H : Hp} {b : Addr} {o : HO} (h : strip H b = some o) : H b = some o ∧ NoTbl o := by
  unfold strip at h
  split at h
  · cases h
  · rename_i n
    refine ⟨h, fun ps z => ?_⟩
    subst z
    exact n ps h
theorem strip_of {H : Hp} {b : Addr} {o : HO} (h : H b = some o) (n : NoTbl o) : strip H b = some o := by
  unfold strip
  rw [h]
  cases o with
  | tbl ps => exact absurd rfl (n ps)
  | _ => rfl
theorem strip_same (H : Hp) : Same (strip H) H := fun _ _ h => (strip_some h).1
theorem sqL_strip {K : PySem.W.Frag} {H : Hp} {a : Addr} {xs : List V} (h : SqL K H a xs) : SqL K (strip H) a xs := by
  rcases h with (h | ⟨o, h⟩) | h
  · exact .inl (.inl (strip_of h fun ps z => by cases z))
  · exact .inl (.inr ⟨o, strip_of h fun ps z => by cases z⟩)
  · exact .inr h
theorem sqT_strip {K : PySem.W.Frag} {H : Hp} {a : Addr} {xs : List V} (h : SqT K H a xs) : SqT K (strip H) a xs := by
  rcases h with (h | ⟨o, h⟩) | h
  · exact .inl (.inl (strip_of h fun ps z => by cases z))
  · exact .inl (.inr ⟨o, strip_of h fun ps z => by cases z⟩)
  · exact .inr h
theorem TabOk.ext [TB] {H H' : Hp} (t : TabOk H) (e : ∀ b o, H b = some o → H' b = some o) : TabOk H' := LamX.Tabs.ext t e
theorem TabOk.new [TB] {H : Hp} {p : Addr} {o : HO} (t : TabOk H) (hp : H p = none) : TabOk (upd H p o) := t.ext fun b u q => by rw [upd_ne (ne_of_none q hp)]; exact q
/-- what is neither a table nor a code object may be changed -/
theorem TabOk.chg [TB] {H : Hp} {p : Addr} {o o' : HO} (t : TabOk H) (hp : H p = some o) (h1 : NoTbl o) (h2 : ∀ q, o ≠ LamX.CodeO p q) : TabOk (upd H p o') := fun x hx => by
  obtain ⟨ps, a1, a2, a3⟩ := t x hx
  refine ⟨ps, ?_, a2, fun pos cv hc => ?_⟩
  · rw [upd_ne]
    · exact a1
    · intro z
      rw [z, hp] at a1
      exact h1 ps (Option.some.inj a1)
  · obtain ⟨c, e1, e2⟩ := a3 pos cv hc
    refine ⟨c, e1, ?_⟩
    rw [upd_ne]
    · exact e2
    · intro z
      subst z
      rw [hp] at e2
      exact h2 _ (Option.some.inj e2)
/-! plain data; what a value means in an abstract heap -/
inductive D where
  | non
  | bl (b : Bool)
  | int (i : Int)
  | str (x : Str)
  | lst (xs : List D)
  | tup (xs : List D)
  | ins (c : Str) (fs : List (Str × D))
  | raw (v : V)
  | dK (kvs : List (Key × D))
  | dT (kvs : List (List Key × D))
  | exc (c : Str) (fs : List (Str × D))
  | clo (j : Nat) (caps : List D)
  | fnv (x : Str)
abbrev Mg := Str → Option Value
theorem exd_tbl {e : Addr} {fs : List (Str × V)} {ps : Array Value} : exd e fs ≠ .tbl ps := fun z => by
  have z' : HO.ext _ = HO.tbl ps := z
  cases z'
variable [TB]
mutual
inductive Rep (K : PySem.W.Frag) (mg : Mg) (F : Hp) : V → D → Prop
  | non : Rep K mg F .non .non
  | bl (b : Bool) : Rep K mg F (.bl b) (.bl b)
  | int (i : Int) : Rep K mg F (.int i) (.int i)
  | str (x : Str) : Rep K mg F (.str x) (.str x)
  | raw (v : V) : Rep K mg F v (.raw v)
  | lst {a : Addr} {vs : List V} {ds : List D} : SqL K F a vs → Reps K mg F vs ds → Rep K mg F (.ref a) (.lst ds)
  | tup {a : Addr} {vs : List V} {ds : List D} : SqT K F a vs → Reps K mg F vs ds → Rep K mg F (.ref a) (.tup ds)
  | ins {a C dx : Addr} {c : Str} {gs : List (Str × V)} {fs : List (Str × D)} : mg c = some (.ref C) → F a = some (.ins C dx gs) → RepF K mg F gs fs → Rep K mg F (.ref a) (.ins c fs)
  | dK {a : Addr} {gs : List (Key × V)} {ks : List (Key × D)} : F a = some (.dK gs) → RepK K mg F gs ks → Rep K mg F (.ref a) (.dK ks)
  | dT {a : Addr} {gs : List (List Key × V)} {ks : List (List Key × D)} : F a = some (.dT gs) → RepT K mg F gs ks → Rep K mg F (.ref a) (.dT ks)
  | exc {a C dx : Addr} {c : Str} {gs : List (Str × V)} {fs : List (Str × D)} : mg c = some (.ref C) → F a = some (exo a C (some dx)) → F dx = some (exd dx gs) → RepF K mg F gs fs → Rep K mg F (.ref a) (.exc c fs)
  | clo {j : Nat} {f : Addr} {o : HO} {ws : List V} {caps : List D} : TB.cv j = some (f, o, ws) → F f = some o → NoTbl o → Reps K mg F ws caps → Rep K mg F (.ref f) (.clo j caps)
  | fnv {f : Addr} {x : Str} : mg x = some (.ref f) → Rep K mg F (.ref f) (.fnv x)
inductive Reps (K : PySem.W.Frag) (mg : Mg) (F : Hp) : List V → List D → Prop
  | nil : Reps K mg F [] []
  | cons {v : V} {vs : List V} {d : D} {ds : List D} : Rep K mg F v d → Reps K mg F vs ds → Reps K mg F (v :: vs) (d :: ds)
inductive RepF (K : PySem.W.Frag) (mg : Mg) (F : Hp) : List (Str × V) → List (Str × D) → Prop
  | nil : RepF K mg F [] []
  | cons {f : Str} {v : V} {gs : List (Str × V)} {d : D} {fs : List (Str × D)} : Rep K mg F v d → RepF K mg F gs fs → RepF K mg F ((f, v) :: gs) ((f, d) :: fs)
inductive RepK (K : PySem.W.Frag) (mg : Mg) (F : Hp) : List (Key × V) → List (Key × D) → Prop
  | nil : RepK K mg F [] []
  | cons {f : Key} {v : V} {gs : List (Key × V)} {d : D} {fs : List (Key × D)} : Rep K mg F v d → RepK K mg F gs fs → RepK K mg F ((f, v) :: gs) ((f, d) :: fs)
inductive RepT (K : PySem.W.Frag) (mg : Mg) (F : Hp) : List (List Key × V) → List (List Key × D) → Prop
  | nil : RepT K mg F [] []
  | cons {f : List Key} {v : V} {gs : List (List Key × V)} {d : D} {fs : List (List Key × D)} : Rep K mg F v d → RepT K mg F gs fs → RepT K mg F ((f, v) :: gs) ((f, d) :: fs)
end
theorem sqT_mono {K : PySem.W.Frag} {F F' : Hp} {a : Addr} {xs : List V} (e : Same F F') (h : SqT K F a xs) : SqT K F' a xs := by
  rcases h with (h | ⟨o, h⟩) | h
  · exact Or.inl (Or.inl (e _ _ h))
  · exact Or.inl (Or.inr ⟨o, e _ _ h⟩)
  · exact Or.inr h
mutual
theorem Rep.mono {K : PySem.W.Frag} {mg : Mg} {F F' : Hp} (s : Same F F') {v : V} {d : D} : Rep K mg F v d → Rep K mg F' v d
  | .non => .non
  | .bl b => .bl b
  | .int i => .int i
  | .str x => .str x
  | .raw v => .raw v
  | .lst a b => .lst (s.seq a) (Reps.mono s b)
  | .tup a b => .tup (sqT_mono s a) (Reps.mono s b)
  | .ins a b c => .ins a (s _ _ b) (RepF.mono s c)
  | .dK a b => .dK (s _ _ a) (RepK.mono s b)
  | .dT a b => .dT (s _ _ a) (RepT.mono s b)
  | .exc a b c d => .exc a (s _ _ b) (s _ _ c) (RepF.mono s d)
  | .clo a b c d => .clo a (s _ _ b) c (Reps.mono s d)
  | .fnv a => .fnv a
theorem Reps.mono {K : PySem.W.Frag} {mg : Mg} {F F' : Hp} (s : Same F F') {v : List V} {d : List D} : Reps K mg F v d → Reps K mg F' v d
  | .nil => .nil
  | .cons a b => .cons (Rep.mono s a) (Reps.mono s b)
theorem RepF.mono {K : PySem.W.Frag} {mg : Mg} {F F' : Hp} (s : Same F F') {v : List (Str × V)} {d : List (Str × D)} : RepF K mg F v d → RepF K mg F' v d
  | .nil => .nil
  | .cons a b => .cons (Rep.mono s a) (RepF.mono s b)
theorem RepK.mono {K : PySem.W.Frag} {mg : Mg} {F F' : Hp} (s : Same F F') {v : List (Key × V)} {d : List (Key × D)} : RepK K mg F v d → RepK K mg F' v d
  | .nil => .nil
  | .cons a b => .cons (Rep.mono s a) (RepK.mono s b)
theorem RepT.mono {K : PySem.W.Frag} {mg : Mg} {F F' : Hp} (s : Same F F') {v : List (List Key × V)} {d : List (List Key × D)} : RepT K mg F v d → RepT K mg F' v d
  | .nil => .nil
  | .cons a b => .cons (Rep.mono s a) (RepT.mono s b)
end
mutual
theorem Rep.strip {K : PySem.W.Frag} {mg : Mg} {F : Hp} {v : V} {d : D} : Rep K mg F v d → Rep K mg (strip F) v d
  | .non => .non
  | .bl b => .bl b
  | .int i => .int i
  | .str x => .str x
  | .raw v => .raw v
  | .lst a b => .lst (sqL_strip a) (Reps.strip b)
  | .tup a b => .tup (sqT_strip a) (Reps.strip b)
  | .ins a b c => .ins a (strip_of b fun ps z => by cases z) (RepF.strip c)
  | .dK a b => .dK (strip_of a fun ps z => by cases z) (RepK.strip b)
  | .dT a b => .dT (strip_of a fun ps z => by cases z) (RepT.strip b)
  | .exc a b c d => .exc a (strip_of b fun ps => exo_tbl) (strip_of c fun ps => exd_tbl) (RepF.strip d)
  | .clo a b c d => .clo a (strip_of b c) c (Reps.strip d)
  | .fnv a => .fnv a
theorem Reps.strip {K : PySem.W.Frag} {mg : Mg} {F : Hp} {v : List V} {d : List D} : Reps K mg F v d → Reps K mg (strip F) v d
  | .nil => .nil
  | .cons a b => .cons (Rep.strip a) (Reps.strip b)
theorem RepF.strip {K : PySem.W.Frag} {mg : Mg} {F : Hp} {v : List (Str × V)} {d : List (Str × D)} : RepF K mg F v d → RepF K mg (strip F) v d
  | .nil => .nil
  | .cons a b => .cons (Rep.strip a) (RepF.strip b)
theorem RepK.strip {K : PySem.W.Frag} {mg : Mg} {F : Hp} {v : List (Key × V)} {d : List (Key × D)} : RepK K mg F v d → RepK K mg (strip F) v d
  | .nil => .nil
  | .cons a b => .cons (Rep.strip a) (RepK.strip b)
theorem RepT.strip {K : PySem.W.Frag} {mg : Mg} {F : Hp} {v : List (List Key × V)} {d : List (List Key × D)} : RepT K mg F v d → RepT K mg (strip F) v d
  | .nil => .nil
  | .cons a b => .cons (Rep.strip a) (RepT.strip b)
end
theorem Reps.length {K : PySem.W.Frag} {mg : Mg} {F : Hp} : ∀ {vs : List V} {ds : List D}, Reps K mg F vs ds → vs.length = ds.length
  | _, _, .nil => rfl
  | _, _, .cons _ b => congrArg (· + 1) (Reps.length b)
theorem Reps.append {K : PySem.W.Frag} {mg : Mg} {F : Hp} : ∀ {vs ws : List V} {ds es : List D}, Reps K mg F vs ds → Reps K mg F ws es → Reps K mg F (vs ++ ws) (ds ++ es)
  | _, _, _, _, .nil, h => h
  | _, _, _, _, .cons a b, h => .cons a (Reps.append b h)
theorem Reps.get {K : PySem.W.Frag} {mg : Mg} {F : Hp} : ∀ {vs : List V} {ds : List D} {i : Nat} {d : D}, Reps K mg F vs ds → ds[i]? = some d → ∃ v, vs[i]? = some v ∧ Rep K mg F v d
  | _, _, _, _, .nil, e => by simp at e
  | _, _, 0, _, .cons r _, e => by simp at e; subst e; exact ⟨_, rfl, r⟩
  | _, _, i + 1, d, .cons _ t, e => by
    obtain ⟨u, h1, h2⟩ := Reps.get (i := i) (d := d) t (by simpa using e)
    exact ⟨u, by simpa using h1, h2⟩
theorem Reps.set {K : PySem.W.Frag} {mg : Mg} {F : Hp} {v : V} {d : D} (r : Rep K mg F v d) : ∀ {vs : List V} {ds : List D} (i : Nat), Reps K mg F vs ds → Reps K mg F (vs.set i v) (ds.set i d)
  | _, _, _, .nil => .nil
  | _, _, 0, .cons _ t => .cons r t
  | _, _, i + 1, .cons q t => .cons q (Reps.set r i t)
theorem Reps.take {K : PySem.W.Frag} {mg : Mg} {F : Hp} : ∀ {vs : List V} {ds : List D} (n : Nat), Reps K mg F vs ds → Reps K mg F (vs.take n) (ds.take n)
  | _, _, 0, _ => .nil
  | _, _, _ + 1, .nil => .nil
  | _, _, n + 1, .cons r t => .cons r (Reps.take n t)
theorem Reps.drop {K : PySem.W.Frag} {mg : Mg} {F : Hp} : ∀ {vs : List V} {ds : List D} (n : Nat), Reps K mg F vs ds → Reps K mg F (vs.drop n) (ds.drop n)
  | _, _, 0, r => r
  | _, _, _ + 1, .nil => .nil
  | _, _, n + 1, .cons _ t => Reps.drop n t
theorem RepF.look {K : PySem.W.Frag} {mg : Mg} {F : Hp} {f : Str} {d : D} : ∀ {gs : List (Str × V)} {fs : List (Str × D)}, RepF K mg F gs fs → fs.lookup f = some d → ∃ v, gs.lookup f = some v ∧ Rep K mg F v d
  | _, _, .nil, e => by simp at e
  | _, _, .cons (f := g) r t, e => by
    rw [List.lookup_cons] at e ⊢
    cases q : (f == g) with
    | true => rw [q] at e; cases e; exact ⟨_, rfl, r⟩
    | false => rw [q] at e; exact RepF.look t e
/-! what stands at an address that one frame alone knows -/
inductive Cont where
  | lst (xs : List D)
  | ins (c : Str) (fs : List (Str × D))
  | dK (kvs : List (Key × D))
  | dT (kvs : List (List Key × D))
def Cont.dat : Cont → D
  | .lst xs => .lst xs
  | .ins c fs => .ins c fs
  | .dK ks => .dK ks
  | .dT ks => .dT ks
def ContOk (K : PySem.W.Frag) (mg : Mg) (F : Hp) : Cont → HO → Prop
  | .lst xs, o => ∃ vs, o = .lst vs ∧ Reps K mg F vs xs
  | .ins c fs, o => ∃ C dx gs, o = .ins C dx gs ∧ mg c = some (.ref C) ∧ RepF K mg F gs fs
  | .dK ks, o => ∃ gs, o = .dK gs ∧ RepK K mg F gs ks
  | .dT ks, o => ∃ gs, o = .dT gs ∧ RepT K mg F gs ks
theorem ContOk.mono {K : PySem.W.Frag} {mg : Mg} {F F' : Hp} (s : Same F F') : ∀ {c : Cont} {o : HO}, ContOk K mg F c o → ContOk K mg F' c o
  | .lst _, _, ⟨vs, e, r⟩ => ⟨vs, e, r.mono s⟩
  | .ins _ _, _, ⟨C, dx, gs, e, m, r⟩ => ⟨C, dx, gs, e, m, r.mono s⟩
  | .dK _, _, ⟨gs, e, r⟩ => ⟨gs, e, r.mono s⟩
  | .dT _, _, ⟨gs, e, r⟩ => ⟨gs, e, r.mono s⟩
theorem ContOk.notbl {K : PySem.W.Frag} {mg : Mg} {F : Hp} : ∀ {c : Cont} {o : HO}, ContOk K mg F c o → NoTbl o
  | .lst _, _, ⟨vs, e, _⟩ => fun ps z => by rw [e] at z; cases z
  | .ins _ _, _, ⟨C, dx, gs, e, _⟩ => fun ps z => by rw [e] at z; cases z
  | .dK _, _, ⟨gs, e, _⟩ => fun ps z => by rw [e] at z; cases z
  | .dT _, _, ⟨gs, e, _⟩ => fun ps z => by rw [e] at z; cases z
theorem ContOk.nocode {K : PySem.W.Frag} {mg : Mg} {F : Hp} {p : Addr} : ∀ {c : Cont} {o : HO}, ContOk K mg F c o → ∀ q, o ≠ LamX.CodeO p q
  | .lst _, _, ⟨vs, e, _⟩ => fun ps z => by rw [e] at z; cases z
  | .ins _ _, _, ⟨C, dx, gs, e, _⟩ => fun ps z => by rw [e] at z; cases z
  | .dK _, _, ⟨gs, e, _⟩ => fun ps z => by rw [e] at z; cases z
  | .dT _, _, ⟨gs, e, _⟩ => fun ps z => by rw [e] at z; cases z
inductive Slot where
  | no
  | val (d : D)
  | own (fx : Bool) (c : Cont)
abbrev Sl := List Slot
def SlotOk (K : PySem.W.Frag) (mg : Mg) (F H : Hp) : Slot → Option V → Prop
  | .no, _ => True
  | .val d, o => ∃ v, o = some v ∧ Rep K mg F v d
  | .own _ c, o => ∃ a h, o = some (.ref a) ∧ F a = none ∧ H a = some h ∧ ContOk K mg F c h
def Own (e : Sl) (σ : St) (a : Addr) : Prop := ∃ (i : Nat) (f : Bool) (c : Cont), e[i]? = some (.own f c) ∧ σ[i]? = some (some (.ref a))
structure Rel (K : PySem.W.Frag) (mg : Mg) (F : Hp) (e : Sl) (σ : St) (H : Hp) : Prop where
  sub : Same F H
  len : e.length = σ.length
  ok : ∀ (i : Nat) (s : Slot) (o : Option V), e[i]? = some s → σ[i]? = some o → SlotOk K mg F H s o
  inj : ∀ (i j : Nat) (f g : Bool) (c d : Cont) (a : Addr), e[i]? = some (.own f c) → e[j]? = some (.own g d) → σ[i]? = some (some (.ref a)) → σ[j]? = some (some (.ref a)) → i = j
  tab : TabOk H
  ftb : ∀ b o, F b = some o → NoTbl o
/-- new, or this frame's own -/
def NM (H : Hp) (e : Sl) (σ : St) (b : Addr) : Prop := H b = none ∨ Own e σ b
structure Stp (F H : Hp) (e : Sl) (σ : St) (F' H' : Hp) (e' : Sl) (σ' : St) : Prop where
  fro : Same F F'
  kept : ∀ b o, H b = some o → ¬ Own e σ b → NoTbl o → H' b = some o
  dom : ∀ b, H' b = none → H b = none
  newF : ∀ b, F b = none → F' b ≠ none → NM H e σ b
  newO : ∀ b, Own e' σ' b → NM H e σ b
  fix : ∀ (i : Nat) (c : Cont), e[i]? = some (.own true c) → (∃ c', e'[i]? = some (.own true c')) ∧ σ'[i]? = σ[i]?
  len : e'.length = e.length
section
variable {F F1 F2 H H1 H2 : Hp} {e e1 e2 : Sl} {σ σ1 σ2 : St}
theorem Stp.refl : Stp F H e σ F H e σ := ⟨Same.refl _, fun _ _ h _ _ => h, fun _ h => h, fun _ h h' => absurd h h', fun _ h => .inr h, fun i c h => ⟨⟨c, h⟩, rfl⟩, rfl⟩
theorem Stp.nm (a : Stp F H e σ F1 H1 e1 σ1) {b : Addr} (h : NM H1 e1 σ1 b) : NM H e σ b := by
  rcases h with h | h
  · exact .inl (a.dom b h)
  · exact a.newO b h
theorem Stp.trans (a : Stp F H e σ F1 H1 e1 σ1) (b : Stp F1 H1 e1 σ1 F2 H2 e2 σ2) : Stp F H e σ F2 H2 e2 σ2 where
  fro := a.fro.trans b.fro
  kept := fun c o h n m => b.kept c o (a.kept c o h n m) (fun z => by
    rcases a.newO c z with q | q
    · rw [h] at q; cases q
    · exact n q) m
  dom := fun c h => a.dom c (b.dom c h)
  newF := fun c h h' => by
    cases q : F1 c with
    | none => exact a.nm (b.newF c q h')
    | some o => exact a.newF c h (by rw [q]; exact fun z => nomatch z)
  newO := fun c h => a.nm (b.newO c h)
  fix := fun i c h => by
    obtain ⟨⟨c1, h1⟩, q1⟩ := a.fix i c h
    obtain ⟨⟨c2, h2⟩, q2⟩ := b.fix i c1 h1
    exact ⟨⟨c2, h2⟩, q2.trans q1⟩
  len := b.len.trans a.len
end
/-! results -/
structure Xn where
  c : Str
  fs : List (Str × D)
inductive Res (α : Type) where
  | ok (a : α) (e : Sl)
  | ex (x : Xn) (e : Sl)
  | bad
abbrev M (α : Type) := Sl → Res α
def M.bind {α β : Type} (f : M α) (k : α → M β) : M β := fun e => match f e with
  | .ok a e' => k a e'
  | .ex x e' => .ex x e'
  | .bad => .bad
def M.ret {α : Type} (a : α) : M α := fun e => .ok a e
def M.bad {α : Type} : M α := fun _ => .bad
inductive RV where
  | val (d : D)
  | own (c : Cont)
  | pk (i : Nat)
def RVOk (K : PySem.W.Frag) (mg : Mg) (N : Addr → Prop) (F H : Hp) (e : Sl) (σ : St) (v : V) : RV → Prop
  | .val d => Rep K mg F v d
  | .own c => ∃ a h, v = .ref a ∧ F a = none ∧ H a = some h ∧ ContOk K mg F c h ∧ ¬ Own e σ a ∧ N a
  | .pk i => σ[i]? = some (some v)
def XOk (K : PySem.W.Frag) (mg : Mg) (F : Hp) (cls : Value) (d : Option Addr) (x : Xn) : Prop := ∃ C dx gs, cls = .ref C ∧ mg x.c = some (.ref C) ∧ d = some dx ∧ F dx = some (.xd gs) ∧ RepF K mg F gs x.fs
section
variable {K : PySem.W.Frag} {mg : Mg} {F F1 F2 H H1 H2 : Hp} {e e1 e2 : Sl} {σ σ1 σ2 : St} {v : V} {r : RV} {N N1 : Addr → Prop}
/-- what was read stays read while something else is reckoned -/
theorem RVOk.step (h : RVOk K mg N F H e σ v r) (s : Stp F H e σ F1 H1 e1 σ) : RVOk K mg N F1 H1 e1 σ v r := by
  cases r with
  | val d => exact Rep.mono s.fro h
  | pk i => exact h
  | own c =>
    obtain ⟨a, o, e, hf, hh, hc, hn, hN⟩ := h
    have nm : ¬ NM H _ σ a := fun z => by
      rcases z with z | z
      · rw [hh] at z; cases z
      · exact hn z
    refine ⟨a, o, e, ?_, s.kept a o hh hn hc.notbl, hc.mono s.fro, fun z => nm (s.newO a z), hN⟩
    cases q : F1 a with
    | none => rfl
    | some u => exact absurd (s.newF a hf (by rw [q]; exact fun z => nomatch z)) nm
theorem RVOk.imp (h : RVOk K mg N F H e σ v r) (g : ∀ a, N a → N1 a) : RVOk K mg N1 F H e σ v r := by
  cases r with
  | val d => exact h
  | pk i => exact h
  | own c =>
    obtain ⟨a, o, e, hf, hh, hc, hn, hN⟩ := h
    exact ⟨a, o, e, hf, hh, hc, hn, g a hN⟩
end
/-- the data that a result stands for now -/
def sdat : Option Slot → Option D
  | some (.val d) => some d
  | some (.own _ c) => some c.dat
  | _ => none
def rdat (e : Sl) : RV → Option D
  | .val d => some d
  | .own c => some c.dat
  | .pk i => sdat e[i]?
/-- v reads as d: its outside in H, its parts in F -/
def RdOk (K : PySem.W.Frag) (mg : Mg) (F H : Hp) (v : V) : D → Prop
  | .non => v = .non
  | .bl b => v = .bl b
  | .int i => v = .int i
  | .str x => v = .str x
  | .raw u => v = u
  | .lst ds => ∃ a vs, v = .ref a ∧ SqL K H a vs ∧ Reps K mg F vs ds
  | .tup ds => ∃ a vs, v = .ref a ∧ SqT K F a vs ∧ Reps K mg F vs ds
  | .ins c fs => ∃ a C dx gs, v = .ref a ∧ mg c = some (.ref C) ∧ H a = some (.ins C dx gs) ∧ RepF K mg F gs fs
  | .dK ks => ∃ a gs, v = .ref a ∧ H a = some (.dK gs) ∧ RepK K mg F gs ks
  | .dT ks => ∃ a gs, v = .ref a ∧ H a = some (.dT gs) ∧ RepT K mg F gs ks
  | .exc c fs => ∃ a dx C gs, v = .ref a ∧ mg c = some (.ref C) ∧ F a = some (exo a C (some dx)) ∧ F dx = some (exd dx gs) ∧ RepF K mg F gs fs
  | .clo j caps => ∃ f o ws, v = .ref f ∧ TB.cv j = some (f, o, ws) ∧ F f = some o ∧ NoTbl o ∧ Reps K mg F ws caps
  | .fnv x => ∃ f, v = .ref f ∧ mg x = some (.ref f)
section
variable {K : PySem.W.Frag} {mg : Mg} {F F1 F2 H H1 H2 : Hp} {e e1 e2 : Sl} {σ σ1 σ2 : St} {v : V} {r : RV} {N N1 : Addr → Prop} {d : D} {c : Cont} {h : HO} {a : Addr}
theorem Rep.rd (s : Same F H) (r : Rep K mg F v d) : RdOk K mg F H v d := by
  cases r with
  | non => rfl
  | bl b => rfl
  | int i => rfl
  | str x => rfl
  | raw v => rfl
  | lst a b => exact ⟨_, _, rfl, s.seq a, b⟩
  | tup a b => exact ⟨_, _, rfl, a, b⟩
  | ins a b c => exact ⟨_, _, _, _, rfl, a, s _ _ b, c⟩
  | dK a b => exact ⟨_, _, rfl, s _ _ a, b⟩
  | dT a b => exact ⟨_, _, rfl, s _ _ a, b⟩
  | exc a b c d => exact ⟨_, _, _, _, rfl, a, b, c, d⟩
  | clo a b c d => exact ⟨_, _, _, rfl, a, b, c, d⟩
  | fnv a => exact ⟨_, rfl, a⟩
theorem RdOk.rep (s : Same F H) (r : RdOk K mg F H v d) : Rep K mg H v d := by
  cases d with
  | non => cases r; exact .non
  | bl b => cases r; exact .bl b
  | int i => cases r; exact .int i
  | str x => cases r; exact .str x
  | raw v => cases r; exact .raw v
  | lst ds => obtain ⟨a, vs, rfl, q, p⟩ := r; exact .lst q (p.mono s)
  | tup ds => obtain ⟨a, vs, rfl, q, p⟩ := r; exact .tup (sqT_mono s q) (p.mono s)
  | ins c fs => obtain ⟨a, C, dx, gs, rfl, m, q, p⟩ := r; exact .ins m q (p.mono s)
  | dK ks => obtain ⟨a, gs, rfl, q, p⟩ := r; exact .dK q (p.mono s)
  | dT ks => obtain ⟨a, gs, rfl, q, p⟩ := r; exact .dT q (p.mono s)
  | exc c fs => obtain ⟨a, dx, C, gs, rfl, m, q, q', p⟩ := r; exact .exc m (s _ _ q) (s _ _ q') (p.mono s)
  | clo j caps => obtain ⟨f, o, ws, rfl, a, b, c, d⟩ := r; exact .clo a (s _ _ b) c (d.mono s)
  | fnv x => obtain ⟨f, rfl, m⟩ := r; exact .fnv m
theorem ContOk.rd (hc : ContOk K mg F c h) (e : H a = some h) : RdOk K mg F H (.ref a) c.dat := by
  cases c with
  | lst xs => obtain ⟨vs, rfl, r⟩ := hc; exact ⟨a, vs, rfl, SqL.of e, r⟩
  | ins c fs => obtain ⟨C, dx, gs, rfl, m, r⟩ := hc; exact ⟨a, C, dx, gs, rfl, m, e, r⟩
  | dK ks => obtain ⟨gs, rfl, r⟩ := hc; exact ⟨a, gs, rfl, e, r⟩
  | dT ks => obtain ⟨gs, rfl, r⟩ := hc; exact ⟨a, gs, rfl, e, r⟩
theorem Rel.rd (R : Rel K mg F e σ H) (q : RVOk K mg N F H e σ v r) (w : rdat e r = some d) : RdOk K mg F H v d := by
  cases r with
  | val x => cases w; exact Rep.rd R.sub q
  | own c =>
    cases w
    obtain ⟨a, o, rfl, hf, hh, hc, hn⟩ := q
    exact hc.rd hh
  | pk i =>
    have q : σ[i]? = some (some v) := q
    have w : sdat e[i]? = some d := w
    cases es : e[i]? with
    | none => rw [es] at w; cases w
    | some s =>
      rw [es] at w
      have ok := R.ok i s _ es q
      cases s with
      | no => cases w
      | val x =>
        cases w
        obtain ⟨u, h1, h2⟩ := ok
        cases h1
        exact Rep.rd R.sub h2
      | own f c =>
        cases w
        obtain ⟨a, o, h1, hf, hh, hc⟩ := ok
        cases h1
        exact hc.rd hh
/-- nothing but a new thing beside -/
theorem Rel.new (R : Rel K mg F e σ H) {p : Addr} {o : HO} (hp : H p = none) : Rel K mg F e σ (upd H p o) where
  sub := fun b u q => by rw [upd_ne (ne_of_none (R.sub b u q) hp)]; exact R.sub b u q
  len := R.len
  ok := fun i s x es ex => by
    have q := R.ok i s x es ex
    cases s with
    | no => trivial
    | val d => exact q
    | own f c =>
      obtain ⟨a, o', h1, hf, hh, hc⟩ := q
      exact ⟨a, o', h1, hf, by rw [upd_ne (ne_of_none hh hp)]; exact hh, hc⟩
  inj := R.inj
  tab := R.tab.new hp
  ftb := R.ftb
theorem Stp.new (R : Rel K mg F e σ H) {p : Addr} {o : HO} (hp : H p = none) : Stp F H e σ F (upd H p o) e σ where
  fro := Same.refl _
  kept := fun b u q _ _ => by rw [upd_ne (ne_of_none q hp)]; exact q
  dom := fun b q => by
    by_cases z : b = p
    · rw [z]; exact hp
    · rw [upd_ne z] at q; exact q
  newF := fun _ h h' => absurd h h'
  newO := fun _ h => .inr h
  fix := fun i c h => ⟨⟨c, h⟩, rfl⟩
  len := rfl
theorem Rel.free (R : Rel K mg F e σ H) {p : Addr} (hp : H p = none) : F p = none := R.sub.free hp
theorem Rel.notOwn (R : Rel K mg F e σ H) {p : Addr} (hp : H p = none) : ¬ Own e σ p := fun ⟨i, f, c, h1, h2⟩ => by
  obtain ⟨a, o, e1, _, hh, _⟩ := R.ok i _ _ h1 h2
  cases e1
  rw [hp] at hh; cases hh
/-- what is in H and nobody's own is frozen -/
theorem Rel.freeze (R : Rel K mg F e σ H) {p : Addr} {o : HO} (hp : H p = some o) (hn : ¬ Own e σ p) (hF : F p = none) (hT : NoTbl o) : Rel K mg (upd F p o) e σ H where
  sub := fun b u q => by
    by_cases z : b = p
    · subst z; rw [upd_same] at q; rw [← q]; exact hp
    · rw [upd_ne z] at q; exact R.sub b u q
  len := R.len
  ok := fun i s x es ex => by
    have sm : Same F (upd F p o) := fun b u q => by rw [upd_ne (ne_of_none q hF)]; exact q
    have q := R.ok i s x es ex
    cases s with
    | no => trivial
    | val d => obtain ⟨w, h1, h2⟩ := q; exact ⟨w, h1, h2.mono sm⟩
    | own f c =>
      obtain ⟨a, o', h1, hf, hh, hc⟩ := q
      refine ⟨a, o', h1, ?_, hh, hc.mono sm⟩
      rw [upd_ne]
      · exact hf
      · rintro rfl
        exact hn ⟨i, f, c, es, by rw [ex, h1]⟩
  inj := R.inj
  tab := R.tab
  ftb := fun b u q => by
    by_cases z : b = p
    · subst z; rw [upd_same] at q; cases q; exact hT
    · rw [upd_ne z] at q; exact R.ftb b u q
theorem Stp.freeze (_R : Rel K mg F e σ H) {p : Addr} {o : HO} (_hp : H p = some o) (hF : F p = none) {H0 F0 : Hp} {e0 : Sl} {σ0 : St} (s : Stp F0 H0 e0 σ0 F H e σ) (hN : NM H0 e0 σ0 p) : Stp F0 H0 e0 σ0 (upd F p o) H e σ where
  fro := s.fro.trans fun b u q => by rw [upd_ne (ne_of_none q hF)]; exact q
  kept := s.kept
  dom := s.dom
  newF := fun b h h' => by
    by_cases z : b = p
    · rw [z]; exact hN
    · rw [upd_ne z] at h'; exact s.newF b h h'
  newO := s.newO
  fix := s.fix
  len := s.len
theorem same_upd' {F : Hp} {p : Addr} {o : HO} (h : F p = none) : Same F (upd F p o) := fun b u q => by rw [upd_ne (ne_of_none q h)]; exact q
end
end Y

set_option Elab.async false
set_option linter.all false
set_option maxRecDepth 100000
set_option maxHeartbeats 4000000
namespace Y
open PySem PySem.Spec L2
set_option autoImplicit false
variable [TB]
/-! readings that are told by a plain function -/
section
variable (K : PySem.W.Frag) (mg : Mg) (W : WX)
abbrev RR (α β : Type) := (Addr → Prop) → Hp → Hp → Sl → St → β → α → Prop
def post {α β : Type} (R : RR α β) (F H : Hp) (e : Sl) (σ : St) (r : Res α) (Q : β → Hp → Prop) : Prop := match r with
  | .ok a e' => ∀ b F' H', Stp F H e σ F' H' e' σ → Rel K mg F' e' σ H' → R (NM H e σ) F' H' e' σ b a → Q b H'
  | .ex x e' => ∀ cls d F' H', Stp F H e σ F' H' e' σ → Rel K mg F' e' σ H' → XOk K mg F' cls d x → W cls d σ H'
  | .bad => False
def cG {α β : Type} (R : RR α β) (f : M α) : St → Hp → (β → Hp → Prop) → Prop := fun σ H Q => ∃ e F, Rel K mg F e σ H ∧ post K mg W R F H e σ (f e) Q
abbrev rV : RR RV V := fun N F H e σ v r => RVOk K mg N F H e σ v r
abbrev rB : RR Bool Bool := fun _ _ _ _ _ b a => b = a
/-- arguments: frozen values, or a slot that is lent -/
def ArgOk (F : Hp) (σ : St) (v : V) : RV → Prop
  | .val d => Rep K mg F v d
  | .pk i => σ[i]? = some (some v)
  | .own _ => False
inductive Args (F : Hp) (σ : St) : List V → List RV → Prop
  | nil : Args F σ [] []
  | cons {v : V} {vs : List V} {r : RV} {rs : List RV} : ArgOk K mg F σ v r → Args F σ vs rs → Args F σ (v :: vs) (r :: rs)
abbrev rA : RR (List RV) (List V) := fun _ F _ _ σ vs rs => Args K mg F σ vs rs
abbrev cE (f : M RV) : TE := cG K mg W (rV K mg) f
abbrev cT (f : M Bool) : TT := cG K mg W rB f
abbrev cA (f : M (List RV)) : TA := cG K mg W (rA K mg) f
end
inductive Flo where
  | nx
  | bk
  | ct
  | rt (r : RV)
section
variable (K : PySem.W.Frag) (mg : Mg) (W : WX)
def postS (F H : Hp) (e : Sl) (σ : St) (r : Res Flo) (E : Ends) : Prop := match r with
  | .ok .nx e' => ∀ σ' F' H', Stp F H e σ F' H' e' σ' → Rel K mg F' e' σ' H' → E.nx σ' H'
  | .ok .bk e' => ∀ σ' F' H', Stp F H e σ F' H' e' σ' → Rel K mg F' e' σ' H' → E.bk σ' H'
  | .ok .ct e' => ∀ σ' F' H', Stp F H e σ F' H' e' σ' → Rel K mg F' e' σ' H' → E.ct σ' H'
  | .ok (.rt r) e' => ∀ v σ' F' H', Stp F H e σ F' H' e' σ' → Rel K mg F' e' σ' H' → RVOk K mg (NM H e σ) F' H' e' σ' v r → E.rt v H'
  | .ex x e' => ∀ cls d σ' F' H', Stp F H e σ F' H' e' σ' → Rel K mg F' e' σ' H' → XOk K mg F' cls d x → W cls d σ' H'
  | .bad => False
def cS (f : M Flo) : TS := fun E σ H => ∃ e F, Rel K mg F e σ H ∧ postS K mg W F H e σ (f e) E
end
abbrev DE (X : Cx) (W : WX) (e : Expr) (f : M RV) : Prop := PE X e (cE X.K X.mg W f)
abbrev DT (X : Cx) (W : WX) (e : Expr) (f : M Bool) : Prop := PT X e (cT X.K X.mg W f)
abbrev DW (X : Cx) (W : WX) (e : Expr) (f : M Bool) : Prop := PW X e (cT X.K X.mg W f)
abbrev DA (X : Cx) (W : WX) (es : List Expr) (f : M (List RV)) : Prop := PA X es (cA X.K X.mg W f)
abbrev DS (X : Cx) (W : WX) (st : Stmt) (f : M Flo) : Prop := PS X st (cS X.K X.mg W f)
abbrev DSs (X : Cx) (W : WX) (st : List Stmt) (f : M Flo) : Prop := PSs X st (cS X.K X.mg W f)
theorem peW {X : Cx} {e : Expr} {t t' : TE} (h : PE X e t) (i : ∀ σ H Q, t' σ H Q → t σ H Q) : PE X e t' := ⟨fun pins s σ H Q I q => h.run pins s σ H Q I (i σ H Q q)⟩
theorem ptW {X : Cx} {e : Expr} {t t' : TT} (h : PT X e t) (i : ∀ σ H Q, t' σ H Q → t σ H Q) : PT X e t' := ⟨fun pins s σ H Q I q => h.run pins s σ H Q I (i σ H Q q)⟩
theorem pwW {X : Cx} {e : Expr} {t t' : TT} (h : PW X e t) (i : ∀ σ H Q, t' σ H Q → t σ H Q) : PW X e t' := ⟨fun wh pins s σ H Q I q => h.run wh pins s σ H Q I (i σ H Q q)⟩
theorem paW {X : Cx} {e : List Expr} {t t' : TA} (h : PA X e t) (i : ∀ σ H Q, t' σ H Q → t σ H Q) : PA X e t' := ⟨fun pos pins s σ H Q I q => h.run pos pins s σ H Q I (i σ H Q q)⟩
theorem psW {X : Cx} {e : Stmt} {t t' : TS} (h : PS X e t) (i : ∀ E σ H, t' E σ H → t E σ H) : PS X e t' := ⟨fun pins s σ H E I q => h.run pins s σ H E I (i E σ H q)⟩
theorem pssW {X : Cx} {e : List Stmt} {t t' : TS} (h : PSs X e t) (i : ∀ E σ H, t' E σ H → t E σ H) : PSs X e t' := ⟨fun pins s σ H E I q => h.run pins s σ H E I (i E σ H q)⟩
section
variable {K : PySem.W.Frag} {mg : Mg} {W : WX} {F F1 H H1 : Hp} {e e1 : Sl} {σ : St} {α β γ δ : Type} {R1 : RR α β} {R2 : RR γ δ}
theorem post_imp {R : RR α β} {r : Res α} {Q Q' : β → Hp → Prop} (h : post K mg W R F H e σ r Q) (i : ∀ b H', Q b H' → Q' b H') : post K mg W R F H e σ r Q' := by
  cases r with
  | ok a e' => exact fun b F' H' s q w => i _ _ (h b F' H' s q w)
  | ex x e' => exact h
  | bad => exact h
/-- a relation that only grows with what is new or mine -/
def Up (R : RR α β) : Prop := ∀ (N N' : Addr → Prop) F H e σ b a, (∀ x, N x → N' x) → R N F H e σ b a → R N' F H e σ b a
theorem up_V : Up (rV K mg) := fun _ _ _ _ _ _ _ _ i h => h.imp i
theorem up_B : Up rB := fun _ _ _ _ _ _ _ _ _ h => h
theorem up_A : Up (rA K mg) := fun _ _ _ _ _ _ _ _ _ h => h
theorem post_from {R : RR α β} (u : Up R) {r : Res α} {Q : β → Hp → Prop} (s : Stp F H e σ F1 H1 e1 σ) (h : post K mg W R F H e σ r Q) : post K mg W R F1 H1 e1 σ r Q := by
  cases r with
  | ok a e' => exact fun b F' H' s' q w => h b F' H' (s.trans s') q (u _ _ _ _ _ _ _ _ (fun x z => s.nm z) w)
  | ex x e' => exact fun cls d F' H' s' q w => h cls d F' H' (s.trans s') q w
  | bad => exact h
/-- THE SEQUENCE -/
theorem post_seq (u : Up R2) {f : M α} {k : α → M γ} {Q : δ → Hp → Prop} (h : post K mg W R2 F H e σ (M.bind f k e) Q) :
    post K mg W R1 F H e σ (f e) (fun b H1 => ∃ a e1 F1, R1 (NM H e σ) F1 H1 e1 σ b a ∧ Rel K mg F1 e1 σ H1 ∧ Stp F H e σ F1 H1 e1 σ ∧ post K mg W R2 F1 H1 e1 σ (k a e1) Q) := by
  unfold M.bind at h
  cases q : f e with
  | ok a e' =>
    rw [q] at h
    exact fun b F' H' s r w => ⟨a, e', F', w, r, s, post_from u s h⟩
  | ex x e' => rw [q] at h; exact h
  | bad => rw [q] at h; exact h
theorem post_seq0 {f : M α} {k : α → M γ} {Q : δ → Hp → Prop} (h : post K mg W R2 F H e σ (M.bind f k e) Q) :
    post K mg W R1 F H e σ (f e) (fun b H1 => ∃ a e1 F1, R1 (NM H e σ) F1 H1 e1 σ b a ∧ Rel K mg F1 e1 σ H1 ∧ Stp F H e σ F1 H1 e1 σ ∧ post K mg W R2 F H e σ (k a e1) Q) := by
  unfold M.bind at h
  cases q : f e with
  | ok a e' =>
    rw [q] at h
    exact fun b F' H' s r w => ⟨a, e', F', w, r, s, h⟩
  | ex x e' => rw [q] at h; exact h
  | bad => rw [q] at h; exact h
theorem bind_assoc {α β γ : Type} (f : M α) (g : α → M β) (k : β → M γ) : M.bind (M.bind f g) k = M.bind f fun a => M.bind (g a) k := by
  funext e
  unfold M.bind
  cases f e <;> rfl
theorem ret_bind {α β : Type} (a : α) (k : α → M β) : M.bind (M.ret a) k = k a := rfl
theorem post_ret {R : RR α β} {a : α} {Q : β → Hp → Prop} {b : β} (r : Rel K mg F e σ H) (h : post K mg W R F H e σ (.ok a e) Q) (w : R (NM H e σ) F H e σ b a) : Q b H := h b F H Stp.refl r w
end
/-! freezing -/
def frz (r : RV) : M D := fun e => match r with
  | .val d => .ok d e
  | .own c => .ok c.dat e
  | .pk i => match e[i]? with
    | some (.val d) => .ok d e
    | some (.own false c) => .ok c.dat (e.set i (.val c.dat))
    | _ => .bad
theorem ContOk.rep {K : PySem.W.Frag} {mg : Mg} {F : Hp} {a : Addr} {h : HO} {c : Cont} (hc : ContOk K mg F c h) (hF : F a = none) : Rep K mg (upd F a h) (.ref a) c.dat := by
  have sm := same_upd' (o := h) hF
  cases c with
  | lst xs => obtain ⟨vs, rfl, r⟩ := hc; exact .lst (SqL.of upd_same) (r.mono sm)
  | ins c fs => obtain ⟨C, dx, gs, rfl, m, r⟩ := hc; exact .ins m upd_same (r.mono sm)
  | dK ks => obtain ⟨gs, rfl, r⟩ := hc; exact .dK upd_same (r.mono sm)
  | dT ks => obtain ⟨gs, rfl, r⟩ := hc; exact .dT upd_same (r.mono sm)
section
variable {K : PySem.W.Frag} {mg : Mg} {F F0 H H0 : Hp} {e e0 e' : Sl} {σ : St} {v : V} {r : RV} {d : D}
theorem get_set_ne {α : Type} {l : List α} {i j : Nat} {x : α} (h : i ≠ j) : (l.set i x)[j]? = l[j]? := List.getElem?_set_ne h
/-- a slot that was own is told as data -/
theorem Rel.setVal (R : Rel K mg F e σ H) {i : Nat} {a : Addr} (ho : σ[i]? = some (some (.ref a))) (hr : Rep K mg F (.ref a) d) : Rel K mg F (e.set i (.val d)) σ H where
  sub := R.sub
  len := by rw [List.length_set]; exact R.len
  ok := fun j s x es ex => by
    by_cases z : i = j
    · subst z
      rw [List.getElem?_set] at es
      split at es
      · split at es
        · cases es
          rw [ho] at ex; cases ex
          exact ⟨_, rfl, hr⟩
        · cases es
      · exact absurd rfl (by assumption)
    · rw [get_set_ne z] at es
      exact R.ok j s x es ex
  inj := fun j k f g c d' b ej ek sj sk => by
    have nj : i ≠ j := fun z => by
      subst z
      rw [List.getElem?_set] at ej
      split at ej
      · split at ej <;> cases ej
      · exact absurd rfl (by assumption)
    have nk : i ≠ k := fun z => by
      subst z
      rw [List.getElem?_set] at ek
      split at ek
      · split at ek <;> cases ek
      · exact absurd rfl (by assumption)
    rw [get_set_ne nj] at ej
    rw [get_set_ne nk] at ek
    exact R.inj j k f g c d' b ej ek sj sk
  tab := R.tab
  ftb := R.ftb
theorem own_set {i : Nat} {d : D} {b : Addr} (h : Own (e.set i (.val d)) σ b) : Own e σ b ∧ (σ[i]? = some (some (.ref b)) → ∃ j, i ≠ j ∧ σ[j]? = some (some (.ref b)) ∧ ∃ f c, e[j]? = some (.own f c)) := by
  obtain ⟨j, f, c, h1, h2⟩ := h
  have nj : i ≠ j := fun z => by
    subst z
    rw [List.getElem?_set] at h1
    split at h1
    · split at h1 <;> cases h1
    · exact absurd rfl (by assumption)
  rw [get_set_ne nj] at h1
  exact ⟨⟨j, f, c, h1, h2⟩, fun _ => ⟨j, nj, h2, f, c, h1⟩⟩
/-- the slot's own thing is frozen -/
theorem frz_own (R : Rel K mg F e σ H) {i : Nat} {c : Cont} (es : e[i]? = some (.own false c)) (ex : σ[i]? = some (some v)) {σ0 : St} (s : Stp F0 H0 e0 σ0 F H e σ) :
    ∃ F', Stp F0 H0 e0 σ0 F' H (e.set i (.val c.dat)) σ ∧ Rel K mg F' (e.set i (.val c.dat)) σ H ∧ Rep K mg F' v c.dat := by
  obtain ⟨a, o, h1, hf, hh, hc⟩ := R.ok i _ _ es ex
  cases h1
  have rp := hc.rep hf
  have sm := same_upd' (o := o) hf
  refine ⟨upd F a o, ?_, ?_, rp⟩
  · refine ⟨s.fro.trans sm, s.kept, s.dom, fun b h h' => ?_, fun b h => s.newO b (own_set h).1, fun j c' h => ?_, by rw [List.length_set]; exact s.len⟩
    · by_cases z : b = a
      · rw [z]; exact s.newO a ⟨i, false, c, es, ex⟩
      · rw [upd_ne z] at h'; exact s.newF b h h'
    · obtain ⟨⟨c1, q1⟩, q2⟩ := s.fix j c' h
      refine ⟨⟨c1, ?_⟩, q2⟩
      rw [get_set_ne]
      · exact q1
      · rintro rfl; rw [q1] at es; cases es
  · refine ⟨fun b u q => ?_, by rw [List.length_set]; exact R.len, fun j t x ej exj => ?_, fun j k f g c1 d1 b ej ek sj sk => ?_, R.tab, fun b u q => ?_⟩
    · by_cases z : b = a
      · subst z; rw [upd_same] at q; rw [← q]; exact hh
      · rw [upd_ne z] at q; exact R.sub b u q
    · by_cases z : i = j
      · subst z
        rw [List.getElem?_set] at ej
        split at ej
        · split at ej
          · cases ej
            rw [ex] at exj; cases exj
            exact ⟨_, rfl, rp⟩
          · cases ej
        · exact absurd rfl (by assumption)
      · rw [get_set_ne z] at ej
        have q := R.ok j t x ej exj
        cases t with
        | no => trivial
        | val d => obtain ⟨w, h1, h2⟩ := q; exact ⟨w, h1, h2.mono sm⟩
        | own f c2 =>
          obtain ⟨b, o', h1, hf', hh', hc'⟩ := q
          refine ⟨b, o', h1, ?_, hh', hc'.mono sm⟩
          rw [upd_ne]
          · exact hf'
          · rintro rfl
            rw [h1] at exj
            exact z (R.inj i j _ _ _ _ _ es ej ex exj)
    · have nj : i ≠ j := fun z => by
        subst z
        rw [List.getElem?_set] at ej
        split at ej
        · split at ej <;> cases ej
        · exact absurd rfl (by assumption)
      have nk : i ≠ k := fun z => by
        subst z
        rw [List.getElem?_set] at ek
        split at ek
        · split at ek <;> cases ek
        · exact absurd rfl (by assumption)
      rw [get_set_ne nj] at ej
      rw [get_set_ne nk] at ek
      exact R.inj j k f g c1 d1 b ej ek sj sk
    · by_cases z : b = a
      · subst z; rw [upd_same] at q; cases q; exact hc.notbl
      · rw [upd_ne z] at q; exact R.ftb b u q
theorem frz_ok (R : Rel K mg F e σ H) {σ0 : St} (q : RVOk K mg (NM H0 e0 σ0) F H e σ v r) (w : frz r e = .ok d e') (s : Stp F0 H0 e0 σ0 F H e σ) :
    ∃ F', Stp F0 H0 e0 σ0 F' H e' σ ∧ Rel K mg F' e' σ H ∧ Rep K mg F' v d := by
  cases r with
  | val x => cases w; exact ⟨F, s, R, q⟩
  | own c =>
    cases w
    obtain ⟨a, o, rfl, hf, hh, hc, hn, hN⟩ := q
    exact ⟨upd F a o, Stp.freeze R hh hf s hN, R.freeze hh hn hf hc.notbl, hc.rep hf⟩
  | pk i =>
    have q : σ[i]? = some (some v) := q
    unfold frz at w
    dsimp only at w
    split at w
    · rename_i x es
      cases w
      obtain ⟨u, h1, h2⟩ := R.ok i _ _ es q
      cases h1
      exact ⟨F, s, R, h2⟩
    · rename_i c es
      cases w
      exact frz_own R es q s
    · cases w
theorem frz_noex {x : Xn} (w : frz r e = .ex x e') : False := by
  unfold frz at w
  cases r with
  | val x => cases w
  | own c => cases w
  | pk i =>
    dsimp only at w
    split at w <;> cases w
end
end Y

set_option Elab.async false
set_option linter.all false
set_option maxRecDepth 100000
set_option maxHeartbeats 4000000
namespace Y
open PySem PySem.Spec L2
set_option autoImplicit false
variable [TB]
section
variable {K : PySem.W.Frag} {mg : Mg} {W : WX} {F H : Hp} {e : Sl} {σ : St} {Q : VK} {d : D} {v : V} {ds : List D} {vs : List V}
theorem post_val (R : Rel K mg F e σ H) (h : post K mg W (rV K mg) F H e σ (.ok (.val d) e) Q) (r : Rep K mg F v d) : Q v H := post_ret R h r
theorem post_newL (R : Rel K mg F e σ H) (h : post K mg W (rV K mg) F H e σ (.ok (.own (.lst ds)) e) Q) (r : Reps K mg F vs ds) {p : Addr} (hp : H p = none) : Q (.ref p) (upd H p (.lst vs)) :=
  h _ F _ (Stp.new R hp) (R.new hp) ⟨p, _, rfl, R.free hp, upd_same, ⟨vs, rfl, r⟩, R.notOwn hp, .inl hp⟩
theorem post_newT (R : Rel K mg F e σ H) (h : post K mg W (rV K mg) F H e σ (.ok (.val (.tup ds)) e) Q) (r : Reps K mg F vs ds) {p : Addr} (hp : H p = none) : Q (.ref p) (upd H p (.tup vs)) :=
  h _ (upd F p (.tup vs)) _ (Stp.freeze (R.new hp) upd_same (R.free hp) (Stp.new R hp) (.inl hp)) ((R.new hp).freeze upd_same (R.notOwn hp) (R.free hp) (fun ps z => by cases z)) (.tup (SqT.of upd_same) (r.mono (same_upd' (R.free hp))))
end
/-! reading one or two values -/
def rd1 (f : M RV) (k : D → M RV) : M RV := M.bind f fun r => fun e => match rdat e r with
  | some d => k d e
  | none => .bad
def rd2 (f g : M RV) (k : D → D → M RV) : M RV := M.bind f fun r => M.bind g fun r' => fun e => match rdat e r, rdat e r' with
  | some d, some d' => k d d' e
  | _, _ => .bad
def K1 (K : PySem.W.Frag) (mg : Mg) (W : WX) (r : V → Hp → VK → Prop) (k : D → M RV) : Prop := ∀ (F H : Hp) (e : Sl) (σ : St) (x : V) (d : D) (Q : VK), Rel K mg F e σ H → RdOk K mg F H x d → post K mg W (rV K mg) F H e σ (k d e) Q → r x H Q
def K2 (K : PySem.W.Frag) (mg : Mg) (W : WX) (r : R2) (k : D → D → M RV) : Prop := ∀ (F H : Hp) (e : Sl) (σ : St) (x y : V) (d d' : D) (Q : VK), Rel K mg F e σ H → RdOk K mg F H x d → RdOk K mg F H y d' → post K mg W (rV K mg) F H e σ (k d d' e) Q → r x y H Q
section
variable {K : PySem.W.Frag} {mg : Mg} {W : WX} {f g : M RV} {σ : St} {H : Hp} {Q : VK}
theorem rd1_ok {r : V → Hp → VK → Prop} {k : D → M RV} (hk : K1 K mg W r k) (h : cE K mg W (rd1 f k) σ H Q) : cE K mg W f σ H fun x H1 => r x H1 Q := by
  obtain ⟨e, F, R, h⟩ := h
  refine ⟨e, F, R, post_imp (post_seq up_V h) ?_⟩
  rintro x H1 ⟨r1, e1, F1, q1, R1, s1, h1⟩
  cases w : rdat e1 r1 with
  | none => rw [w] at h1; exact h1.elim
  | some d => rw [w] at h1; exact hk F1 H1 e1 σ x d Q R1 (R1.rd q1 w) h1
theorem rd2_ok {r : R2} {k : D → D → M RV} (hk : K2 K mg W r k) (h : cE K mg W (rd2 f g k) σ H Q) : cE K mg W f σ H fun x H1 => cE K mg W g σ H1 fun y H2 => r x y H2 Q := by
  obtain ⟨e, F, R, h⟩ := h
  refine ⟨e, F, R, post_imp (post_seq up_V h) ?_⟩
  rintro x H1 ⟨r1, e1, F1, q1, R1, s1, h1⟩
  refine ⟨e1, F1, R1, post_imp (post_seq up_V h1) ?_⟩
  rintro y H2 ⟨r2, e2, F2, q2, R2, s2, h2⟩
  have q1 := q1.step s2
  cases w : rdat e2 r1 with
  | none => rw [w] at h2; exact h2.elim
  | some d =>
    cases w' : rdat e2 r2 with
    | none => rw [w, w'] at h2; exact h2.elim
    | some d' => rw [w, w'] at h2; exact hk F2 H2 e2 σ x y d d' Q R2 (R2.rd q1 w) (R2.rd q2 w') h2
end
/-! names and constants -/
def eVar (i : Nat) : M RV := fun e => match e[i]? with
  | some (.val d) => .ok (.val d) e
  | some (.own _ _) => .ok (.pk i) e
  | _ => .bad
def eC (d : D) : M RV := M.ret (.val d)
section
variable {X : Cx} {W : WX} {a b : Expr} {f g : M RV} {pos : Pos}
theorem de_var (i : Nat) {x : Str} (hN : X.N[i]? = some x := by rfl) (hv : Vis X.env.scope x := by first | exact Or.inl rfl | exact Or.inr (Or.inl rfl) | exact Or.inr (Or.inr rfl)) (hd : (x == ("__debug__" : Str)) = false := by decide)
    (hcd : (x == ("__classdict__" : Str)) = false := by decide) : DE X W (.Name x pos) (eVar i) := peW (pe_var hN hv hd hcd) fun σ H Q ⟨e, F, R, h⟩ => by
  unfold eVar at h
  cases es : e[i]? with
  | none => rw [es] at h; exact h.elim
  | some s =>
    rw [es] at h
    have hl : i < σ.length := by rw [← R.len]; exact (List.getElem?_eq_some_iff.mp es).1
    have ok := R.ok i s _ es (List.getElem?_eq_getElem hl)
    cases s with
    | no => exact h.elim
    | val d =>
      obtain ⟨v, h1, h2⟩ := ok
      exact ⟨v, by rw [List.getElem?_eq_getElem hl, h1], post_val R h h2⟩
    | own fx c =>
      obtain ⟨p, o, h1, _⟩ := ok
      have hs : σ[i]? = some (some (.ref p)) := by rw [List.getElem?_eq_getElem hl, h1]
      exact ⟨_, hs, post_ret R h hs⟩
theorem cE_c {d : D} {v : V} (hr : ∀ F, Rep X.K X.mg F v d) {σ : St} {H : Hp} {Q : VK} (h : cE X.K X.mg W (eC d) σ H Q) : Q v H := by
  obtain ⟨e, F, R, h⟩ := h
  exact post_val R h (hr F)
theorem de_int {i : Int} {j : Nat} : DE X W (.Constant (.int i) j pos) (eC (.int i)) := peW pe_int fun _ _ _ h => cE_c (fun _ => .int i) h
theorem de_bl {i : Bool} {j : Nat} : DE X W (.Constant (.bool i) j pos) (eC (.bl i)) := peW pe_bl fun _ _ _ h => cE_c (fun _ => .bl i) h
theorem de_str {i : Str} {j : Nat} : DE X W (.Constant (.str i) j pos) (eC (.str i)) := peW pe_str fun _ _ _ h => cE_c (fun _ => .str i) h
theorem de_non {j : Nat} : DE X W (.Constant .none j pos) (eC .non) := peW pe_non fun _ _ _ h => cE_c (fun _ => .non) h
/-- a module's name -/
theorem de_glob {x : Str} {v : V} {u : Value} {d : D} (hg : Gl X x) (hm : X.mg x = some u) (r : RelV v u) (hr : ∀ F, Rep X.K X.mg F v d) (hd : (x == ("__debug__" : Str)) = false := by decide) : DE X W (.Name x pos) (eC d) :=
  peW (pe_glob hg hm r hd) fun _ _ _ h => cE_c hr h
theorem de_globI {x : Str} {i : Int} {t : Tok} (hg : Gl X x) (hm : X.mg x = some (.int i t)) (hd : (x == ("__debug__" : Str)) = false := by decide) : DE X W (.Name x pos) (eC (.int i)) := de_glob (v := .int i) hg hm ⟨t, rfl⟩ (fun _ => .int i) hd
/-- a built-in class, as a value -/
theorem de_bltn {x : Str} {v : V} {u : Value} (hg : Gl X x) (hm : X.mg x = none) (hv : bootBuiltins x = some u) (r : RelV v u) (hn : x ≠ "__name__" := by decide) (hd : (x == ("__debug__" : Str)) = false := by decide) : DE X W (.Name x pos) (eC (.raw v)) :=
  peW (pe_bltn hg hm hv r hn hd) fun _ _ _ h => cE_c (fun _ => .raw v) h
/-! operators -/
theorem de_bin {op : Operator} {r : R2} {k : D → D → M RV} (ho : OpR X (binaryOp op) r) (hk : K2 X.K X.mg W r k) (ha : DE X W a f) (hb : DE X W b g) : DE X W (.BinOp a op b pos) (rd2 f g k) := peW (pe_op ho ha hb) fun _ _ _ h => rd2_ok hk h
theorem de_un {op : UnaryOp} {r : V → Hp → VK → Prop} {k : D → M RV} (ho : UnR X (unaryOp op) r) (hk : K1 X.K X.mg W r k) (ha : DE X W a f) : DE X W (.UnaryOp op a pos) (rd1 f k) := peW (pe_un ho ha) fun _ _ _ h => rd1_ok hk h
theorem de_cmp {op : CmpOp} {r : R2} {k : D → D → M RV} (ho : OpR X (compareOp op) r) (hk : K2 X.K X.mg W r k) (ha : DE X W a f) (hb : DE X W b g) (hm : behindInMarks op b = false) : DE X W (.Compare a [op] [b] pos) (rd2 f g k) := peW (pe_cmpR ho ha hb hm) fun _ _ _ h => rd2_ok hk h
def asB (f : M RV) : M Bool := M.bind f fun r => fun e => match rdat e r with
  | some (.bl b) => .ok b e
  | _ => .bad
theorem asB_ok {K : PySem.W.Frag} {mg : Mg} {σ : St} {H : Hp} {Q : Bool → Hp → Prop} (h : cT K mg W (asB f) σ H Q) : cE K mg W f σ H fun x H1 => ∃ k, x = .bl k ∧ Q k H1 := by
  obtain ⟨e, F, R, h⟩ := h
  refine ⟨e, F, R, post_imp (post_seq up_B h) ?_⟩
  rintro x H1 ⟨r1, e1, F1, q1, R1, s1, h1⟩
  split at h1
  · rename_i b w
    exact ⟨b, R1.rd q1 w, post_ret R1 h1 rfl⟩
  · exact h1.elim
theorem dt_cmp {op : CmpOp} {r : R2} {k : D → D → M RV} (ho : OpR X (compareOp op) r) (hk : K2 X.K X.mg W r k) (ha : DE X W a f) (hb : DE X W b g) (hm : behindInMarks op b = false) : DT X W (.Compare a [op] [b] pos) (asB (rd2 f g k)) :=
  ptW (pt_cmpR ho ha hb hm) fun σ H Q h => rd2_ok hk (asB_ok h)
/-- an expression whose test is its truth (here: a bool) -/
theorem dt_val (ha : DE X W a f) (he : ∀ whole, isTrue a X.env whole = (do let v ← whole; standAt a.pos; holding [v] (truthy v)) := by intro _; rfl) : DT X W a (asB f) :=
  ptW (pt_val ha he) fun _ _ _ h => asB_ok h
def mNot (f : M Bool) : M Bool := M.bind f fun c => M.ret (!c)
def mAnd (f g : M Bool) : M Bool := M.bind f fun c => if c then g else M.ret false
def mOr (f g : M Bool) : M Bool := M.bind f fun c => if c then M.ret true else g
variable {p q : M Bool} {rest : List Expr}
theorem dt_not (ha : DT X W a p) : DT X W (.UnaryOp .Not a pos) (mNot p) := ptW (pt_not ha) fun σ H Q ⟨e, F, R, h⟩ => by
  refine ⟨e, F, R, post_imp (post_seq up_B h) ?_⟩
  rintro c H1 ⟨c', e1, F1, q1, R1, s1, h1⟩
  cases q1
  exact post_ret R1 h1 rfl
theorem dw_and1 (ha : DT X W a p) : DW X W (.BoolOp .And [a] pos) p := pw_and1 ha
theorem dw_or1 (ha : DT X W a p) : DW X W (.BoolOp .Or [a] pos) p := pw_or1 ha
theorem dw_and (ha : DT X W a p) (hb : DW X W (.BoolOp .And (b :: rest) pos) q) : DW X W (.BoolOp .And (a :: b :: rest) pos) (mAnd p q) := pwW (pw_and ha hb) fun σ H Q ⟨e, F, R, h⟩ => by
  refine ⟨e, F, R, post_imp (post_seq up_B h) ?_⟩
  rintro c H1 ⟨c', e1, F1, q1, R1, s1, h1⟩
  cases q1
  cases c with
  | true => exact iteT ⟨e1, F1, R1, h1⟩
  | false => exact iteF (post_ret R1 h1 rfl)
theorem dw_or (ha : DT X W a p) (hb : DW X W (.BoolOp .Or (b :: rest) pos) q) : DW X W (.BoolOp .Or (a :: b :: rest) pos) (mOr p q) := pwW (pw_or ha hb) fun σ H Q ⟨e, F, R, h⟩ => by
  refine ⟨e, F, R, post_imp (post_seq up_B h) ?_⟩
  rintro c H1 ⟨c', e1, F1, q1, R1, s1, h1⟩
  cases q1
  cases c with
  | true => exact iteT (post_ret R1 h1 rfl)
  | false => exact iteF ⟨e1, F1, R1, h1⟩
theorem DW.dt (h : DW X W a p) : DT X W a p := PW.pt h
/-- .. as values -/
def eAnd (f g : M RV) : M RV := M.bind f fun r => fun e => match rdat e r with
  | some (.bl true) => g e
  | some (.bl false) => .ok (.val (.bl false)) e
  | _ => .bad
def eOr (f g : M RV) : M RV := M.bind f fun r => fun e => match rdat e r with
  | some (.bl false) => g e
  | some (.bl true) => .ok (.val (.bl true)) e
  | _ => .bad
def eNot (f : M RV) : M RV := M.bind f fun r => fun e => match rdat e r with
  | some (.bl b) => .ok (.val (.bl (!b))) e
  | _ => .bad
theorem de_one {op : BoolOp} (ha : DE X W a f) : DE X W (.BoolOp op [a] pos) f := pe_one ha
theorem de_and (ha : DE X W a f) (hb : DE X W (.BoolOp .And (b :: rest) pos) g) : DE X W (.BoolOp .And (a :: b :: rest) pos) (eAnd f g) := peW (pe_and ha hb) fun σ H Q ⟨e, F, R, h⟩ => by
  refine ⟨e, F, R, post_imp (post_seq up_V h) ?_⟩
  rintro x H1 ⟨r1, e1, F1, q1, R1, s1, h1⟩
  split at h1
  · rename_i w; exact ⟨true, R1.rd q1 w, iteT ⟨e1, F1, R1, h1⟩⟩
  · rename_i w; exact ⟨false, R1.rd q1 w, iteF (post_val R1 h1 (.bl false))⟩
  · exact h1.elim
theorem de_or (ha : DE X W a f) (hb : DE X W (.BoolOp .Or (b :: rest) pos) g) : DE X W (.BoolOp .Or (a :: b :: rest) pos) (eOr f g) := peW (pe_or ha hb) fun σ H Q ⟨e, F, R, h⟩ => by
  refine ⟨e, F, R, post_imp (post_seq up_V h) ?_⟩
  rintro x H1 ⟨r1, e1, F1, q1, R1, s1, h1⟩
  split at h1
  · rename_i w; exact ⟨false, R1.rd q1 w, iteF ⟨e1, F1, R1, h1⟩⟩
  · rename_i w; exact ⟨true, R1.rd q1 w, iteT (post_val R1 h1 (.bl true))⟩
  · exact h1.elim
theorem de_not (ha : DE X W a f) : DE X W (.UnaryOp .Not a pos) (eNot f) := peW (pe_not ha) fun σ H Q ⟨e, F, R, h⟩ => by
  refine ⟨e, F, R, post_imp (post_seq up_V h) ?_⟩
  rintro x H1 ⟨r1, e1, F1, q1, R1, s1, h1⟩
  split at h1
  · rename_i b w; exact ⟨b, R1.rd q1 w, post_val R1 h1 (.bl _)⟩
  · exact h1.elim
def eIf (p : M Bool) (f g : M RV) : M RV := M.bind p fun c => if c then f else g
theorem de_ifExp {c : Expr} (hc : DT X W c p) (ha : DE X W a f) (hb : DE X W b g) : DE X W (.IfExp c a b pos) (eIf p f g) := peW (pe_ifExp hc ha hb) fun σ H Q ⟨e, F, R, h⟩ => by
  refine ⟨e, F, R, post_imp (post_seq up_V h) ?_⟩
  rintro c H1 ⟨c', e1, F1, q1, R1, s1, h1⟩
  cases q1
  cases c with
  | true => exact iteT ⟨e1, F1, R1, h1⟩
  | false => exact iteF ⟨e1, F1, R1, h1⟩
end
/-! ### ints -/
def kI2 (g : Int → Int → Option D) : D → D → M RV
  | .int i, .int j => match g i j with
    | some d => M.ret (.val d)
    | none => M.bad
  | _, _ => M.bad
def kI1 (g : Int → D) : D → M RV
  | .int i => M.ret (.val (g i))
  | _ => M.bad
section
variable {K : PySem.W.Frag} {mg : Mg} {W : WX}
theorem k2_I {C : Int → Int → Prop} {g : Int → Int → Option D} {h : Int → Int → V} (hg : ∀ i j d, g i j = some d → C i j ∧ ∀ F, Rep K mg F (h i j) d) : K2 K mg W (rI C h) (kI2 g) := fun F H e σ x y d d' Q R rx ry h => by
  unfold kI2 at h
  split at h
  · rename_i i j
    cases q : g i j with
    | none => rw [q] at h; exact h.elim
    | some d => rw [q] at h; exact ⟨i, j, rx, ry, (hg i j d q).1, post_val R h ((hg i j d q).2 F)⟩
  · exact h.elim
theorem k2_I0 {g : Int → Int → D} {h : Int → Int → V} (hg : ∀ i j F, Rep K mg F (h i j) (g i j)) : K2 K mg W (rI0 h) (kI2 fun i j => some (g i j)) := fun F H e σ x y d d' Q R rx ry h => by
  unfold kI2 at h
  split at h
  · rename_i i j
    exact ⟨i, j, rx, ry, post_val R h (hg i j F)⟩
  · exact h.elim
theorem k1_I {g : Int → D} {h : Int → V} (hg : ∀ i F, Rep K mg F (h i) (g i)) : K1 K mg W (rU h) (kI1 g) := fun F H e σ x d Q R rx h => by
  unfold kI1 at h
  split at h
  · rename_i i
    exact ⟨i, rx, post_val R h (hg i F)⟩
  · exact h.elim
end
def subI : D → D → M RV := kI2 fun i j => some (.int (i - j))
def mulI : D → D → M RV := kI2 fun i j => if (-(2 ^ 64) < i ∧ i < 2 ^ 64) ∨ (-(2 ^ 64) < j ∧ j < 2 ^ 64) then some (.int (i * j)) else none
def fdivI : D → D → M RV := kI2 fun i j => if 0 < j ∧ j < 1073741824 then some (.int (i / j)) else none
def modI : D → D → M RV := kI2 fun i j => if 0 < j then some (.int (i % j)) else none
def powI : D → D → M RV := kI2 fun i j => if 0 ≤ j ∧ j ≤ 1000000 ∧ i.natAbs < 2 ^ 64 then some (.int (i ^ j.toNat)) else none
def ltI : D → D → M RV := kI2 fun i j => some (.bl (decide (i < j)))
def leI : D → D → M RV := kI2 fun i j => some (.bl (decide (i ≤ j)))
def gtI : D → D → M RV := kI2 fun i j => some (.bl (decide (j < i)))
def geI : D → D → M RV := kI2 fun i j => some (.bl (decide (j ≤ i)))
def negI : D → M RV := kI1 fun i => .int (-i)
section
variable {X : Cx} {W : WX} {a b : Expr} {f g : M RV} {pos : Pos}
theorem de_sub (ha : DE X W a f) (hb : DE X W b g) : DE X W (.BinOp a .Sub b pos) (rd2 f g subI) := de_bin op_sub (k2_I0 fun _ _ _ => .int _) ha hb
theorem de_mulI (ha : DE X W a f) (hb : DE X W b g) : DE X W (.BinOp a .Mult b pos) (rd2 f g mulI) := de_bin op_mul (k2_I fun i j d h => by
  split at h
  · rename_i c; cases h; exact ⟨c, fun _ => .int _⟩
  · cases h) ha hb
theorem de_fdiv (ha : DE X W a f) (hb : DE X W b g) : DE X W (.BinOp a .FloorDiv b pos) (rd2 f g fdivI) := de_bin op_fdiv (k2_I fun i j d h => by
  split at h
  · rename_i c; cases h; exact ⟨c, fun _ => .int _⟩
  · cases h) ha hb
theorem de_mod (ha : DE X W a f) (hb : DE X W b g) : DE X W (.BinOp a .Mod b pos) (rd2 f g modI) := de_bin op_mod (k2_I fun i j d h => by
  split at h
  · rename_i c; cases h; exact ⟨c, fun _ => .int _⟩
  · cases h) ha hb
theorem de_pow (ha : DE X W a f) (hb : DE X W b g) : DE X W (.BinOp a .Pow b pos) (rd2 f g powI) := de_bin op_pow (k2_I fun i j d h => by
  split at h
  · rename_i c; cases h; exact ⟨c, fun _ => .int _⟩
  · cases h) ha hb
theorem de_neg (ha : DE X W a f) : DE X W (.UnaryOp .USub a pos) (rd1 f negI) := de_un un_neg (k1_I fun _ _ => .int _) ha
theorem de_lt (ha : DE X W a f) (hb : DE X W b g) : DE X W (.Compare a [.Lt] [b] pos) (rd2 f g ltI) := de_cmp op_lt (k2_I0 fun _ _ _ => .bl _) ha hb (nomark _)
theorem de_le (ha : DE X W a f) (hb : DE X W b g) : DE X W (.Compare a [.LtE] [b] pos) (rd2 f g leI) := de_cmp op_le (k2_I0 fun _ _ _ => .bl _) ha hb (nomark _)
theorem de_gt (ha : DE X W a f) (hb : DE X W b g) : DE X W (.Compare a [.Gt] [b] pos) (rd2 f g gtI) := de_cmp op_gt (k2_I0 fun _ _ _ => .bl _) ha hb (nomark _)
theorem de_ge (ha : DE X W a f) (hb : DE X W b g) : DE X W (.Compare a [.GtE] [b] pos) (rd2 f g geI) := de_cmp op_ge (k2_I0 fun _ _ _ => .bl _) ha hb (nomark _)
theorem dt_lt (ha : DE X W a f) (hb : DE X W b g) : DT X W (.Compare a [.Lt] [b] pos) (asB (rd2 f g ltI)) := dt_cmp op_lt (k2_I0 fun _ _ _ => .bl _) ha hb (nomark _)
theorem dt_le (ha : DE X W a f) (hb : DE X W b g) : DT X W (.Compare a [.LtE] [b] pos) (asB (rd2 f g leI)) := dt_cmp op_le (k2_I0 fun _ _ _ => .bl _) ha hb (nomark _)
theorem dt_gt (ha : DE X W a f) (hb : DE X W b g) : DT X W (.Compare a [.Gt] [b] pos) (asB (rd2 f g gtI)) := dt_cmp op_gt (k2_I0 fun _ _ _ => .bl _) ha hb (nomark _)
theorem dt_ge (ha : DE X W a f) (hb : DE X W b g) : DT X W (.Compare a [.GtE] [b] pos) (asB (rd2 f g geI)) := dt_cmp op_ge (k2_I0 fun _ _ _ => .bl _) ha hb (nomark _)
end
end Y

set_option Elab.async false
set_option linter.all false
set_option maxRecDepth 100000
set_option maxHeartbeats 4000000
namespace Y
open PySem PySem.Spec L2
set_option autoImplicit false
variable [TB]
/-! ### data as the model's own -/
mutual
def toPy : D → Option PyData
  | .non => some .none
  | .bl b => some (.bool b)
  | .int i => some (.int i)
  | .str x => some (.str x)
  | .lst xs => (toPys xs).map .list
  | .tup xs => (toPys xs).map .tuple
  | .ins _ _ => none
  | .raw _ => none
  | .dK _ => none
  | .dT _ => none
  | .exc _ _ => none
  | .clo _ _ => none
  | .fnv _ => none
def toPys : List D → Option (List PyData)
  | [] => some []
  | d :: ds => match toPy d, toPys ds with
    | some a, some b => some (a :: b)
    | _, _ => none
end
mutual
theorem Rep.dp {K : PySem.W.Frag} {mg : Mg} {H : Hp} {v : V} {d : D} {p : PyData} : Rep K mg H v d → toPy d = some p → Dp K H v p
  | .non, e => by cases e; exact .non
  | .bl b, e => by cases e; exact .bl b
  | .int i, e => by cases e; exact .int i
  | .str x, e => by cases e; exact .str x
  | .raw v, e => by cases e
  | .ins _ _ _, e => by cases e
  | .dK _ _, e => by cases e
  | .dT _ _, e => by cases e
  | .exc _ _ _ _, e => by cases e
  | .clo _ _ _ _, e => by cases e
  | .fnv _, e => by cases e
  | .lst (ds := ds) a b, e => by
    unfold toPy at e
    cases q : toPys ds with
    | none => rw [q] at e; cases e
    | some xs => rw [q] at e; cases e; exact .lst a (Reps.dp b q)
  | .tup (ds := ds) a b, e => by
    unfold toPy at e
    cases q : toPys ds with
    | none => rw [q] at e; cases e
    | some xs => rw [q] at e; cases e; exact .tup a (Reps.dp b q)
theorem Reps.dp {K : PySem.W.Frag} {mg : Mg} {H : Hp} {vs : List V} {ds : List D} {ps : List PyData} : Reps K mg H vs ds → toPys ds = some ps → DpAll K H vs ps
  | .nil, e => by cases e; exact .nil
  | .cons (d := d) (ds := ds) a b, e => by
    unfold toPys at e
    cases q : toPy d with
    | none => rw [q] at e; cases e
    | some x =>
      cases q' : toPys ds with
      | none => rw [q, q'] at e; cases e
      | some xs => rw [q, q'] at e; cases e; exact .cons (Rep.dp a q) (Reps.dp b q')
end
def eqD (a b : D) : Option Bool := match toPy a, toPy b with
  | some x, some y => if SeqAt.shaped x = true ∧ SeqAt.shaped y = true then some (PyData.eqv x y) else none
  | _, _ => none
def kOB (g : D → D → Option Bool) : D → D → M RV := fun a b e => match g a b with
  | some c => .ok (.val (.bl c)) e
  | none => .bad
theorem kOB_some {K : PySem.W.Frag} {mg : Mg} {W : WX} {F H : Hp} {e : Sl} {σ : St} {Q : VK} {g : D → D → Option Bool} {a b : D} (h : post K mg W (rV K mg) F H e σ (kOB g a b e) Q) : ∃ c, g a b = some c ∧ post K mg W (rV K mg) F H e σ (.ok (.val (.bl c)) e) Q := by
  unfold kOB at h
  cases w : g a b with
  | none => rw [w] at h; exact h.elim
  | some c => rw [w] at h; exact ⟨c, rfl, h⟩
def eqK : D → D → M RV := kOB eqD
def neK : D → D → M RV := kOB fun a b => (eqD a b).map not
def inL (a b : D) : Option Bool := match toPy a, toPy b with
  | some x, some (.list ys) => if SeqAt.shaped x = true ∧ SeqAt.shaped (.list ys) = true then some (ys.any fun z => PyData.eqv z x) else none
  | some x, some (.tuple ys) => if SeqAt.shaped x = true ∧ SeqAt.shaped (.tuple ys) = true then some (ys.any fun z => PyData.eqv z x) else none
  | _, _ => none
def inK : D → D → M RV := kOB inL
def ninK : D → D → M RV := kOB fun a b => (inL a b).map not
section
variable {X : Cx} {W : WX} {a b : Expr} {f g : M RV} {pos : Pos}
def rInA (K : PySem.W.Frag) (neg : Bool) : R2 := fun x y H Q => ∃ d ds, Dp K H x d ∧ (Dp K H y (.list ds) ∨ Dp K H y (.tuple ds)) ∧ SeqAt.shaped d = true ∧ PyData.canLayAll0 ds = true ∧ Q (.bl (if neg then !ds.any (fun z => PyData.eqv z d) else ds.any fun z => PyData.eqv z d)) H
theorem op_inA (hu : X.A.units + 65 < cLine) : OpR X (compareOp .In) (rInA X.K false) := by
  intro pins s σ H x y v u Q I rx ry h
  obtain ⟨d, ds, hd, he, sd, se, q⟩ := h
  obtain ⟨as, r1⟩ := Dp.reads I d x v hd rx
  rcases he with he | he
  · obtain ⟨bs, r2⟩ := Dp.reads I _ y u he ry
    exact SeqAt.in_list_reads r2 r1 se (SeqAt.canLay_of_shaped sd) (PyProof.Rows.room_in_shaped sd hu) ⟨V.bl _, H, I, rfl, q⟩
  · obtain ⟨bs, r2⟩ := Dp.reads I _ y u he ry
    exact SeqAt.in_tuple_reads r2 r1 se (SeqAt.canLay_of_shaped sd) (PyProof.Rows.room_in_shaped sd hu) ⟨V.bl _, H, I, rfl, q⟩
theorem op_notInA (hu : X.A.units + 65 < cLine) : OpR X (compareOp .NotIn) (rInA X.K true) := by
  intro pins s σ H x y v u Q I rx ry h
  obtain ⟨d, ds, hd, he, sd, se, q⟩ := h
  obtain ⟨as, r1⟩ := Dp.reads I d x v hd rx
  rcases he with he | he
  · obtain ⟨bs, r2⟩ := Dp.reads I _ y u he ry
    exact SeqAt.notIn_list_reads r2 r1 se (SeqAt.canLay_of_shaped sd) (PyProof.Rows.room_in_shaped sd hu) ⟨V.bl _, H, I, rfl, q⟩
  · obtain ⟨bs, r2⟩ := Dp.reads I _ y u he ry
    exact SeqAt.notIn_tuple_reads r2 r1 se (SeqAt.canLay_of_shaped sd) (PyProof.Rows.room_in_shaped sd hu) ⟨V.bl _, H, I, rfl, q⟩
theorem eqD_some {K : PySem.W.Frag} {mg : Mg} {F H : Hp} {x y : V} {d d' : D} {c : Bool} (s : Same F H) (rx : RdOk K mg F H x d) (ry : RdOk K mg F H y d') (h : eqD d d' = some c) :
    ∃ p q, Dp K H x p ∧ Dp K H y q ∧ SeqAt.shaped p = true ∧ SeqAt.shaped q = true ∧ c = PyData.eqv p q := by
  unfold eqD at h
  split at h
  · rename_i p q ep eq
    split at h
    · rename_i c
      cases h
      exact ⟨p, q, (rx.rep s).dp ep, (ry.rep s).dp eq, c.1, c.2, rfl⟩
    · cases h
  · cases h
theorem k2_eq {K : PySem.W.Frag} {mg : Mg} : K2 K mg W (rEqD K) eqK := fun F H e σ x y d d' Q R rx ry h => by
  obtain ⟨c, w, h⟩ := kOB_some h
  obtain ⟨p, q, h1, h2, h3, h4, rfl⟩ := eqD_some R.sub rx ry w
  exact ⟨p, q, h1, h2, h3, h4, post_val R h (.bl _)⟩
theorem k2_ne {K : PySem.W.Frag} {mg : Mg} : K2 K mg W (rNeD K) neK := fun F H e σ x y d d' Q R rx ry h => by
  obtain ⟨c, w, h⟩ := kOB_some h
  obtain ⟨c', w', rfl⟩ := Option.map_eq_some_iff.mp w
  obtain ⟨p, q, h1, h2, h3, h4, rfl⟩ := eqD_some R.sub rx ry w'
  exact ⟨p, q, h1, h2, h3, h4, post_val R h (.bl _)⟩
theorem toPy_lst {b : D} {ys : List PyData} (h : toPy b = some (.list ys)) : ∃ ds, b = .lst ds ∧ toPys ds = some ys := by
  cases b with
  | lst ds =>
    unfold toPy at h
    obtain ⟨zs, q, e⟩ := Option.map_eq_some_iff.mp h
    cases e
    exact ⟨ds, rfl, q⟩
  | tup ds =>
    unfold toPy at h
    obtain ⟨zs, q, e⟩ := Option.map_eq_some_iff.mp h
    cases e
  | _ => simp [toPy] at h
theorem inL_some {K : PySem.W.Frag} {mg : Mg} {F H : Hp} {x y : V} {d d' : D} {c : Bool} (s : Same F H) (rx : RdOk K mg F H x d) (ry : RdOk K mg F H y d') (h : inL d d' = some c) :
    ∃ p ds, Dp K H x p ∧ (Dp K H y (.list ds) ∨ Dp K H y (.tuple ds)) ∧ SeqAt.shaped p = true ∧ PyData.canLayAll0 ds = true ∧ c = ds.any (fun z => PyData.eqv z p) := by
  unfold inL at h
  split at h
  · rename_i p ys ep eq
    split at h
    · rename_i c
      cases h
      exact ⟨p, ys, (rx.rep s).dp ep, .inl ((ry.rep s).dp eq), c.1, SeqAt.canLay_of_shaped c.2, rfl⟩
    · cases h
  · rename_i p ys ep eq
    split at h
    · rename_i c
      cases h
      exact ⟨p, ys, (rx.rep s).dp ep, .inr ((ry.rep s).dp eq), c.1, SeqAt.canLay_of_shaped c.2, rfl⟩
    · cases h
  · cases h
theorem k2_in {K : PySem.W.Frag} {mg : Mg} : K2 K mg W (rInA K false) inK := fun F H e σ x y d d' Q R rx ry h => by
  obtain ⟨c, w, h⟩ := kOB_some h
  obtain ⟨p, q, h1, h2, h3, h4, rfl⟩ := inL_some R.sub rx ry w
  exact ⟨p, q, h1, h2, h3, h4, post_val R h (.bl _)⟩
theorem k2_nin {K : PySem.W.Frag} {mg : Mg} : K2 K mg W (rInA K true) ninK := fun F H e σ x y d d' Q R rx ry h => by
  obtain ⟨c, w, h⟩ := kOB_some h
  obtain ⟨c', w', rfl⟩ := Option.map_eq_some_iff.mp w
  obtain ⟨p, q, h1, h2, h3, h4, rfl⟩ := inL_some R.sub rx ry w'
  exact ⟨p, q, h1, h2, h3, h4, post_val R h (.bl _)⟩
variable {k : Nat}
theorem de_eq (hr : Room k X.A) (ha : DE X W a f) (hb : DE X W b g) : DE X W (.Compare a [.Eq] [b] pos) (rd2 f g eqK) := de_cmp (op_eqD hr.units) k2_eq ha hb (nomark _)
theorem de_ne (hr : Room k X.A) (ha : DE X W a f) (hb : DE X W b g) : DE X W (.Compare a [.NotEq] [b] pos) (rd2 f g neK) := de_cmp (op_neD hr.units) k2_ne ha hb (nomark _)
theorem dt_eq (hr : Room k X.A) (ha : DE X W a f) (hb : DE X W b g) : DT X W (.Compare a [.Eq] [b] pos) (asB (rd2 f g eqK)) := dt_cmp (op_eqD hr.units) k2_eq ha hb (nomark _)
theorem dt_ne (hr : Room k X.A) (ha : DE X W a f) (hb : DE X W b g) : DT X W (.Compare a [.NotEq] [b] pos) (asB (rd2 f g neK)) := dt_cmp (op_neD hr.units) k2_ne ha hb (nomark _)
theorem room65 {A : Around} (hr : Room k A) : A.units + 65 < cLine := by have := hr.un; omega
theorem de_in (hr : Room k X.A) (ha : DE X W a f) (hb : DE X W b g) (hm : behindInMarks .In b = false := by rfl) : DE X W (.Compare a [.In] [b] pos) (rd2 f g inK) := de_cmp (op_inA (room65 hr)) k2_in ha hb hm
theorem de_nin (hr : Room k X.A) (ha : DE X W a f) (hb : DE X W b g) (hm : behindInMarks .NotIn b = false := by rfl) : DE X W (.Compare a [.NotIn] [b] pos) (rd2 f g ninK) := de_cmp (op_notInA (room65 hr)) k2_nin ha hb hm
theorem dt_in (hr : Room k X.A) (ha : DE X W a f) (hb : DE X W b g) (hm : behindInMarks .In b = false := by rfl) : DT X W (.Compare a [.In] [b] pos) (asB (rd2 f g inK)) := dt_cmp (op_inA (room65 hr)) k2_in ha hb hm
theorem dt_nin (hr : Room k X.A) (ha : DE X W a f) (hb : DE X W b g) (hm : behindInMarks .NotIn b = false := by rfl) : DT X W (.Compare a [.NotIn] [b] pos) (asB (rd2 f g ninK)) := dt_cmp (op_notInA (room65 hr)) k2_nin ha hb hm
/-! ### is None -/
def isN : D → M RV
  | .non => M.ret (.val (.bl true))
  | .raw _ => M.bad
  | _ => M.ret (.val (.bl false))
def notN : D → M RV
  | .non => M.ret (.val (.bl false))
  | .raw _ => M.bad
  | _ => M.ret (.val (.bl true))
theorem rd_non {K : PySem.W.Frag} {mg : Mg} {F H : Hp} {x : V} {d : D} (rx : RdOk K mg F H x d) (hr : ∀ v, d ≠ .raw v) : x = .non ↔ d = .non := by
  cases d with
  | non => exact ⟨fun _ => rfl, fun _ => rx⟩
  | raw v => exact absurd rfl (hr v)
  | bl b => cases rx; exact ⟨fun z => (by cases z), fun z => (by cases z)⟩
  | int b => cases rx; exact ⟨fun z => (by cases z), fun z => (by cases z)⟩
  | str b => cases rx; exact ⟨fun z => (by cases z), fun z => (by cases z)⟩
  | lst b => obtain ⟨_, _, rfl, _⟩ := rx; exact ⟨fun z => (by cases z), fun z => (by cases z)⟩
  | tup b => obtain ⟨_, _, rfl, _⟩ := rx; exact ⟨fun z => (by cases z), fun z => (by cases z)⟩
  | ins b c => obtain ⟨_, _, _, _, rfl, _⟩ := rx; exact ⟨fun z => (by cases z), fun z => (by cases z)⟩
  | dK b => obtain ⟨_, _, rfl, _⟩ := rx; exact ⟨fun z => (by cases z), fun z => (by cases z)⟩
  | dT b => obtain ⟨_, _, rfl, _⟩ := rx; exact ⟨fun z => (by cases z), fun z => (by cases z)⟩
  | exc b c => obtain ⟨_, _, _, _, rfl, _⟩ := rx; exact ⟨fun z => (by cases z), fun z => (by cases z)⟩
  | clo b c => obtain ⟨_, _, _, rfl, _⟩ := rx; exact ⟨fun z => (by cases z), fun z => (by cases z)⟩
  | fnv b => obtain ⟨_, rfl, _⟩ := rx; exact ⟨fun z => (by cases z), fun z => (by cases z)⟩
theorem isN_ok {σ : St} {H : Hp} {Q : VK} (h : cE X.K X.mg W (rd1 f isN) σ H Q) : cE X.K X.mg W f σ H fun x H1 => Q (.bl (decide (x = .non))) H1 :=
  rd1_ok (r := fun x H Q => Q (.bl (decide (x = .non))) H) (fun F H e σ x d Q R rx h => by
    cases d with
    | raw v => exact h.elim
    | non => cases rx; exact post_val R h (.bl true)
    | _ =>
      have z : ¬ x = .non := fun y => by have := (rd_non rx (by intro v q; cases q)).mp y; cases this
      rw [decide_eq_false z]
      exact post_val R h (.bl false)) h
theorem notN_ok {σ : St} {H : Hp} {Q : VK} (h : cE X.K X.mg W (rd1 f notN) σ H Q) : cE X.K X.mg W f σ H fun x H1 => Q (.bl (!decide (x = .non))) H1 :=
  rd1_ok (r := fun x H Q => Q (.bl (!decide (x = .non))) H) (fun F H e σ x d Q R rx h => by
    cases d with
    | raw v => exact h.elim
    | non => cases rx; exact post_val R h (.bl false)
    | _ =>
      have z : ¬ x = .non := fun y => by have := (rd_non rx (by intro v q; cases q)).mp y; cases this
      rw [decide_eq_false z]
      exact post_val R h (.bl true)) h
variable {j : Nat} {pos' : Pos}
theorem de_isN (ha : DE X W a f) : DE X W (.Compare a [.Is] [.Constant .none j pos'] pos) (rd1 f isN) := peW (pe_cmp (pc_isN ha)) fun _ _ _ h => isN_ok h
theorem de_notN (ha : DE X W a f) : DE X W (.Compare a [.IsNot] [.Constant .none j pos'] pos) (rd1 f notN) := peW (pe_cmp (pc_notN ha)) fun _ _ _ h => notN_ok h
theorem dt_isN (ha : DE X W a f) : DT X W (.Compare a [.Is] [.Constant .none j pos'] pos) (asB (rd1 f isN)) := ptW (pt_cmp (pc_isN ha)) fun _ _ _ h => isN_ok (asB_ok h)
theorem dt_notN (ha : DE X W a f) : DT X W (.Compare a [.IsNot] [.Constant .none j pos'] pos) (asB (rd1 f notN)) := ptW (pt_cmp (pc_notN ha)) fun _ _ _ h => notN_ok (asB_ok h)
/-! ### chains of ints: a <= b <= c -/
def chI (p q : Int → Int → Bool) (f g h : M RV) : M RV := M.bind f fun r => M.bind g fun r' => fun e => match rdat e r, rdat e r' with
  | some (.int i), some (.int j) => if p i j then (M.bind h fun r'' => fun e => match rdat e r'' with
    | some (.int l) => .ok (.val (.bl (q j l))) e
    | _ => .bad) e else .ok (.val (.bl false)) e
  | _, _ => .bad
theorem chI_ok {K : PySem.W.Frag} {mg : Mg} {p q : Int → Int → Bool} {h : M RV} {σ : St} {H : Hp} {Q : VK} (z : cE K mg W (chI p q f g h) σ H Q) :
    tChain (rI0 fun i j => .bl (p i j)) (rI0 fun i j => .bl (q i j)) (cE K mg W f) (cE K mg W g) (cE K mg W h) σ H Q := by
  obtain ⟨e, F, R, z⟩ := z
  refine ⟨e, F, R, post_imp (post_seq up_V z) ?_⟩
  rintro x H1 ⟨r1, e1, F1, q1, R1, s1, z1⟩
  refine ⟨e1, F1, R1, post_imp (post_seq up_V z1) ?_⟩
  rintro y H2 ⟨r2, e2, F2, q2, R2, s2, z2⟩
  have q1 := q1.step s2
  split at z2
  · rename_i i j wi wj
    refine ⟨i, j, R2.rd q1 wi, R2.rd q2 wj, p i j, rfl, ?_⟩
    cases c : p i j with
    | true =>
      rw [c] at z2
      refine iteT ⟨e2, F2, R2, post_imp (post_seq up_V z2) ?_⟩
      rintro w H3 ⟨r3, e3, F3, q3, R3, s3, z3⟩
      split at z3
      · rename_i l wl
        have q2' := q2.step s3
        exact ⟨j, l, R2.rd q2 wj, R3.rd q3 wl, post_val R3 z3 (.bl _)⟩
      · exact z3.elim
    | false =>
      rw [c] at z2
      exact iteF (post_val R2 z2 (.bl false))
  · exact z2.elim
end
end Y

set_option Elab.async false
set_option linter.all false
set_option maxRecDepth 100000
set_option maxHeartbeats 4000000
namespace Y
open PySem PySem.Spec L2
set_option autoImplicit false
variable [TB]
/-! ### arguments -/
def aV (f : M RV) : M RV := M.bind f fun r => M.bind (frz r) fun d => M.ret (.val d)
def aIO (i : Nat) : M RV := fun e => match e[i]? with
  | some (.own _ _) => .ok (.pk i) e
  | _ => .bad
def aNil : M (List RV) := M.ret []
def aCons (f : M RV) (g : M (List RV)) : M (List RV) := M.bind f fun r => M.bind g fun rs => M.ret (r :: rs)
section
variable {X : Cx} {W : WX} {a b : Expr} {es : List Expr} {f g : M RV} {fs : M (List RV)} {pos : Pos} {K : PySem.W.Frag} {mg : Mg}
theorem Args.mono {F F' : Hp} {σ : St} (s : Same F F') : ∀ {vs : List V} {rs : List RV}, Args K mg F σ vs rs → Args K mg F' σ vs rs
  | _, _, .nil => .nil
  | _, _, .cons (r := .val d) a b => .cons (show ArgOk K mg F' σ _ (.val d) from Rep.mono s a) (Args.mono s b)
  | _, _, .cons (r := .pk i) a b => .cons (show ArgOk K mg F' σ _ (.pk i) from a) (Args.mono s b)
  | _, _, .cons (r := .own c) a b => a.elim
/-- one more argument, by its canonical reading -/
theorem aCons_ok {σ : St} {H : Hp} {Q : List V → Hp → Prop} (h : cA K mg W (aCons (aV f) fs) σ H Q) : cE K mg W f σ H fun x H1 => cA K mg W fs σ H1 fun xs H2 => Q (x :: xs) H2 := by
  obtain ⟨e, F, R, h⟩ := h
  unfold aCons aV at h
  rw [bind_assoc] at h
  refine ⟨e, F, R, post_imp (post_seq0 h) ?_⟩
  rintro x H1 ⟨r1, e1, F1, q1, R1, s1, h1⟩
  rw [bind_assoc] at h1
  cases w : frz r1 e1 with
  | bad => unfold M.bind at h1; rw [w] at h1; exact h1.elim
  | ex x e' => exact (frz_noex w).elim
  | ok d e2 =>
    obtain ⟨F2, s2, R2, q2⟩ := frz_ok R1 q1 w s1
    have h2 : post K mg W (rA K mg) F H e σ ((M.bind fs fun rs => M.ret (RV.val d :: rs)) e2) Q := by
      have z := h1
      unfold M.bind at z
      rw [w] at z
      exact z
    refine ⟨e2, F2, R2, post_imp (post_seq up_A (post_from up_A s2 h2)) ?_⟩
    rintro xs H3 ⟨rs, e3, F3, q3, R3, s3, h3⟩
    exact post_ret R3 h3 (.cons (show ArgOk K mg F3 σ x (.val d) from q2.mono s3.fro) q3)
theorem da_nil : DA X W [] aNil := paW pa_nil fun σ H Q ⟨e, F, R, h⟩ => post_ret R h .nil
theorem da_cons (ha : DE X W a f) (hr : DA X W es fs) (hs : starEach (a :: es) X.env = (false, eval a X.env) :: starEach es X.env := by rfl) : DA X W (a :: es) (aCons (aV f) fs) :=
  paW (pa_cons ha hr hs) fun _ _ _ h => aCons_ok h
/-- a slot is lent -/
theorem da_lend (i : Nat) {x : Str} (hr : DA X W es fs) (hN : X.N[i]? = some x := by rfl) (hv : Vis X.env.scope x := by first | exact Or.inl rfl | exact Or.inr (Or.inl rfl) | exact Or.inr (Or.inr rfl)) (hd : (x == ("__debug__" : Str)) = false := by decide)
    (hcd : (x == ("__classdict__" : Str)) = false := by decide) (hs : starEach (.Name x pos :: es) X.env = (false, eval (.Name x pos) X.env) :: starEach es X.env := by rfl) : DA X W (.Name x pos :: es) (aCons (aIO i) fs) :=
  paW (pa_cons (pe_var hN hv hd hcd) hr hs) fun σ H Q ⟨e, F, R, h⟩ => by
    unfold aCons M.bind aIO at h
    cases es : e[i]? with
    | none => rw [es] at h; exact h.elim
    | some s =>
      cases s with
      | no => rw [es] at h; exact h.elim
      | val d => rw [es] at h; exact h.elim
      | own fx c =>
        rw [es] at h
        have hl : i < σ.length := by rw [← R.len]; exact (List.getElem?_eq_some_iff.mp es).1
        obtain ⟨p, o, h1, _⟩ := R.ok i _ _ es (List.getElem?_eq_getElem hl)
        have hs : σ[i]? = some (some (.ref p)) := by rw [List.getElem?_eq_getElem hl, h1]
        refine ⟨_, hs, e, F, R, post_imp (post_seq (k := fun rs => M.ret (RV.pk i :: rs)) up_A h) ?_⟩
        rintro xs H3 ⟨rs, e3, F3, q3, R3, s3, h3⟩
        exact post_ret R3 h3 (.cons (show ArgOk X.K X.mg F3 σ _ (.pk i) from hs) q3)
end
/-! ### displays -/
def valsOf : List RV → Option (List D)
  | [] => some []
  | .val d :: rs => (valsOf rs).map (d :: ·)
  | _ => none
theorem Args.reps {K : PySem.W.Frag} {mg : Mg} {F : Hp} {σ : St} : ∀ {vs : List V} {rs : List RV} {ds : List D}, Args K mg F σ vs rs → valsOf rs = some ds → Reps K mg F vs ds
  | _, _, _, .nil, e => by cases e; exact .nil
  | _, _, _, .cons (r := .val d) (rs := rs) a b, e => by
    unfold valsOf at e
    obtain ⟨zs, q, e⟩ := Option.map_eq_some_iff.mp e
    subst e
    exact .cons a (Args.reps b q)
  | _, _, _, .cons (r := .pk i) a b, e => by cases e
  | _, _, _, .cons (r := .own c) a b, e => a.elim
def eTup (g : M (List RV)) : M RV := M.bind g fun rs => fun e => match valsOf rs with
  | some ds => if ds.length ≤ sizeLine then .ok (.val (.tup ds)) e else .bad
  | none => .bad
def eLst (g : M (List RV)) : M RV := M.bind g fun rs => fun e => match valsOf rs with
  | some ds => if ds.length ≤ sizeLine then .ok (.own (.lst ds)) e else .bad
  | none => .bad
section
variable {X : Cx} {W : WX} {a b c : Expr} {es : List Expr} {f g h : M RV} {fs : M (List RV)} {pos : Pos}
theorem de_tup {j : Nat} (h : DA X W es fs) : DE X W (.Tuple es j pos) (eTup fs) := peW (pe_tup h) fun σ H Q ⟨e, F, R, h⟩ => by
  refine ⟨e, F, R, post_imp (post_seq up_V h) ?_⟩
  rintro xs H1 ⟨rs, e1, F1, q1, R1, s1, h1⟩
  cases w : valsOf rs with
  | none => rw [w] at h1; exact h1.elim
  | some ds =>
    rw [w] at h1
    dsimp only at h1
    split at h1
    · have rp := q1.reps w
      exact ⟨by rw [rp.length]; assumption, fun p hp => post_newT R1 h1 rp hp⟩
    · exact h1.elim
theorem de_lst (h : DA X W es fs) : DE X W (.List es pos) (eLst fs) := peW (pe_lst h) fun σ H Q ⟨e, F, R, h⟩ => by
  refine ⟨e, F, R, post_imp (post_seq up_V h) ?_⟩
  rintro xs H1 ⟨rs, e1, F1, q1, R1, s1, h1⟩
  cases w : valsOf rs with
  | none => rw [w] at h1; exact h1.elim
  | some ds =>
    rw [w] at h1
    dsimp only at h1
    split at h1
    · have rp := q1.reps w
      exact ⟨by rw [rp.length]; assumption, fun p hp => post_newL R1 h1 rp hp⟩
    · exact h1.elim
/-! ### + -/
def rCatS (K : PySem.W.Frag) : R2 := fun x y H Q => ∃ l b xs zs, x = .ref l ∧ y = .ref b ∧ SqL K H l xs ∧ SqL K H b zs ∧ xs.length + zs.length ≤ sizeLine ∧ ∀ p, H p = none → Q (.ref p) (upd H p (.lst (xs ++ zs)))
theorem op_catS : OpR X (binaryOp .Add) (rCatS X.K) := by
  intro pins s σ H x y v u Q I rx ry h
  obtain ⟨l, b, xs, zs, rfl, rfl, hH, hB, hz, q⟩ := h
  cases rx
  cases ry
  obtain ⟨its, r, pl, _⟩ := I.list hH
  obtain ⟨its2, r2, pl2, _⟩ := I.list hB
  obtain ⟨⟨cls, dd, data, sl⟩, ho, hc, n, hd⟩ := pl.isList
  obtain ⟨⟨cls2, dd2, data2, sl2⟩, ho2, hc2, n2, hd2⟩ := pl2.isList
  simp only at hc hd hc2 hd2
  subst hc hd hc2 hd2
  have hl := r.length
  have hl2 := r2.length
  have ea : its.toArray ++ its2.toArray = (its ++ its2).toArray := by simp
  refine PySem.concat_meets ⟨_, ho, rfl⟩ ⟨_, ho2, rfl⟩ PySem.noFill_list_add PySem.seq_list_add PySem.F.slot_list_add PySem.F.entry_list_add (PySem.F.args_list_add_2 _ _)
    (PyProof.Rows.list_addW l b its.toArray its2.toArray n n2 dd dd2 sl sl2 (by rw [List.size_toArray, List.size_toArray]; omega)) ⟨ho, ho2, ?_⟩
  rw [ea]
  exact ⟨V.ref _, _, I.lnew (t' := s.toks) (r.append r2) (by rw [List.length_append]; omega), rfl, q _ I.fresh⟩
def addK : D → D → M RV
  | .int i, .int j => fun e => .ok (.val (.int (i + j))) e
  | .lst xs, .lst ys => fun e => if xs.length + ys.length ≤ sizeLine then .ok (.own (.lst (xs ++ ys))) e else .bad
  | .tup xs, .tup ys => fun e => if xs.length + ys.length ≤ sizeLine then .ok (.val (.tup (xs ++ ys))) e else .bad
  | .str x, .str y => fun e => if x.length + y.length ≤ sizeLine then .ok (.val (.str (x ++ y))) e else .bad
  | _, _ => M.bad
theorem rd_tup {K : PySem.W.Frag} {mg : Mg} {F H : Hp} {x : V} {ds : List D} (r : RdOk K mg F H x (.tup ds)) : Rep K mg F x (.tup ds) := by
  obtain ⟨a, vs, rfl, q, p⟩ := r
  exact .tup q p
theorem k2_add {K : PySem.W.Frag} {mg : Mg} : K2 K mg W (fun x y H Q => (rI0 fun i j => .int (i + j)) x y H Q ∨ rCatS K x y H Q ∨ rCatA K x y H Q ∨ ∃ i j, x = .str i ∧ y = .str j ∧ i.length + j.length ≤ sizeLine ∧ Q (.str (i ++ j)) H) addK := fun F H e σ x y d d' Q R rx ry h => by
  unfold addK at h
  split at h
  · rename_i i j
    exact .inl ⟨i, j, rx, ry, post_val R h (.int _)⟩
  · rename_i xs ys
    split at h
    · rename_i c
      obtain ⟨l, vs, rfl, q1, p1⟩ := rx
      obtain ⟨b, ws, rfl, q2, p2⟩ := ry
      exact .inr (.inl ⟨l, b, vs, ws, rfl, rfl, q1, q2, by rw [p1.length, p2.length]; exact c, fun p hp => post_newL R h (p1.append p2) hp⟩)
    · exact h.elim
  · rename_i xs ys
    split at h
    · rename_i c
      have tx := rd_tup rx
      have ty := rd_tup ry
      obtain ⟨l, vs, rfl, q1, p1⟩ := rx
      obtain ⟨b, ws, rfl, q2, p2⟩ := ry
      refine .inr (.inr (.inl ⟨l, b, vs, ws, rfl, rfl, sqT_mono R.sub q1, sqT_mono R.sub q2, by rw [p1.length, p2.length]; exact c, fun z => ?_, fun z z' => ?_, fun z z' p hp => post_newT R h (p1.append p2) hp⟩))
      · subst z
        cases p1
        exact post_val R h ty
      · subst z'
        cases p2
        rw [List.append_nil] at h
        exact post_val R h tx
    · exact h.elim
  · rename_i i j
    split at h
    · rename_i c
      exact .inr (.inr (.inr ⟨i, j, rx, ry, c, post_val R h (.str _)⟩))
    · exact h.elim
  · exact h.elim
theorem de_add (ha : DE X W a f) (hb : DE X W b g) : DE X W (.BinOp a .Add b pos) (rd2 f g addK) := de_bin (op_add.or (op_catS.or (op_catA.or op_add_str))) k2_add ha hb
/-! ### subscripts and slices -/
def ixK : D → D → M RV
  | .lst xs, .int i => fun e => match atI xs i with
    | some d => .ok (.val d) e
    | none => .bad
  | .tup xs, .int i => fun e => match atI xs i with
    | some d => .ok (.val d) e
    | none => .bad
  | _, _ => M.bad
theorem Reps.atI {K : PySem.W.Frag} {mg : Mg} {F : Hp} {vs : List V} {ds : List D} {i : Int} {d : D} (r : Reps K mg F vs ds) (h : atI ds i = some d) : ∃ v, atI vs i = some v ∧ Rep K mg F v d := by
  unfold L2.atI at h ⊢
  rw [r.length]
  cases q : ixN ds.length i with
  | none => rw [q] at h; cases h
  | some j => rw [q] at h; exact Reps.get r h
theorem k2_ix {K : PySem.W.Frag} {mg : Mg} : K2 K mg W (rIx K) ixK := fun F H e σ x y d d' Q R rx ry h => by
  unfold ixK at h
  split at h
  · rename_i xs i
    obtain ⟨l, vs, rfl, q1, p1⟩ := rx
    cases w : atI xs i with
    | none => rw [w] at h; exact h.elim
    | some d =>
      rw [w] at h
      obtain ⟨v, h1, h2⟩ := p1.atI w
      exact .inl ⟨l, vs, i, v, rfl, ry, q1, h1, post_val R h h2⟩
  · rename_i xs i
    obtain ⟨l, vs, rfl, q1, p1⟩ := rx
    cases w : atI xs i with
    | none => rw [w] at h; exact h.elim
    | some d =>
      rw [w] at h
      obtain ⟨v, h1, h2⟩ := p1.atI w
      exact .inr (.inl ⟨l, vs, i, v, rfl, ry, sqT_mono R.sub q1, h1, post_val R h h2⟩)
  · exact h.elim
theorem de_ix (ha : DE X W a f) (hb : DE X W b g) (hs : PlainIx b := by exact fun _ _ => rfl) : DE X W (.Subscript a b pos) (rd2 f g ixK) := peW (pe_ix ix_seq ha hb hs) fun _ _ _ h => rd2_ok k2_ix h
def cutD {α : Type} (xs : List α) (lo hi : Option Int) : List α := (xs.drop (HT.sIx xs.length 0 lo)).take (HT.sIx xs.length xs.length hi - HT.sIx xs.length 0 lo)
def slK : D → Option Int → Option Int → M RV
  | .lst xs, lo, hi => fun e => .ok (.own (.lst (cutD xs lo hi))) e
  | .tup xs, lo, hi => fun e => .ok (.val (.tup (cutD xs lo hi))) e
  | _, _, _ => M.bad
def oNo : M (Option Int) := M.ret none
def oSome (f : M RV) : M (Option Int) := M.bind f fun r => fun e => match rdat e r with
  | some (.int i) => .ok (some i) e
  | _ => .bad
def eSl (f : M RV) (l u : M (Option Int)) : M RV := M.bind f fun r => M.bind l fun lo => M.bind u fun hi => fun e => match rdat e r with
  | some d => slK d lo hi e
  | none => .bad
abbrev rO : RR (Option Int) (Option Int) := fun _ _ _ _ _ b a => b = a
theorem up_O : Up rO := fun _ _ _ _ _ _ _ _ _ h => h
abbrev DO (X : Cx) (W : WX) (e : Option Expr) (f : M (Option Int)) : Prop := PO X e (cG X.K X.mg W rO f)
theorem poW {e : Option Expr} {t t' : TO} (h : PO X e t) (i : ∀ σ H Q, t' σ H Q → t σ H Q) : PO X e t' := ⟨fun pins s σ H Q I q => h.run pins s σ H Q I (i σ H Q q)⟩
theorem do_no : DO X W none oNo := poW po_none fun σ H Q ⟨e, F, R, h⟩ => post_ret R h rfl
theorem do_some (ha : DE X W a f) : DO X W (some a) (oSome f) := poW (po_some ha) fun σ H Q ⟨e, F, R, h⟩ => by
  refine ⟨e, F, R, post_imp (post_seq up_O h) ?_⟩
  rintro x H1 ⟨r1, e1, F1, q1, R1, s1, h1⟩
  split at h1
  · rename_i i w
    exact ⟨i, R1.rd q1 w, post_ret R1 h1 rfl⟩
  · exact h1.elim
theorem cut_reps {K : PySem.W.Frag} {mg : Mg} {F : Hp} {vs : List V} {ds : List D} {lo hi : Option Int} (r : Reps K mg F vs ds) : Reps K mg F (cutV vs lo hi) (cutD ds lo hi) := by
  unfold cutV cutD
  rw [r.length]
  exact (r.drop _).take _
theorem de_slice {lo hi : Option Expr} {l u : M (Option Int)} {p2 : Pos} (ha : DE X W a f) (hl : DO X W lo l) (hu : DO X W hi u) : DE X W (.Subscript a (.Slice lo hi none p2) pos) (eSl f l u) := peW (pe_slice (sl_list.or sl_tupA) ha hl hu) fun σ H Q ⟨e, F, R, h⟩ => by
  refine ⟨e, F, R, post_imp (post_seq up_V h) ?_⟩
  rintro x H1 ⟨r1, e1, F1, q1, R1, s1, h1⟩
  refine ⟨e1, F1, R1, post_imp (post_seq up_V h1) ?_⟩
  rintro lo H2 ⟨lo', e2, F2, q2, R2, s2, h2⟩
  cases q2
  refine ⟨e2, F2, R2, post_imp (post_seq up_V h2) ?_⟩
  rintro hi H3 ⟨hi', e3, F3, q3, R3, s3, h3⟩
  cases q3
  have q1 := (q1.step s2).step s3
  cases w : rdat e3 r1 with
  | none => rw [w] at h3; exact h3.elim
  | some d =>
    rw [w] at h3
    have rx := R3.rd q1 w
    unfold slK at h3
    dsimp only at h3
    split at h3
    · rename_i xs
      obtain ⟨p, vs, rfl, q1, p1⟩ := rx
      exact .inl ⟨p, vs, rfl, q1, fun z hz => post_newL R3 h3 (cut_reps p1) hz⟩
    · rename_i xs
      have tx := rd_tup rx
      obtain ⟨p, vs, rfl, q1, p1⟩ := rx
      refine .inr ⟨p, vs, rfl, sqT_mono R3.sub q1, fun ⟨z1, z2⟩ => ?_, fun _ z hz => post_newT R3 h3 (cut_reps p1) hz⟩
      rw [p1.length] at z1 z2
      have e : cutD xs lo hi = xs := by
        unfold cutD
        rw [z1, z2, List.drop_zero, Nat.sub_zero, List.take_length]
      rw [e] at h3
      exact post_val R3 h3 tx
    · exact h3.elim
/-! ### built-ins of one and two values -/
theorem de_b1 {id : String} {x : Str} {r : List V → Hp → VK → Prop} {k : D → M RV} {p : Pos} (hc : CallR X (.builtin id) r) (hk : K1 X.K X.mg W (fun x => r [x]) k) (hg : Gl X x) (hm : X.mg x = none) (hv : bootBuiltins x = some (.builtin id)) (ha : DE X W a f)
    (hn : x ≠ "__name__" := by decide) (hdb : (x == ("__debug__" : Str)) = false := by decide) (he : starEach [a] X.env = (false, eval a X.env) :: starEach [] X.env := by rfl) (hpl : (backTo pos (starEach [] X.env)).any (·.1) = false := by rfl) :
    DE X W (.Call (.Name x p) [a] [] pos) (rd1 f k) := peW (pe_callB hc hg hm hv (pa_cons ha pa_nil he) hn hdb he hpl) fun _ _ _ h => rd1_ok hk h
theorem de_t1 {T : String} {x : Str} {r : List V → Hp → VK → Prop} {k : D → M RV} {p : Pos} (hc : CallR X (.type T) r) (hk : K1 X.K X.mg W (fun x => r [x]) k) (hg : Gl X x) (hm : X.mg x = none) (hv : bootBuiltins x = some (.type T)) (ha : DE X W a f)
    (hn : x ≠ "__name__" := by decide) (hdb : (x == ("__debug__" : Str)) = false := by decide) (he : starEach [a] X.env = (false, eval a X.env) :: starEach [] X.env := by rfl) (hpl : (backTo pos (starEach [] X.env)).any (·.1) = false := by rfl) :
    DE X W (.Call (.Name x p) [a] [] pos) (rd1 f k) := peW (pe_callTy hc hg hm hv (pa_cons ha pa_nil he) hn hdb he hpl) fun _ _ _ h => rd1_ok hk h
theorem de_b2 {id : String} {x : Str} {r : List V → Hp → VK → Prop} {k : D → D → M RV} {p : Pos} (hc : CallR X (.builtin id) r) (hk : K2 X.K X.mg W (fun x y => r [x, y]) k) (hg : Gl X x) (hm : X.mg x = none) (hv : bootBuiltins x = some (.builtin id)) (ha : DE X W a f) (hb : DE X W b g)
    (hn : x ≠ "__name__" := by decide) (hdb : (x == ("__debug__" : Str)) = false := by decide) (he : starEach [a, b] X.env = (false, eval a X.env) :: starEach [b] X.env := by rfl) (he2 : starEach [b] X.env = (false, eval b X.env) :: starEach [] X.env := by rfl)
    (hpl : (backTo pos (starEach [b] X.env)).any (·.1) = false := by rfl) :
    DE X W (.Call (.Name x p) [a, b] [] pos) (rd2 f g k) := peW (pe_callB hc hg hm hv (pa_cons ha (pa_cons hb pa_nil he2) he) hn hdb he hpl) fun _ _ _ h => rd2_ok hk h
def lenK : D → M RV
  | .lst xs => fun e => .ok (.val (.int xs.length)) e
  | .tup xs => fun e => .ok (.val (.int xs.length)) e
  | _ => M.bad
theorem de_len {p : Pos} (hg : Gl X "len") (hm : X.mg "len" = none) (ha : DE X W a f) (he : starEach [a] X.env = (false, eval a X.env) :: starEach [] X.env := by rfl) (hpl : (backTo pos (starEach [] X.env)).any (·.1) = false := by rfl) :
    DE X W (.Call (.Name "len" p) [a] [] pos) (rd1 f lenK) := de_b1 call_len_seq (fun F H e σ x d Q R rx h => by
  unfold lenK at h
  split at h
  · obtain ⟨l, vs, rfl, q1, p1⟩ := rx
    exact ⟨l, vs, rfl, .inl q1, by rw [p1.length]; exact post_val R h (.int _)⟩
  · obtain ⟨l, vs, rfl, q1, p1⟩ := rx
    exact ⟨l, vs, rfl, .inr (sqT_mono R.sub q1), by rw [p1.length]; exact post_val R h (.int _)⟩
  · exact h.elim) hg hm PySem.boot_len ha (he := he) (hpl := hpl)
def intK : D → M RV
  | .int i => fun e => .ok (.val (.int i)) e
  | .bl b => fun e => .ok (.val (.int (if b then 1 else 0))) e
  | _ => M.bad
theorem de_intOf {p : Pos} (hg : Gl X "int") (hm : X.mg "int" = none) (ha : DE X W a f) (he : starEach [a] X.env = (false, eval a X.env) :: starEach [] X.env := by rfl) (hpl : (backTo pos (starEach [] X.env)).any (·.1) = false := by rfl) :
    DE X W (.Call (.Name "int" p) [a] [] pos) (rd1 f intK) := de_t1 call_int1 (fun F H e σ x d Q R rx h => by
  unfold intK at h
  split at h
  · rename_i i
    cases rx
    exact .inl ⟨i, rfl, post_val R h (.int _)⟩
  · rename_i b
    cases rx
    exact .inr ⟨b, rfl, post_val R h (.int _)⟩
  · exact h.elim) hg hm (by decide +kernel) ha (he := he) (hpl := hpl)
def tupK : D → M RV
  | .lst xs => fun e => .ok (.val (.tup xs)) e
  | .tup xs => fun e => .ok (.val (.tup xs)) e
  | _ => M.bad
theorem de_tupleOf {p : Pos} (hg : Gl X "tuple") (hm : X.mg "tuple" = none) (ha : DE X W a f) (he : starEach [a] X.env = (false, eval a X.env) :: starEach [] X.env := by rfl) (hpl : (backTo pos (starEach [] X.env)).any (·.1) = false := by rfl) :
    DE X W (.Call (.Name "tuple" p) [a] [] pos) (rd1 f tupK) := de_t1 call_tuple_of (fun F H e σ x d Q R rx h => by
  unfold tupK at h
  split at h
  · obtain ⟨l, vs, rfl, q1, p1⟩ := rx
    exact ⟨l, vs, rfl, .inl ⟨q1, fun p hp => post_newT R h p1 hp⟩⟩
  · have tx := rd_tup rx
    obtain ⟨l, vs, rfl, q1, p1⟩ := rx
    exact ⟨l, vs, rfl, .inr ⟨sqT_mono R.sub q1, post_val R h tx⟩⟩
  · exact h.elim) hg hm (by decide +kernel) ha (he := he) (hpl := hpl)
def lstK : D → M RV
  | .lst xs => fun e => .ok (.own (.lst xs)) e
  | .tup xs => fun e => .ok (.own (.lst xs)) e
  | _ => M.bad
theorem de_listOf {p : Pos} (hg : Gl X "list") (hm : X.mg "list" = none) (ha : DE X W a f) (he : starEach [a] X.env = (false, eval a X.env) :: starEach [] X.env := by rfl) (hpl : (backTo pos (starEach [] X.env)).any (·.1) = false := by rfl) :
    DE X W (.Call (.Name "list" p) [a] [] pos) (rd1 f lstK) := de_t1 call_list_of (fun F H e σ x d Q R rx h => by
  unfold lstK at h
  split at h
  · obtain ⟨l, vs, rfl, q1, p1⟩ := rx
    exact ⟨l, vs, rfl, .inl q1, fun p hp => post_newL R h p1 hp⟩
  · obtain ⟨l, vs, rfl, q1, p1⟩ := rx
    exact ⟨l, vs, rfl, .inr (sqT_mono R.sub q1), fun p hp => post_newL R h p1 hp⟩
  · exact h.elim) hg hm (by decide +kernel) ha (he := he) (hpl := hpl)
def intsOf : List D → Option (List Int)
  | [] => some []
  | .int i :: r => (intsOf r).map (i :: ·)
  | _ => none
theorem Reps.ints {K : PySem.W.Frag} {mg : Mg} {F : Hp} : ∀ {vs : List V} {ds : List D} {ns : List Int}, Reps K mg F vs ds → intsOf ds = some ns → vs = ns.map V.int
  | _, _, _, .nil, e => by cases e; rfl
  | _, _, _, .cons (.int i) b, e => by
    unfold intsOf at e
    obtain ⟨zs, q, e⟩ := Option.map_eq_some_iff.mp e
    subst e
    rw [Reps.ints b q]
    rfl
  | _, _, _, .cons .non b, e => by cases e
  | _, _, _, .cons (.bl _) b, e => by cases e
  | _, _, _, .cons (.str _) b, e => by cases e
  | _, _, _, .cons (.raw _) b, e => by cases e
  | _, _, _, .cons (.lst _ _) b, e => by cases e
  | _, _, _, .cons (.tup _ _) b, e => by cases e
  | _, _, _, .cons (.ins _ _ _) b, e => by cases e
def sumK : D → M RV
  | .lst xs => fun e => match intsOf xs with
    | some ns => .ok (.val (.int ns.sum)) e
    | none => .bad
  | _ => M.bad
theorem de_sum {p : Pos} (hc : X.calm = true) (hg : Gl X "sum") (hm : X.mg "sum" = none) (ha : DE X W a f) (he : starEach [a] X.env = (false, eval a X.env) :: starEach [] X.env := by rfl) (hpl : (backTo pos (starEach [] X.env)).any (·.1) = false := by rfl) :
    DE X W (.Call (.Name "sum" p) [a] [] pos) (rd1 f sumK) := de_b1 (cr_sum hc) (fun F H e σ x d Q R rx h => by
  unfold sumK at h
  split at h
  · rename_i xs
    cases w : intsOf xs with
    | none => rw [w] at h; exact h.elim
    | some ns =>
      rw [w] at h
      obtain ⟨l, vs, rfl, q1, p1⟩ := rx
      exact ⟨l, ns, rfl, by rw [← p1.ints w]; exact q1, post_val R h (.int _)⟩
  · exact h.elim) hg hm (by decide +kernel) ha (he := he) (hpl := hpl)
def max2 : D → D → M RV := kI2 fun i j => some (.int (if j > i then j else i))
def min2 : D → D → M RV := kI2 fun i j => some (.int (if j < i then j else i))
theorem k2_call {K : PySem.W.Frag} {mg : Mg} {h : Int → Int → V} {g : Int → Int → D} (hg : ∀ i j F, Rep K mg F (h i j) (g i j)) : K2 K mg W (fun x y H Q => ∃ i j, [x, y] = [V.int i, V.int j] ∧ Q (h i j) H) (kI2 fun i j => some (g i j)) := fun F H e σ x y d d' Q R rx ry h => by
  unfold kI2 at h
  split at h
  · rename_i i j
    cases rx
    cases ry
    exact ⟨i, j, rfl, post_val R h (hg i j F)⟩
  · exact h.elim
theorem de_max2 {p : Pos} (hc : X.calm = true) (hg : Gl X "max") (hm : X.mg "max" = none) (ha : DE X W a f) (hb : DE X W b g) (he : starEach [a, b] X.env = (false, eval a X.env) :: starEach [b] X.env := by rfl) (he2 : starEach [b] X.env = (false, eval b X.env) :: starEach [] X.env := by rfl)
    (hpl : (backTo pos (starEach [b] X.env)).any (·.1) = false := by rfl) : DE X W (.Call (.Name "max" p) [a, b] [] pos) (rd2 f g max2) := de_b2 (call_max2 hc) (k2_call fun _ _ _ => .int _) hg hm (by decide +kernel) ha hb (he := he) (he2 := he2) (hpl := hpl)
theorem de_min2 {p : Pos} (hc : X.calm = true) (hg : Gl X "min") (hm : X.mg "min" = none) (ha : DE X W a f) (hb : DE X W b g) (he : starEach [a, b] X.env = (false, eval a X.env) :: starEach [b] X.env := by rfl) (he2 : starEach [b] X.env = (false, eval b X.env) :: starEach [] X.env := by rfl)
    (hpl : (backTo pos (starEach [b] X.env)).any (·.1) = false := by rfl) : DE X W (.Call (.Name "min" p) [a, b] [] pos) (rd2 f g min2) := de_b2 (call_min2 hc) (k2_call fun _ _ _ => .int _) hg hm (by decide +kernel) ha hb (he := he) (he2 := he2) (hpl := hpl)
def dmK : D → D → M RV := kI2 fun i j => if 0 < j ∧ j < 1073741824 then some (.tup [.int (i / j), .int (i % j)]) else none
theorem de_divmod {p : Pos} (hg : Gl X "divmod") (hm : X.mg "divmod" = none) (ha : DE X W a f) (hb : DE X W b g) (he : starEach [a, b] X.env = (false, eval a X.env) :: starEach [b] X.env := by rfl) (he2 : starEach [b] X.env = (false, eval b X.env) :: starEach [] X.env := by rfl)
    (hpl : (backTo pos (starEach [b] X.env)).any (·.1) = false := by rfl) : DE X W (.Call (.Name "divmod" p) [a, b] [] pos) (rd2 f g dmK) := de_b2 call_divmod (fun F H e σ x y d d' Q R rx ry h => by
  unfold dmK kI2 at h
  split at h
  · rename_i i j
    cases rx
    cases ry
    dsimp only at h
    by_cases c : 0 < j ∧ j < 1073741824
    · rw [if_pos c] at h
      exact ⟨i, j, rfl, c, fun p hp => post_newT R h (.cons (.int _) (.cons (.int _) .nil)) hp⟩
    · rw [if_neg c] at h; exact h.elim
  · exact h.elim) hg hm (by decide +kernel) ha hb (he := he) (he2 := he2) (hpl := hpl)
end
end Y

set_option Elab.async false
set_option linter.all false
set_option maxRecDepth 100000
set_option maxHeartbeats 4000000
namespace Y
open PySem PySem.Spec L2
set_option autoImplicit false
variable [TB]
/-! ### storing into slots -/
section
variable {K : PySem.W.Frag} {mg : Mg} {F H F0 H0 : Hp} {e e0 : Sl} {σ σ0 : St} {v : V} {d : D} {i : Nat}
theorem get_set_of {α : Type} {l : List α} {i j : Nat} {x y : α} (h : (l.set i x)[j]? = some y) : (i = j ∧ y = x) ∨ (i ≠ j ∧ l[j]? = some y) := by
  by_cases z : i = j
  · subst z
    rw [List.getElem?_set] at h
    split at h
    · split at h
      · cases h; exact .inl ⟨rfl, rfl⟩
      · cases h
    · exact absurd rfl (by assumption)
  · rw [List.getElem?_set_ne z] at h
    exact .inr ⟨z, h⟩
theorem Rel.put (R : Rel K mg F e σ H) (r : Rep K mg F v d) (hl : i < e.length) : Rel K mg F (e.set i (.val d)) (σ.set i (some v)) H where
  tab := R.tab
  ftb := R.ftb
  sub := R.sub
  len := by rw [List.length_set, List.length_set]; exact R.len
  ok := fun j s x es ex => by
    rcases get_set_of es with ⟨rfl, rfl⟩ | ⟨n, es⟩
    · rw [List.getElem?_set_self (by rw [← R.len]; exact hl)] at ex
      cases ex
      exact ⟨v, rfl, r⟩
    · rw [List.getElem?_set_ne n] at ex
      exact R.ok j s x es ex
  inj := fun j k f g c c' b ej ek sj sk => by
    rcases get_set_of ej with ⟨_, z⟩ | ⟨n, ej⟩
    · cases z
    · rcases get_set_of ek with ⟨_, z⟩ | ⟨n', ek⟩
      · cases z
      · rw [List.getElem?_set_ne n] at sj
        rw [List.getElem?_set_ne n'] at sk
        exact R.inj j k f g c c' b ej ek sj sk
theorem own_put {o : Option V} {b : Addr} (h : Own (e.set i (.val d)) (σ.set i o) b) : Own e σ b := by
  obtain ⟨j, f, c, h1, h2⟩ := h
  rcases get_set_of h1 with ⟨_, z⟩ | ⟨n, h1⟩
  · cases z
  · rw [List.getElem?_set_ne n] at h2
    exact ⟨j, f, c, h1, h2⟩
/-- slot i may be stored to -/
def Sto (e : Sl) (i : Nat) : Prop := i < e.length ∧ ∀ c, e[i]? ≠ some (.own true c)
def sto (e : Sl) (i : Nat) : Bool := match e[i]? with
  | none => false
  | some (.own true _) => false
  | _ => true
theorem sto_ok (h : sto e i = true) : Sto e i := by
  unfold sto at h
  split at h
  · cases h
  · cases h
  · rename_i h1 h2
    refine ⟨?_, fun c q => h2 c q⟩
    cases q : e[i]? with
    | none => exact absurd q h1
    | some s => exact (List.getElem?_eq_some_iff.mp q).1
theorem Stp.put (s : Stp F0 H0 e0 σ0 F H e σ) (h : Sto e i) {o : Option V} : Stp F0 H0 e0 σ0 F H (e.set i (.val d)) (σ.set i o) where
  fro := s.fro
  kept := s.kept
  dom := s.dom
  newF := s.newF
  newO := fun b q => s.newO b (own_put q)
  fix := fun j c q => by
    obtain ⟨⟨c', q1⟩, q2⟩ := s.fix j c q
    have n : i ≠ j := fun z => by subst z; exact h.2 _ q1
    exact ⟨⟨c', by rw [List.getElem?_set_ne n]; exact q1⟩, by rw [List.getElem?_set_ne n]; exact q2⟩
  len := by rw [List.length_set]; exact s.len
theorem Rel.putOwn (R : Rel K mg F e σ H) {a : Addr} {o : HO} {c : Cont} (hF : F a = none) (hH : H a = some o) (hc : ContOk K mg F c o) (hn : ¬ Own e σ a) (hl : i < e.length) : Rel K mg F (e.set i (.own false c)) (σ.set i (some (.ref a))) H where
  tab := R.tab
  ftb := R.ftb
  sub := R.sub
  len := by rw [List.length_set, List.length_set]; exact R.len
  ok := fun j s x es ex => by
    rcases get_set_of es with ⟨rfl, rfl⟩ | ⟨n, es⟩
    · rw [List.getElem?_set_self (by rw [← R.len]; exact hl)] at ex
      cases ex
      exact ⟨a, o, rfl, hF, hH, hc⟩
    · rw [List.getElem?_set_ne n] at ex
      exact R.ok j s x es ex
  inj := fun j k f g c1 c2 b ej ek sj sk => by
    have hs : i < σ.length := by rw [← R.len]; exact hl
    rcases get_set_of ej with ⟨rfl, z⟩ | ⟨n, ej⟩
    · rcases get_set_of ek with ⟨rfl, z'⟩ | ⟨n', ek⟩
      · rfl
      · rw [List.getElem?_set_self hs] at sj
        cases sj
        rw [List.getElem?_set_ne n'] at sk
        exact absurd ⟨k, g, c2, ek, sk⟩ hn
    · rw [List.getElem?_set_ne n] at sj
      rcases get_set_of ek with ⟨rfl, z'⟩ | ⟨n', ek⟩
      · rw [List.getElem?_set_self hs] at sk
        cases sk
        exact absurd ⟨j, f, c1, ej, sj⟩ hn
      · rw [List.getElem?_set_ne n'] at sk
        exact R.inj j k f g c1 c2 b ej ek sj sk
theorem Stp.putOwn (s : Stp F0 H0 e0 σ0 F H e σ) (h : Sto e i) (hl : e.length = σ.length) {a : Addr} {c : Cont} (hN : NM H0 e0 σ0 a) : Stp F0 H0 e0 σ0 F H (e.set i (.own false c)) (σ.set i (some (.ref a))) where
  fro := s.fro
  kept := s.kept
  dom := s.dom
  newF := s.newF
  newO := fun b ⟨j, f, c', h1, h2⟩ => by
    rcases get_set_of h1 with ⟨rfl, z⟩ | ⟨n, h1⟩
    · rw [List.getElem?_set_self (by rw [← hl]; exact h.1)] at h2
      cases h2
      exact hN
    · rw [List.getElem?_set_ne n] at h2
      exact s.newO b ⟨j, f, c', h1, h2⟩
  fix := fun j c' q => by
    obtain ⟨⟨c1, q1⟩, q2⟩ := s.fix j c' q
    have n : i ≠ j := fun z => by subst z; exact h.2 _ q1
    exact ⟨⟨c1, by rw [List.getElem?_set_ne n]; exact q1⟩, by rw [List.getElem?_set_ne n]; exact q2⟩
  len := by rw [List.length_set]; exact s.len
/-- the own thing of slot i changes -/
theorem Rel.change (R : Rel K mg F e σ H) {fx : Bool} {c c' : Cont} {a : Addr} {o' : HO} (es : e[i]? = some (.own fx c)) (ex : σ[i]? = some (some (.ref a))) (hc : ContOk K mg F c' o') : Rel K mg F (e.set i (.own fx c')) σ (upd H a o') := by
  obtain ⟨a', o, h1, hF, hH, hco⟩ := R.ok i _ _ es ex
  cases h1
  refine ⟨fun b u q => ?_, by rw [List.length_set]; exact R.len, fun j s x ej exj => ?_, fun j k f g c1 c2 b ej ek sj sk => ?_, R.tab.chg hH hco.notbl hco.nocode, R.ftb⟩
  · rw [upd_ne (ne_of_none q hF)]; exact R.sub b u q
  · rcases get_set_of ej with ⟨rfl, rfl⟩ | ⟨n, ej⟩
    · rw [ex] at exj; cases exj
      exact ⟨a, o', rfl, hF, upd_same, hc⟩
    · have q := R.ok j s x ej exj
      cases s with
      | no => trivial
      | val d => exact q
      | own f c2 =>
        obtain ⟨b, o2, h1, hf', hh', hc'⟩ := q
        refine ⟨b, o2, h1, hf', ?_, hc'⟩
        rw [upd_ne]
        · exact hh'
        · rintro rfl
          rw [h1] at exj
          exact n (R.inj i j _ _ _ _ _ es ej ex exj)
  · have hj : ∃ f' c'', e[j]? = some (.own f' c'') := by
      rcases get_set_of ej with ⟨rfl, z⟩ | ⟨n, ej⟩
      · exact ⟨_, _, es⟩
      · exact ⟨_, _, ej⟩
    have hk : ∃ f' c'', e[k]? = some (.own f' c'') := by
      rcases get_set_of ek with ⟨rfl, z⟩ | ⟨n, ek⟩
      · exact ⟨_, _, es⟩
      · exact ⟨_, _, ek⟩
    obtain ⟨_, _, hj⟩ := hj
    obtain ⟨_, _, hk⟩ := hk
    exact R.inj j k _ _ _ _ b hj hk sj sk
theorem Stp.change (R : Rel K mg F e σ H) (s : Stp F0 H0 e0 σ0 F H e σ) {fx : Bool} {c c' : Cont} {a : Addr} {o' : HO} (es : e[i]? = some (.own fx c)) (ex : σ[i]? = some (some (.ref a))) : Stp F0 H0 e0 σ0 F (upd H a o') (e.set i (.own fx c')) σ where
  fro := s.fro
  kept := fun b o h n m => by
    have h1 := s.kept b o h n m
    rw [upd_ne]
    · exact h1
    · rintro rfl
      rcases s.newO b ⟨i, fx, c, es, ex⟩ with z | z
      · rw [h] at z; cases z
      · exact n z
  dom := fun b h => by
    by_cases z : b = a
    · subst z; rw [upd_same] at h; cases h
    · rw [upd_ne z] at h; exact s.dom b h
  newF := s.newF
  newO := fun b ⟨j, f, c1, h1, h2⟩ => by
    rcases get_set_of h1 with ⟨rfl, z⟩ | ⟨n, h1⟩
    · exact s.newO b ⟨i, fx, c, es, h2⟩
    · exact s.newO b ⟨j, f, c1, h1, h2⟩
  fix := fun j c1 q => by
    obtain ⟨⟨c2, q1⟩, q2⟩ := s.fix j c1 q
    by_cases n : i = j
    · subst n
      rw [es] at q1; cases q1
      exact ⟨⟨c', by rw [List.getElem?_set_self (List.getElem?_eq_some_iff.mp es).1]⟩, q2⟩
    · exact ⟨⟨c2, by rw [List.getElem?_set_ne n]; exact q1⟩, q2⟩
  len := by rw [List.length_set]; exact s.len
theorem Rel.drop (R : Rel K mg F e σ H) : Rel K mg F (e.set i .no) σ H where
  tab := R.tab
  ftb := R.ftb
  sub := R.sub
  len := by rw [List.length_set]; exact R.len
  ok := fun j s x es ex => by
    rcases get_set_of es with ⟨rfl, rfl⟩ | ⟨n, es⟩
    · trivial
    · exact R.ok j s x es ex
  inj := fun j k f g c c' b ej ek sj sk => by
    rcases get_set_of ej with ⟨_, z⟩ | ⟨n, ej⟩
    · cases z
    · rcases get_set_of ek with ⟨_, z⟩ | ⟨n', ek⟩
      · cases z
      · exact R.inj j k f g c c' b ej ek sj sk
theorem Stp.drop (s : Stp F0 H0 e0 σ0 F H e σ) (h : ∀ c, e[i]? ≠ some (.own true c)) : Stp F0 H0 e0 σ0 F H (e.set i .no) σ where
  fro := s.fro
  kept := s.kept
  dom := s.dom
  newF := s.newF
  newO := fun b ⟨j, f, c, h1, h2⟩ => by
    rcases get_set_of h1 with ⟨_, z⟩ | ⟨n, h1⟩
    · cases z
    · exact s.newO b ⟨j, f, c, h1, h2⟩
  fix := fun j c q => by
    obtain ⟨⟨c', q1⟩, q2⟩ := s.fix j c q
    have n : i ≠ j := fun z => by subst z; exact h _ q1
    exact ⟨⟨c', by rw [List.getElem?_set_ne n]; exact q1⟩, q2⟩
  len := by rw [List.length_set]; exact s.len
end
/-! ### statements -/
def sSeq (f g : M Flo) : M Flo := fun e => match f e with
  | .ok .nx e' => g e'
  | r => r
def sNil : M Flo := M.ret .nx
def sBad : M Flo := M.bad
def sExpr (f : M RV) : M Flo := M.bind f fun _ => M.ret .nx
def sRetN : M Flo := M.ret (.rt (.val .non))
def retR (r : RV) : M Flo := fun e => match r with
  | .pk i => match e[i]? with
    | some (.val d) => .ok (.rt (.val d)) e
    | some (.own false c) => .ok (.rt (.own c)) (e.set i .no)
    | _ => .bad
  | r => .ok (.rt r) e
def sRet (f : M RV) : M Flo := M.bind f retR
def sIf (p : M Bool) (f g : M Flo) : M Flo := M.bind p fun c => if c then f else g
def stoV (i : Nat) (d : D) : M Flo := fun e => if sto e i then .ok .nx (e.set i (.val d)) else .bad
def stor (i : Nat) (r : RV) : M Flo := match r with
  | .own c => fun e => if sto e i then .ok .nx (e.set i (.own false c)) else .bad
  | r => M.bind (frz r) (stoV i)
def sSet (i : Nat) (f : M RV) : M Flo := M.bind f (stor i)
section
variable {K : PySem.W.Frag} {mg : Mg} {W : WX} {F H F1 H1 : Hp} {e e1 : Sl} {σ σ1 : St} {E E' : Ends} {α β : Type}
theorem postS_from {r : Res Flo} (s : Stp F H e σ F1 H1 e1 σ1) (h : postS K mg W F H e σ r E) : postS K mg W F1 H1 e1 σ1 r E := by
  cases r with
  | ok a e' =>
    cases a with
    | nx => exact fun σ' F' H' s' q => h σ' F' H' (s.trans s') q
    | bk => exact fun σ' F' H' s' q => h σ' F' H' (s.trans s') q
    | ct => exact fun σ' F' H' s' q => h σ' F' H' (s.trans s') q
    | rt r => exact fun v σ' F' H' s' q w => h v σ' F' H' (s.trans s') q (w.imp fun x z => s.nm z)
  | ex x e' => exact fun cls d σ' F' H' s' q w => h cls d σ' F' H' (s.trans s') q w
  | bad => exact h
theorem postS_imp {r : Res Flo} (h : postS K mg W F H e σ r E) (i1 : ∀ σ H, E.nx σ H → E'.nx σ H) (i2 : ∀ v H, E.rt v H → E'.rt v H) (i3 : ∀ σ H, E.bk σ H → E'.bk σ H) (i4 : ∀ σ H, E.ct σ H → E'.ct σ H) : postS K mg W F H e σ r E' := by
  cases r with
  | ok a e' =>
    cases a with
    | nx => exact fun σ' F' H' s' q => i1 _ _ (h σ' F' H' s' q)
    | bk => exact fun σ' F' H' s' q => i3 _ _ (h σ' F' H' s' q)
    | ct => exact fun σ' F' H' s' q => i4 _ _ (h σ' F' H' s' q)
    | rt r => exact fun v σ' F' H' s' q w => i2 _ _ (h v σ' F' H' s' q w)
  | ex x e' => exact h
  | bad => exact h
/-- an expression, then what is done with its value; told from the start -/
theorem postS_seq {R1 : RR α β} {f : M α} {k : α → M Flo} (h : postS K mg W F H e σ (M.bind f k e) E) :
    post K mg W R1 F H e σ (f e) (fun b H1 => ∃ a e1 F1, R1 (NM H e σ) F1 H1 e1 σ b a ∧ Rel K mg F1 e1 σ H1 ∧ Stp F H e σ F1 H1 e1 σ ∧ postS K mg W F H e σ (k a e1) E) := by
  unfold M.bind at h
  cases q : f e with
  | ok a e' =>
    rw [q] at h
    exact fun b F' H' s r w => ⟨a, e', F', w, r, s, h⟩
  | ex x e' => rw [q] at h; exact fun cls d F' H' s r w => h cls d σ F' H' s r w
  | bad => rw [q] at h; exact h
theorem sSeq_ok {f g : M Flo} (h : cS K mg W (sSeq f g) E σ H) : cS K mg W f { E with nx := cS K mg W g E } σ H := by
  obtain ⟨e, F, R, h⟩ := h
  refine ⟨e, F, R, ?_⟩
  unfold sSeq at h
  cases q : f e with
  | ok a e' =>
    rw [q] at h
    cases a with
    | nx => exact fun σ' F' H' s r => ⟨e', F', r, postS_from s h⟩
    | bk => exact h
    | ct => exact h
    | rt r => exact h
  | ex x e' => rw [q] at h; exact h
  | bad => rw [q] at h; exact h
end
section
variable {X : Cx} {W : WX} {a b c : Expr} {st : Stmt} {sts sts' : List Stmt} {f g : M RV} {p : M Bool} {s t : M Flo} {pos pos' : Pos}
theorem dss_nil : DSs X W [] sNil := pssW pss_nil fun E σ H ⟨e, F, R, h⟩ => h σ F H Stp.refl R
theorem dss_cons (h1 : DS X W st s) (h2 : DSs X W sts t) : DSs X W (st :: sts) (sSeq s t) := pssW (pss_cons h1 h2) fun _ _ _ h => sSeq_ok h
theorem dss_one (h1 : DS X W st s) : DSs X W [st] s := pss_one h1
theorem ds_bad : DS X W st sBad := psW ps_never fun _ _ _ ⟨_, _, _, h⟩ => h
theorem ds_pass : DS X W (.Pass pos) sNil := psW ps_pass fun E σ H ⟨e, F, R, h⟩ => h σ F H Stp.refl R
theorem ds_break : DS X W (.Break pos) (M.ret .bk) := psW ps_break fun E σ H ⟨e, F, R, h⟩ => h σ F H Stp.refl R
theorem ds_continue : DS X W (.Continue pos) (M.ret .ct) := psW ps_continue fun E σ H ⟨e, F, R, h⟩ => h σ F H Stp.refl R
theorem ds_retN : DS X W (.Return none pos) sRetN := psW ps_retN fun E σ H ⟨e, F, R, h⟩ => h .non σ F H Stp.refl R .non
theorem ds_expr (ha : DE X W a f) (hs : swapsWith a none pos.line X.env = pure false := by rfl) : DS X W (.Expr a pos) (sExpr f) := psW (ps_expr ha hs) fun E σ H ⟨e, F, R, h⟩ => by
  refine ⟨e, F, R, post_imp (postS_seq h) ?_⟩
  rintro v H1 ⟨r, e1, F1, q1, R1, s1, h1⟩
  exact h1 σ F1 H1 s1 R1
theorem ds_ret (ha : DE X W a f) : DS X W (.Return (some a) pos) (sRet f) := psW (ps_ret ha) fun E σ H ⟨e, F, R, h⟩ => by
  refine ⟨e, F, R, post_imp (postS_seq h) ?_⟩
  rintro v H1 ⟨r, e1, F1, q1, R1, s1, h1⟩
  cases r with
  | val d => exact h1 v σ F1 H1 s1 R1 q1
  | own c => exact h1 v σ F1 H1 s1 R1 q1
  | pk i =>
    unfold retR at h1
    dsimp only at h1
    have q1 : σ[i]? = some (some v) := q1
    split at h1
    · rename_i d es
      obtain ⟨u, h2, h3⟩ := R1.ok i _ _ es q1
      cases h2
      exact h1 v σ F1 H1 s1 R1 h3
    · rename_i c es
      obtain ⟨p, o, h2, hF, hH, hc⟩ := R1.ok i _ _ es q1
      cases h2
      refine h1 _ σ F1 H1 (s1.drop fun c' z => by rw [es] at z; cases z) R1.drop ⟨p, o, rfl, hF, hH, hc, ?_, s1.newO p ⟨i, false, c, es, q1⟩⟩
      rintro ⟨j, f, c', h3, h4⟩
      rcases get_set_of h3 with ⟨_, z⟩ | ⟨n, h3⟩
      · cases z
      · exact n (R1.inj i j _ _ _ _ _ es h3 q1 h4)
    · exact h1.elim
theorem ds_if (hc : DT X W c p) (ha : DSs X W sts s) (hb : DSs X W sts' t) : DS X W (.If c sts sts' pos) (sIf p s t) := psW (ps_if hc ha hb) fun E σ H ⟨e, F, R, h⟩ => by
  refine ⟨e, F, R, post_imp (postS_seq h) ?_⟩
  rintro b H1 ⟨b', e1, F1, q1, R1, s1, h1⟩
  cases q1
  cases b with
  | true => exact iteT ⟨e1, F1, R1, postS_from s1 h1⟩
  | false => exact iteF ⟨e1, F1, R1, postS_from s1 h1⟩
/-- what stor does -/
theorem stor_ok {K : PySem.W.Frag} {mg : Mg} {F H F0 H0 : Hp} {e e0 : Sl} {σ σ0 : St} {E : Ends} {i : Nat} {r : RV} {v : V} (R : Rel K mg F e σ H) (q : RVOk K mg (NM H0 e0 σ0) F H e σ v r) (s0 : Stp F0 H0 e0 σ0 F H e σ)
    (h : postS K mg W F0 H0 e0 σ0 (stor i r e) E) : E.nx (σ.set i (some v)) H := by
  have val : ∀ d e', frz r e = .ok d e' → postS K mg W F0 H0 e0 σ0 (stoV i d e') E → E.nx (σ.set i (some v)) H := fun d e' w h => by
    obtain ⟨F2, s2, R2, q2⟩ := frz_ok R q w s0
    unfold stoV at h
    split at h
    · rename_i z
      exact h _ F2 H (s2.put (sto_ok z)) (R2.put q2 (sto_ok z).1)
    · exact h.elim
  cases r with
  | own c =>
    unfold stor at h
    dsimp only at h
    obtain ⟨a, o, rfl, hF, hH, hc, hn, hN⟩ := q
    split at h
    · rename_i z
      exact h _ F H (s0.putOwn (sto_ok z) R.len hN) (R.putOwn hF hH hc hn (sto_ok z).1)
    · exact h.elim
  | val d => exact val d e rfl h
  | pk j =>
    unfold stor M.bind at h
    dsimp only at h
    cases w : frz (.pk j) e with
    | ok d e' => rw [w] at h; exact val d e' w h
    | ex x e' => exact (frz_noex w).elim
    | bad => rw [w] at h; exact h.elim
theorem ds_set (i : Nat) {x : Str} (ha : DE X W a f) (hN : X.N.Nodup) (hi : X.N[i]? = some x := by rfl) (hx : Loc X.env.scope x := by first | exact Or.inl rfl | exact Or.inr rfl) (hs : swapsWith a (some (.Name x pos')) pos.line X.env = pure false := by rfl)
    (hf : X.fn x = true ∨ X.env.scope.names.lookup x = some .local := by first | exact .inl rfl | exact .inr rfl) : DS X W (.Assign [.Name x pos'] a pos) (sSet i f) := psW (ps_set hN hi hx ha hs hf) fun E σ H ⟨e, F, R, h⟩ => by
  refine ⟨e, F, R, post_imp (postS_seq h) ?_⟩
  rintro v H1 ⟨r, e1, F1, q1, R1, s1, h1⟩
  exact stor_ok R1 q1 s1 h1
end
end Y

set_option Elab.async false
set_option linter.all false
set_option maxRecDepth 100000
set_option maxHeartbeats 4000000
namespace Y
open PySem PySem.Spec L2
set_option autoImplicit false
variable [TB]
/-! ### several values at once, new things kept -/
def aO (f : M RV) : M RV := M.bind f fun r => match r with
  | .own c => M.ret (.own c)
  | r => M.bind (frz r) fun d => M.ret (.val d)
def Fr1 (r : RV) (v : V) (a : Addr) : Prop := (∃ c, r = .own c) ∧ v = .ref a
inductive Args2 (K : PySem.W.Frag) (mg : Mg) (N : Addr → Prop) (F H : Hp) (e : Sl) (σ : St) : List V → List RV → Prop
  | nil : Args2 K mg N F H e σ [] []
  | cons {v : V} {vs : List V} {r : RV} {rs : List RV} : RVOk K mg N F H e σ v r → (∀ i, r ≠ .pk i) → Args2 K mg N F H e σ vs rs →
      (∀ (a : Addr) (j : Nat) (w : V) (s : RV), Fr1 r v a → vs[j]? = some w → rs[j]? = some s → ¬ Fr1 s w a) → Args2 K mg N F H e σ (v :: vs) (r :: rs)
/-- the new things among the values -/
def NewIn (vs : List V) (rs : List RV) (a : Addr) : Prop := ∃ (j : Nat) (w : V) (s : RV), vs[j]? = some w ∧ rs[j]? = some s ∧ Fr1 s w a
section
variable {K : PySem.W.Frag} {mg : Mg} {N N' : Addr → Prop} {F F1 H H1 : Hp} {e e1 : Sl} {σ : St}
theorem Args2.step (s : Stp F H e σ F1 H1 e1 σ) : ∀ {vs : List V} {rs : List RV}, Args2 K mg N F H e σ vs rs → Args2 K mg N F1 H1 e1 σ vs rs
  | _, _, .nil => .nil
  | _, _, .cons a b c d => .cons (a.step s) b (Args2.step s c) d
theorem Args2.imp (g : ∀ a, N a → N' a) : ∀ {vs : List V} {rs : List RV}, Args2 K mg N F H e σ vs rs → Args2 K mg N' F H e σ vs rs
  | _, _, .nil => .nil
  | _, _, .cons a b c d => .cons (a.imp g) b (Args2.imp g c) d
theorem Args2.new {a : Addr} : ∀ {vs : List V} {rs : List RV}, Args2 K mg N F H e σ vs rs → NewIn vs rs a → N a
  | _, _, .nil, ⟨j, w, s, h1, _⟩ => by simp at h1
  | _, _, .cons p b c d, ⟨0, w, s, h1, h2, ⟨⟨c', hc⟩, hv⟩⟩ => by
    simp at h1 h2
    subst h1 h2 hc hv
    obtain ⟨a', o, e, _, _, _, _, hN⟩ := p
    cases e
    exact hN
  | _, _, .cons p b c d, ⟨j + 1, w, s, h1, h2, h3⟩ => Args2.new c ⟨j, w, s, by simpa using h1, by simpa using h2, h3⟩
abbrev rA2 (K : PySem.W.Frag) (mg : Mg) : RR (List RV) (List V) := fun N F H e σ vs rs => Args2 K mg N F H e σ vs rs
theorem up_A2 : Up (rA2 K mg) := fun _ _ _ _ _ _ _ _ i h => h.imp i
end
abbrev DA2 (X : Cx) (W : WX) (es : List Expr) (f : M (List RV)) : Prop := PA X es (cG X.K X.mg W (rA2 X.K X.mg) f)
section
variable {K : PySem.W.Frag} {mg : Mg} {W : WX} {F F2 H H2 : Hp} {e e2 : Sl} {σ σ2 : St} {α β γ δ : Type} {R1 : RR α β} {R2 : RR γ δ}
/-- one more step, all told from the first start -/
theorem post_seqG {f : M α} {k : α → M γ} {Q : δ → Hp → Prop} (s : Stp F H e σ F2 H2 e2 σ) (h : post K mg W R2 F H e σ (M.bind f k e2) Q) :
    post K mg W R1 F2 H2 e2 σ (f e2) (fun b H1 => ∃ a e1 F1, R1 (NM H2 e2 σ) F1 H1 e1 σ b a ∧ Rel K mg F1 e1 σ H1 ∧ Stp F2 H2 e2 σ F1 H1 e1 σ ∧ post K mg W R2 F H e σ (k a e1) Q) := by
  unfold M.bind at h
  cases q : f e2 with
  | ok a e' =>
    rw [q] at h
    exact fun b F' H' s r w => ⟨a, e', F', w, r, s, h⟩
  | ex x e' => rw [q] at h; exact fun cls d F' H' s' r w => h cls d F' H' (s.trans s') r w
  | bad => rw [q] at h; exact h
theorem postS_seqG {f : M α} {k : α → M Flo} {E : Ends} (s : Stp F H e σ F2 H2 e2 σ2) (h : postS K mg W F H e σ (M.bind f k e2) E) :
    post K mg W R1 F2 H2 e2 σ2 (f e2) (fun b H1 => ∃ a e1 F1, R1 (NM H2 e2 σ2) F1 H1 e1 σ2 b a ∧ Rel K mg F1 e1 σ2 H1 ∧ Stp F2 H2 e2 σ2 F1 H1 e1 σ2 ∧ postS K mg W F H e σ (k a e1) E) := by
  unfold M.bind at h
  cases q : f e2 with
  | ok a e' =>
    rw [q] at h
    exact fun b F' H' s r w => ⟨a, e', F', w, r, s, h⟩
  | ex x e' => rw [q] at h; exact fun cls d F' H' s' r w => h cls d σ2 F' H' (s.trans s') r w
  | bad => rw [q] at h; exact h
end
section
variable {X : Cx} {W : WX} {a b c : Expr} {es : List Expr} {f g h : M RV} {fs : M (List RV)} {pos pos' : Pos}
theorem da2_nil : DA2 X W [] aNil := paW pa_nil fun σ H Q ⟨e, F, R, h⟩ => post_ret R h .nil
theorem da2_cons (ha : DE X W a f) (hr : DA2 X W es fs) (hs : starEach (a :: es) X.env = (false, eval a X.env) :: starEach es X.env := by rfl) : DA2 X W (a :: es) (aCons (aO f) fs) :=
  paW (pa_cons ha hr hs) fun σ H Q ⟨e, F, R, h⟩ => by
    unfold aCons aO at h
    rw [bind_assoc] at h
    refine ⟨e, F, R, post_imp (post_seq0 h) ?_⟩
    rintro x H1 ⟨r1, e1, F1, q1, R1, s1, h1⟩
    have fin : ∀ (r : RV) (e2 : Sl) (F2 : Hp), (∀ i, r ≠ .pk i) → Rel X.K X.mg F2 e2 σ H1 → Stp F H e σ F2 H1 e2 σ → RVOk X.K X.mg (NM H e σ) F2 H1 e2 σ x r → post X.K X.mg W (rA2 X.K X.mg) F H e σ ((M.bind fs fun rs => M.ret (r :: rs)) e2) Q →
        cG X.K X.mg W (rA2 X.K X.mg) fs σ H1 fun xs H2 => Q (x :: xs) H2 := fun r e2 F2 hr R2 s2 q2 h2 => by
      refine ⟨e2, F2, R2, post_imp (post_seqG (R1 := rA2 X.K X.mg) s2 h2) ?_⟩
      rintro xs H3 ⟨rs, e3, F3, q3, R3, s3, h3⟩
      refine h3 (x :: xs) F3 H3 (s2.trans s3) R3 (.cons (q2.step s3) hr (q3.imp fun a z => s2.nm z) ?_)
      rintro a j w s ⟨⟨c, rfl⟩, rfl⟩ hw hs hf
      obtain ⟨a', o, e', _, hH, _, hn, _⟩ := q2
      cases e'
      rcases q3.new ⟨j, w, s, hw, hs, hf⟩ with z | z
      · rw [hH] at z; cases z
      · exact hn z
    have val : ∀ d e', frz r1 e1 = .ok d e' → post X.K X.mg W (rA2 X.K X.mg) F H e σ ((M.bind fs fun rs => M.ret (RV.val d :: rs)) e') Q → cG X.K X.mg W (rA2 X.K X.mg) fs σ H1 fun xs H2 => Q (x :: xs) H2 := fun d e' w h2 => by
      obtain ⟨F2, s2, R2, q2⟩ := frz_ok R1 q1 w s1
      exact fin (.val d) e' F2 (fun i z => by cases z) R2 s2 q2 h2
    cases r1 with
    | own c => exact fin (.own c) e1 F1 (fun i z => by cases z) R1 s1 q1 h1
    | val d => exact val d e1 rfl h1
    | pk i =>
      have z := h1
      unfold M.bind at z
      cases w : frz (.pk i) e1 with
      | ok d e' =>
        refine val d e' w ?_
        dsimp only at z
        rw [w] at z
        exact z
      | ex x e' => exact (frz_noex w).elim
      | bad => dsimp only at z; rw [w] at z; exact z.elim
/-! storing all of them -/
def storAll : List Nat → List RV → M Flo
  | [], [] => sNil
  | i :: is, r :: rs => sSeq (stor i r) (storAll is rs)
  | _, _ => sBad
def setAll (σ : St) : List Nat → List V → St
  | i :: is, v :: vs => setAll (σ.set i (some v)) is vs
  | _, _ => σ
/-- stor, told as a step -/
theorem stor_step {K : PySem.W.Frag} {mg : Mg} {F H F0 H0 : Hp} {e e0 e' : Sl} {σ σ0 : St} {i : Nat} {r : RV} {v : V} (R : Rel K mg F e σ H) (q : RVOk K mg (NM H0 e0 σ0) F H e σ v r) (s0 : Stp F0 H0 e0 σ0 F H e σ) (w : stor i r e = .ok .nx e') :
    ∃ F', Stp F0 H0 e0 σ0 F' H e' (σ.set i (some v)) ∧ Rel K mg F' e' (σ.set i (some v)) H ∧ Same F F' ∧ (∀ b, Own e' (σ.set i (some v)) b → Own e σ b ∨ Fr1 r v b) ∧ (∀ b, F b = none → F' b ≠ none → Own e σ b ∨ Fr1 r v b) := by
  have val : ∀ d e2, frz r e = .ok d e2 → stoV i d e2 = .ok .nx e' → (∀ c, r ≠ .own c) → ∃ F', Stp F0 H0 e0 σ0 F' H e' (σ.set i (some v)) ∧ Rel K mg F' e' (σ.set i (some v)) H ∧ Same F F' ∧ (∀ b, Own e' (σ.set i (some v)) b → Own e σ b ∨ Fr1 r v b) ∧ (∀ b, F b = none → F' b ≠ none → Own e σ b ∨ Fr1 r v b) := fun d e2 w h hr => by
    have q' : RVOk K mg (NM H e σ) F H e σ v r := by
      cases r with
      | val d => exact q
      | pk j => exact q
      | own c => exact absurd rfl (hr c)
    obtain ⟨F3, s3, R3, q3⟩ := frz_ok R q' w Stp.refl
    unfold stoV at h
    split at h
    · rename_i z
      cases h
      refine ⟨F3, (s0.trans s3).put (sto_ok z), R3.put q3 (sto_ok z).1, s3.fro, fun b hb => .inl ?_, fun b h1 h2 => .inl ?_⟩
      · rcases s3.newO b (own_put hb) with y | y
        · obtain ⟨j, f, c, h3, h4⟩ := own_put hb
          obtain ⟨a', o, e'', _, hH, _⟩ := R3.ok j _ _ h3 h4
          cases e''
          rw [y] at hH; cases hH
        · exact y
      · rcases s3.newF b h1 h2 with y | y
        · cases z3 : F3 b with
          | none => exact absurd z3 h2
          | some u => have := R3.sub b u z3; rw [y] at this; cases this
        · exact y
    · cases h
  cases r with
  | own c =>
    unfold stor at w
    dsimp only at w
    obtain ⟨a, o, rfl, hF, hH, hc, hn, hN⟩ := q
    split at w
    · rename_i z
      cases w
      refine ⟨F, s0.putOwn (sto_ok z) R.len hN, R.putOwn hF hH hc hn (sto_ok z).1, Same.refl _, ?_, fun b h1 h2 => absurd h1 h2⟩
      rintro b ⟨j, f, c', h1, h2⟩
      rcases get_set_of h1 with ⟨rfl, y⟩ | ⟨n, h1⟩
      · rw [List.getElem?_set_self (by rw [← R.len]; exact (sto_ok z).1)] at h2
        cases h2
        exact .inr ⟨⟨c, rfl⟩, rfl⟩
      · rw [List.getElem?_set_ne n] at h2
        exact .inl ⟨j, f, c', h1, h2⟩
    · cases w
  | val d => exact val d e rfl w (fun c z => by cases z)
  | pk j =>
    unfold stor M.bind at w
    dsimp only at w
    cases y : frz (.pk j) e with
    | ok d e2 => rw [y] at w; exact val d e2 y w (fun c z => by cases z)
    | ex x e' => exact (frz_noex y).elim
    | bad => rw [y] at w; cases w
theorem stor_nx {e : Sl} {i : Nat} {r : RV} : stor i r e = .bad ∨ ∃ e', stor i r e = .ok .nx e' := by
  have val : ∀ d e2, stoV i d e2 = .bad ∨ ∃ e', stoV i d e2 = .ok .nx e' := fun d e2 => by
    unfold stoV
    split
    · exact .inr ⟨_, rfl⟩
    · exact .inl rfl
  cases r with
  | own c =>
    unfold stor
    dsimp only
    split
    · exact .inr ⟨_, rfl⟩
    · exact .inl rfl
  | val d => exact val d e
  | pk j =>
    unfold stor M.bind
    dsimp only
    cases y : frz (.pk j) e with
    | ok d e2 => exact val d e2
    | ex x e' => exact (frz_noex y).elim
    | bad => exact .inl rfl
theorem storAll_ok {K : PySem.W.Frag} {mg : Mg} {F0 H0 H : Hp} {e0 : Sl} {σ0 : St} {E : Ends} : ∀ {is : List Nat} {rs : List RV} {vs : List V} {F : Hp} {e : Sl} {σ : St}, Rel K mg F e σ H → Args2 K mg (NM H0 e0 σ0) F H e σ vs rs → Stp F0 H0 e0 σ0 F H e σ →
    postS K mg W F0 H0 e0 σ0 (storAll is rs e) E → E.nx (setAll σ is vs) H
  | [], _, _, F, e, σ, R, .nil, s, h => h σ F H s R
  | [], _, _, F, e, σ, R, .cons _ _ _ _, s, h => h.elim
  | i :: is, _, _, F, e, σ, R, .nil, s, h => h.elim
  | i :: is, _, _, F, e, σ, R, .cons (v := v) (r := r) (vs := vs) (rs := rs) q hr t dd, s, h => by
    unfold storAll sSeq at h
    rcases stor_nx (e := e) (i := i) (r := r) with w | ⟨e', w⟩
    · rw [w] at h; exact h.elim
    · rw [w] at h
      obtain ⟨F', s', R', sm, nO, nF⟩ := stor_step R q s w
      refine storAll_ok (vs := vs) (rs := rs) R' ?_ s' h
      have hop : ∀ b, Own e σ b ∨ Fr1 r v b → ∀ j w s, vs[j]? = some w → rs[j]? = some s → Fr1 s w b → False := fun b hb j w s h1 h2 h3 => by
        rcases hb with hb | hb
        · have ok : ∀ {vs : List V} {rs : List RV} {j : Nat}, Args2 K mg (NM H0 e0 σ0) F H e σ vs rs → vs[j]? = some w → rs[j]? = some s → RVOk K mg (NM H0 e0 σ0) F H e σ w s := by
            intro vs rs j A
            induction A generalizing j with
            | nil => intro z; simp at z
            | cons p _ _ _ ih =>
              cases j with
              | zero => intro z z'; simp at z z'; subst z z'; exact p
              | succ j => intro z z'; exact ih (by simpa using z) (by simpa using z')
          have z := ok t h1 h2
          obtain ⟨⟨c, rfl⟩, rfl⟩ := h3
          obtain ⟨a', o, e'', _, _, _, hn, _⟩ := z
          cases e''
          exact hn hb
        · exact dd b j w s hb h1 h2 h3
      have go : ∀ {vs : List V} {rs : List RV}, Args2 K mg (NM H0 e0 σ0) F H e σ vs rs → (∀ b, Own e σ b ∨ Fr1 r v b → ∀ (j : Nat) w s, vs[j]? = some w → rs[j]? = some s → Fr1 s w b → False) → Args2 K mg (NM H0 e0 σ0) F' H e' (σ.set i (some v)) vs rs := by
        intro vs rs A
        induction A with
        | nil => intro _; exact .nil
        | cons p1 p2 _ p4 ih =>
          rename_i v1 vs1 r1 rs1 _
          intro ho
          refine .cons ?_ p2 (ih fun b hb j w s h1 h2 h3 => ho b hb (j + 1) w s (by simpa using h1) (by simpa using h2) h3) p4
          cases r1 with
          | val d => exact Rep.mono sm p1
          | pk k => exact absurd rfl (p2 k)
          | own c =>
            obtain ⟨a', o, rfl, hF, hH, hc, hn, hN⟩ := p1
            have na : ¬ (Own e σ a' ∨ Fr1 r v a') := fun z => ho a' z 0 _ _ rfl rfl ⟨⟨c, rfl⟩, rfl⟩
            refine ⟨a', o, rfl, ?_, hH, hc.mono sm, fun z => na (nO a' z), hN⟩
            cases z : F' a' with
            | none => rfl
            | some u => exact absurd (nF a' hF (by rw [z]; exact fun y => nomatch y)) na
      exact go t hop
def sPar (is : List Nat) (fs : M (List RV)) : M Flo := M.bind fs (storAll is)
theorem sPar_ok {K : PySem.W.Frag} {mg : Mg} {is : List Nat} {E : Ends} {σ : St} {H : Hp} (h : cS K mg W (sPar is fs) E σ H) : cG K mg W (rA2 K mg) fs σ H fun vs H1 => E.nx (setAll σ is vs) H1 := by
  obtain ⟨e, F, R, h⟩ := h
  refine ⟨e, F, R, post_imp (postS_seq h) ?_⟩
  rintro vs H1 ⟨rs, e1, F1, q1, R1, s1, h1⟩
  exact storAll_ok R1 q1 s1 h1
theorem storAll_len {is : List Nat} : ∀ {rs : List RV} {e : Sl}, storAll is rs e ≠ .bad → is.length = rs.length := by
  induction is with
  | nil => intro rs e h; cases rs with
    | nil => rfl
    | cons r rs => exact absurd rfl h
  | cons i is ih => intro rs e h; cases rs with
    | nil => exact absurd rfl h
    | cons r rs =>
      unfold storAll sSeq at h
      rcases stor_nx (e := e) (i := i) (r := r) with w | ⟨e', w⟩
      · rw [w] at h; exact absurd rfl h
      · rw [w] at h; rw [List.length_cons, List.length_cons, ih h]
theorem Args2.len {K : PySem.W.Frag} {mg : Mg} {N : Addr → Prop} {F H : Hp} {e : Sl} {σ : St} : ∀ {vs : List V} {rs : List RV}, Args2 K mg N F H e σ vs rs → vs.length = rs.length
  | _, _, .nil => rfl
  | _, _, .cons _ _ t _ => congrArg (· + 1) t.len
theorem sPar_len {K : PySem.W.Frag} {mg : Mg} {is : List Nat} {E : Ends} {σ : St} {H : Hp} (h : cS K mg W (sPar is fs) E σ H) : cG K mg W (rA2 K mg) fs σ H fun vs H1 => vs.length = is.length ∧ E.nx (setAll σ is vs) H1 := by
  obtain ⟨e, F, R, h⟩ := h
  refine ⟨e, F, R, post_imp (postS_seq h) ?_⟩
  rintro vs H1 ⟨rs, e1, F1, q1, R1, s1, h1⟩
  refine ⟨?_, storAll_ok R1 q1 s1 h1⟩
  rw [q1.len]
  exact (storAll_len fun z => by rw [z] at h1; exact h1).symm
theorem ds_par2 (i j : Nat) {x y : Str} {px py pt pt2 : Pos} {kt k2 : Nat} (hc : X.calm = true) (hN : X.N.Nodup) (ha : DA2 X W [a, b] fs) (hi : X.N[i]? = some x := by rfl) (hj : X.N[j]? = some y := by rfl) (hij : i ≠ j := by decide)
    (hx : X.env.scope.names.lookup x = some .local := by rfl) (hy : X.env.scope.names.lookup y = some .local := by rfl)
    (hw : swappedStores [.Tuple [.Name x px, .Name y py] kt pt] (.Tuple [a, b] k2 pt2) X.env = pure (some [x, y]) := by rfl) (hs : swapsWithSole [.Tuple [.Name x px, .Name y py] kt pt] (.Tuple [a, b] k2 pt2) pos.line X.env = pure false := by rfl) :
    DS X W (.Assign [.Tuple [.Name x px, .Name y py] kt pt] (.Tuple [a, b] k2 pt2) pos) (sPar [i, j] fs) := psW (ps_par hc hN hi hj hij hx hy ha hw hs) fun E σ H h => by
  obtain ⟨e, F, R, z⟩ := sPar_len h
  refine ⟨e, F, R, post_imp z ?_⟩
  rintro vs H1 ⟨hl, q⟩
  match vs, hl, q with
  | [v, w], _, q => exact ⟨v, w, rfl, q⟩
theorem ds_par3 (i j l : Nat) {x y z : Str} {px py pz pt pt2 : Pos} {kt k2 : Nat} (hc : X.calm = true) (hN : X.N.Nodup) (ha : DA2 X W [a, b, c] fs) (hi : X.N[i]? = some x := by rfl) (hj : X.N[j]? = some y := by rfl) (hl : X.N[l]? = some z := by rfl) (hij : i ≠ j := by decide) (hil : i ≠ l := by decide) (hjl : j ≠ l := by decide)
    (hx : X.env.scope.names.lookup x = some .local := by rfl) (hy : X.env.scope.names.lookup y = some .local := by rfl) (hz : X.env.scope.names.lookup z = some .local := by rfl)
    (hw : swappedStores [.Tuple [.Name x px, .Name y py, .Name z pz] kt pt] (.Tuple [a, b, c] k2 pt2) X.env = pure (some [x, y, z]) := by rfl) (hs : swapsWithSole [.Tuple [.Name x px, .Name y py, .Name z pz] kt pt] (.Tuple [a, b, c] k2 pt2) pos.line X.env = pure false := by rfl) :
    DS X W (.Assign [.Tuple [.Name x px, .Name y py, .Name z pz] kt pt] (.Tuple [a, b, c] k2 pt2) pos) (sPar [i, j, l] fs) := psW (ps_par3 hc hN hi hj hl hij hil hjl hx hy hz ha hw hs) fun E σ H h => by
  obtain ⟨e, F, R, z⟩ := sPar_len h
  refine ⟨e, F, R, post_imp z ?_⟩
  rintro vs H1 ⟨hl, q⟩
  match vs, hl, q with
  | [v, w, u], _, q => exact ⟨v, w, u, rfl, q⟩
end
end Y

set_option Elab.async false
set_option linter.all false
set_option maxRecDepth 100000
set_option maxHeartbeats 4000000
namespace Y
open PySem PySem.Spec L2
set_option autoImplicit false
variable [TB]
/-! ### lists that grow or change -/
def sApp (i : Nat) (f : M RV) : M Flo := fun e => match e[i]? with
  | some (.own _ (.lst _)) => (M.bind f fun r => M.bind (frz r) fun d => fun e => match e[i]? with
    | some (.own fx (.lst xs)) => if xs.length < sizeLine then .ok .nx (e.set i (.own fx (.lst (xs ++ [d])))) else .bad
    | _ => .bad) e
  | _ => .bad
/-- slot i [ index ] = value -/
def sSetIx (i : Nat) (fv fx : M RV) : M Flo := M.bind fv fun r => M.bind (frz r) fun d => fun e => match e[i]? with
  | some (.own _ (.lst _)) => (M.bind fx fun r' => fun e => match rdat e r', e[i]? with
    | some (.int k), some (.own b (.lst xs)) => (match ixN xs.length k with
      | some j => .ok .nx (e.set i (.own b (.lst (xs.set j d))))
      | none => .bad)
    | _, _ => .bad) e
  | _ => .bad
section
variable {X : Cx} {W : WX} {a b c : Expr} {es : List Expr} {f g h : M RV} {pos pos' pos'' apos cpos : Pos} {x : Str}
theorem own_at {K : PySem.W.Frag} {mg : Mg} {F H : Hp} {e : Sl} {σ : St} {i : Nat} {fx : Bool} {c : Cont} (R : Rel K mg F e σ H) (es : e[i]? = some (.own fx c)) : ∃ p o, σ[i]? = some (some (.ref p)) ∧ H p = some o ∧ ContOk K mg F c o := by
  have hl : i < σ.length := by rw [← R.len]; exact (List.getElem?_eq_some_iff.mp es).1
  obtain ⟨p, o, h1, _, hH, hc⟩ := R.ok i _ _ es (List.getElem?_eq_getElem hl)
  exact ⟨p, o, by rw [List.getElem?_eq_getElem hl, h1], hH, hc⟩
theorem ds_app (i : Nat) (ha : DE X W a f) (hN : X.N[i]? = some x := by rfl) (hv : Vis X.env.scope x := by first | exact Or.inl rfl | exact Or.inr (Or.inl rfl) | exact Or.inr (Or.inr rfl)) (hd : (x == ("__debug__" : Str)) = false := by decide)
    (hcd : (x == ("__classdict__" : Str)) = false := by decide) (hline : (apos.endLine == cpos.line) = true := by rfl) (hs : starEach [a] X.env = (false, eval a X.env) :: starEach [] X.env := by rfl)
    (hfew : ((backTo cpos (starEach [a] X.env)).all (fun x => !x.1) && (backToKw cpos (keywordEach [] X.env)).all (fun x => x.1.isSome) && decide ([a].length + ([] : List Keyword).length + (if ([] : List Keyword).isEmpty then 0 else 1) < 30)) = true := by rfl)
    (hsw : swapsWith (.Call (.Attribute (.Name x pos') "append" apos) [a] [] cpos) none pos.line X.env = pure false := by rfl) :
    DS X W (.Expr (.Call (.Attribute (.Name x pos') "append" apos) [a] [] cpos) pos) (sApp i f) :=
  psW (ps_expr (pe_bm PySem.F.plainAttrs_list PySem.F.slot_list_append PySem.F.type_list_append mt_append (pe_var hN hv hd hcd) (pa_cons ha pa_nil hs) rfl hfew hline hs rfl) hsw) fun E σ H ⟨e, F, R, h⟩ => by
    unfold sApp at h
    split at h
    · rename_i fx xs0 es
      obtain ⟨p, o, hp, hH, vs0, rfl, r0⟩ := own_at R es
      refine ⟨_, hp, .inl ⟨rfl, _, SqL.of hH⟩, e, F, R, post_imp (postS_seq h) ?_⟩
      rintro y H1 ⟨r, e1, F1, q1, R1, s1, h1⟩
      cases w : frz r e1 with
      | bad => unfold M.bind at h1; rw [w] at h1; exact h1.elim
      | ex x e' => exact (frz_noex w).elim
      | ok d e2 =>
        unfold M.bind at h1
        rw [w] at h1
        obtain ⟨F2, s2, R2, q2⟩ := frz_ok R1 q1 w s1
        dsimp only at h1
        split at h1
        · rename_i fx' xs es2
          obtain ⟨p', o', hp', hH', vs, rfl, rv⟩ := own_at R2 es2
          rw [hp] at hp'; cases hp'
          split at h1
          · rename_i hz
            refine ⟨p, vs, y, rfl, rfl, hH', by rw [rv.length]; exact hz, ?_⟩
            exact h1 σ F2 _ (s2.change R2 es2 hp) (R2.change es2 hp ⟨_, rfl, rv.append (.cons q2 .nil)⟩)
          · exact h1.elim
        · exact h1.elim
    · exact h.elim
theorem ds_setIx (i : Nat) (hf : DE X W a f) (hg : DE X W b g) (hN : X.N[i]? = some x := by rfl) (hv : Vis X.env.scope x := by first | exact Or.inl rfl | exact Or.inr (Or.inl rfl) | exact Or.inr (Or.inr rfl)) (hd : (x == ("__debug__" : Str)) = false := by decide)
    (hcd : (x == ("__classdict__" : Str)) = false := by decide)
    (ha : ∀ v, assign (.Subscript (.Name x pos') b pos'') X.env v = (do
      let ov ← holding [v] (eval (.Name x pos') X.env)
      let iv ← holding [v, ov] (eval b X.env)
      standAt pos''
      holding [v, ov, iv] (setItem ov iv v)
      release [v, ov, iv] []) := by intro _; rfl)
    (hs : swapsWithSole [.Subscript (.Name x pos') b pos''] a pos.line X.env = pure false := by rfl) (hw : swappedStores [.Subscript (.Name x pos') b pos''] a X.env = pure none := by rfl)
    (h1 : (assignEach [.Subscript (.Name x pos') b pos''] X.env).map (·.2) = [assign (.Subscript (.Name x pos') b pos'') X.env] := by rfl) :
    DS X W (.Assign [.Subscript (.Name x pos') b pos''] a pos) (sSetIx i f g) :=
  psW (ps_asg hf (pg_sub (pe_var hN hv hd hcd) hg set_list ha) hs hw h1) fun E σ H ⟨e, F, R, h⟩ => by
    refine ⟨e, F, R, post_imp (postS_seq h) ?_⟩
    rintro y H1 ⟨r, e1, F1, q1, R1, s1, h1⟩
    cases w : frz r e1 with
    | bad => unfold M.bind at h1; rw [w] at h1; exact h1.elim
    | ex x e' => exact (frz_noex w).elim
    | ok d e2 =>
      have h2 := h1
      unfold M.bind at h2
      rw [w] at h2
      obtain ⟨F2, s2, R2, q2⟩ := frz_ok R1 q1 w s1
      dsimp only at h2
      split at h2
      · rename_i fx0 xs0 es
        obtain ⟨p, o, hp, hH, vs0, rfl, r0⟩ := own_at R2 es
        refine ⟨_, hp, e2, F2, R2, post_imp (postS_seqG (f := g) (R1 := rV X.K X.mg) s2 h2) ?_⟩
        rintro z H3 ⟨r', e3, F3, q3, R3, s3, h3⟩
        split at h3
        · rename_i k fx xs wk es3
          split at h3
          · rename_i j hj
            obtain ⟨p', o', hp', hH', vs, rfl, rv⟩ := own_at R3 es3
            rw [hp] at hp'; cases hp'
            refine ⟨p, vs, k, j, rfl, R3.rd q3 wk, hH', by rw [rv.length]; exact hj, ?_⟩
            exact h3 σ F3 _ ((s2.trans s3).change R3 es3 hp) (R3.change es3 hp ⟨_, rfl, rv.set (q2.mono s3.fro) j⟩)
          · exact h3.elim
        · exact h3.elim
      · exact h2.elim
end
/-! ### targets -/
section
variable (K : PySem.W.Frag) (mg : Mg)
/-- the same slots but those of us -/
def But (us : List Nat) (σ σ' : St) : Prop := σ'.length = σ.length ∧ ∀ i, i ∉ us → σ'[i]? = σ[i]?
def postU (us : List Nat) (F H : Hp) (e : Sl) (σ : St) (r : Res Unit) (Q : St → Hp → Prop) : Prop := match r with
  | .ok _ e' => ∀ σ' F' H', Stp F H e σ F' H' e' σ' → Rel K mg F' e' σ' H' → But us σ σ' → Q σ' H'
  | _ => False
def cU (us : List Nat) (t : D → M Unit) : TG := fun v σ H Q => ∃ e F d, Rel K mg F e σ H ∧ Rep K mg F v d ∧ postU K mg us F H e σ (t d e) Q
def cUs (us : List Nat) (t : List D → M Unit) : TGs := fun vs σ H Q => ∃ e F ds, Rel K mg F e σ H ∧ Reps K mg F vs ds ∧ postU K mg us F H e σ (t ds e) Q
end
theorem But.refl (us : List Nat) (σ : St) : But us σ σ := ⟨rfl, fun _ _ => rfl⟩
theorem But.trans {us us' : List Nat} {σ σ1 σ2 : St} (a : But us σ σ1) (b : But us' σ1 σ2) : But (us ++ us') σ σ2 := ⟨b.1.trans a.1, fun i h => (b.2 i fun z => h (List.mem_append_right _ z)).trans (a.2 i fun z => h (List.mem_append_left _ z))⟩
theorem But.set (i : Nat) (σ : St) (o : Option V) : But [i] σ (σ.set i o) := ⟨List.length_set, fun j h => List.getElem?_set_ne fun z => h (by rw [z]; exact List.mem_cons_self)⟩
theorem postU_imp {K : PySem.W.Frag} {mg : Mg} {us : List Nat} {F H : Hp} {e : Sl} {σ : St} {r : Res Unit} {Q Q' : St → Hp → Prop} (h : postU K mg us F H e σ r Q) (i : ∀ σ H, Q σ H → Q' σ H) : postU K mg us F H e σ r Q' := by
  cases r with
  | ok a e' => exact fun σ' F' H' s q b => i _ _ (h σ' F' H' s q b)
  | ex x e' => exact h
  | bad => exact h
theorem postU_from {K : PySem.W.Frag} {mg : Mg} {us us' : List Nat} {F H F1 H1 : Hp} {e e1 : Sl} {σ σ1 : St} {r : Res Unit} {Q : St → Hp → Prop} (s : Stp F H e σ F1 H1 e1 σ1) (bt : But us σ σ1) (h : postU K mg (us ++ us') F H e σ r Q) : postU K mg us' F1 H1 e1 σ1 r Q := by
  cases r with
  | ok a e' => exact fun σ' F' H' s' q b => h _ _ _ (s.trans s') q (bt.trans b)
  | ex x e' => exact h
  | bad => exact h
abbrev DG (X : Cx) (tg : Expr) (us : List Nat) (t : D → M Unit) : Prop := PG X tg (cU X.K X.mg us t)
abbrev DGs (X : Cx) (tg : List Expr) (us : List Nat) (t : List D → M Unit) : Prop := PGs X tg (cUs X.K X.mg us t)
def tName (i : Nat) : D → M Unit := fun d e => if sto e i then .ok () (e.set i (.val d)) else .bad
def tTupD (n : Nat) (t : List D → M Unit) : D → M Unit
  | .tup ds => fun e => if ds.length = n then t ds e else .bad
  | _ => M.bad
def tsNil : List D → M Unit
  | [] => M.ret ()
  | _ => M.bad
def tsCons (t : D → M Unit) (ts : List D → M Unit) : List D → M Unit
  | d :: ds => fun e => match t d e with
    | .ok _ e' => ts ds e'
    | .ex x e' => .ex x e'
    | .bad => .bad
  | [] => M.bad
section
variable {X : Cx} {W : WX} {a b c tg : Expr} {es : List Expr} {f g h : M RV} {t : D → M Unit} {ts : List D → M Unit} {us us' : List Nat} {pos : Pos} {x : Str}
theorem pgW {X : Cx} {e : Expr} {t t' : TG} (h : PG X e t) (i : ∀ v σ H Q, t' v σ H Q → t v σ H Q) : PG X e t' := ⟨fun pins s σ H v u Q I r q => h.run pins s σ H v u Q I r (i v σ H Q q)⟩
theorem pgsW {X : Cx} {e : List Expr} {t t' : TGs} (h : PGs X e t) (i : ∀ v σ H Q, t' v σ H Q → t v σ H Q) : PGs X e t' := ⟨fun pins s σ H v u Q I r q => h.run pins s σ H v u Q I r (i v σ H Q q)⟩
theorem dg_name (i : Nat) (hN : X.N.Nodup) (hi : X.N[i]? = some x := by rfl) (hx : Loc X.env.scope x := by first | exact Or.inl rfl | exact Or.inr rfl) (hf : X.fn x = true ∨ X.env.scope.names.lookup x = some .local := by first | exact .inl rfl | exact .inr rfl) : DG X (.Name x pos) [i] (tName i) :=
  pgW (pg_name hN hi hx hf) fun v σ H Q ⟨e, F, d, R, q, h⟩ => by
    unfold tName at h
    split at h
    · rename_i z
      exact h _ F H (Stp.refl.put (sto_ok z)) (R.put q (sto_ok z).1) (But.set _ _ _)
    · exact h.elim
theorem dgs_nil : DGs X [] [] tsNil := pgsW pgs_nil fun vs σ H Q ⟨e, F, ds, R, q, h⟩ => by
  cases q with
  | nil => exact ⟨rfl, h σ F H Stp.refl R (But.refl _ _)⟩
  | cons _ _ => exact h.elim
theorem dgs_cons (h1 : DG X a us t) (h2 : DGs X es us' ts) (hs : (assignEach (a :: es) X.env).map (·.2) = assign a X.env :: (assignEach es X.env).map (·.2) := by rfl) : DGs X (a :: es) (us ++ us') (tsCons t ts) := pgsW (pgs_cons h1 h2 hs) fun vs σ H Q ⟨e, F, ds, R, q, h⟩ => by
  cases q with
  | nil => exact h.elim
  | cons q r =>
    refine ⟨_, _, rfl, e, F, _, R, q, ?_⟩
    unfold tsCons at h
    dsimp only at h
    cases w : t _ e with
    | bad => rw [w] at h; exact h.elim
    | ex x e' => rw [w] at h; exact h.elim
    | ok u e1 => rw [w] at h; exact fun σ' F' H' s q b => ⟨e1, F', _, q, r.mono s.fro, postU_from s b h⟩
theorem dg_tup {k n : Nat} (hc : X.calm = true) (h : DGs X es us ts) (hn : (assignEach es X.env).length = n := by rfl) (hst : (assignEach es X.env).findIdx? (·.1) = none := by rfl) : DG X (.Tuple es k pos) us (tTupD n ts) := pgW (pg_tup hc h hn hst) fun v σ H Q ⟨e, F, d, R, q, h⟩ => by
  unfold tTupD at h
  split at h
  · rename_i ds
    split at h
    · rename_i hl
      cases q with
      | tup q r => exact ⟨_, _, rfl, sqT_mono R.sub q, by rw [r.length]; exact hl, e, F, ds, R, r, h⟩
    · exact h.elim
  · exact h.elim
/-- target = value, frozen -/
def sAsg (f : M RV) (t : D → M Unit) : M Flo := M.bind f fun r => M.bind (frz r) fun d => fun e => match t d e with
  | .ok _ e' => .ok .nx e'
  | _ => .bad
theorem ds_asg (ha : DE X W a f) (hg : DG X tg us t) (hs : swapsWithSole [tg] a pos.line X.env = pure false := by rfl) (hw : swappedStores [tg] a X.env = pure none := by rfl) (h1 : (assignEach [tg] X.env).map (·.2) = [assign tg X.env] := by rfl) : DS X W (.Assign [tg] a pos) (sAsg f t) :=
  psW (ps_asg ha hg hs hw h1) fun E σ H ⟨e, F, R, h⟩ => by
    refine ⟨e, F, R, post_imp (postS_seq h) ?_⟩
    rintro y H1 ⟨r, e1, F1, q1, R1, s1, h1⟩
    cases w : frz r e1 with
    | bad => unfold M.bind at h1; rw [w] at h1; exact h1.elim
    | ex x e' => exact (frz_noex w).elim
    | ok d e2 =>
      unfold M.bind at h1
      rw [w] at h1
      obtain ⟨F2, s2, R2, q2⟩ := frz_ok R1 q1 w s1
      dsimp only at h1
      refine ⟨e2, F2, d, R2, q2, ?_⟩
      cases w2 : t d e2 with
      | bad => rw [w2] at h1; exact h1.elim
      | ex x e' => rw [w2] at h1; exact h1.elim
      | ok u e3 => rw [w2] at h1; exact fun σ' F' H' s q _ => h1 σ' F' H' (s2.trans s) q
end
end Y

set_option Elab.async false
set_option linter.all false
set_option maxRecDepth 100000
set_option maxHeartbeats 4000000
namespace Y
open PySem PySem.Spec L2
set_option autoImplicit false
variable [TB]
/-! ### what is walked, by the data that it gives -/
section
variable (K : PySem.W.Frag) (mg : Mg) (W : WX)
/-- what is given at a turn: an old thing, or a new pair of old ones -/
def Yld (F H : Hp) (x : V) (H' : Hp) (d : D) : Prop := (H' = H ∧ Rep K mg F x d) ∨ ∃ T a b da db, x = .ref T ∧ H T = none ∧ H' = upd H T (.tup [a, b]) ∧ d = .tup [da, db] ∧ Rep K mg F a da ∧ Rep K mg F b db
def WalkD (F : Hp) (J : It) (ds : List D) : Prop := Walk J ds.length (fun H => Same F H) (fun i H x H' => ∃ d, ds[i]? = some d ∧ Yld K mg F H x H' d)
def cI (it : M (List D)) : TI := fun σ H R => ∃ e F, Rel K mg F e σ H ∧ match it e with
  | .ok ds e' => ∀ J F' H', Stp F H e σ F' H' e' σ → Rel K mg F' e' σ H' → WalkD K mg F' J ds → R J H'
  | .ex x e' => ∀ cls d F' H', Stp F H e σ F' H' e' σ → Rel K mg F' e' σ H' → XOk K mg F' cls d x → W cls d σ H'
  | .bad => False
end
abbrev DI (X : Cx) (W : WX) (tg iter : Expr) (it : M (List D)) : Prop := PI X tg iter (cI X.K X.mg W it)
theorem piW {X : Cx} {tg e : Expr} {t t' : TI} (h : PI X tg e t) (i : ∀ σ H Q, t' σ H Q → t σ H Q) : PI X tg e t' := ⟨fun pins s σ H Q I q => h.run pins s σ H Q I (i σ H Q q)⟩
section
variable {K : PySem.W.Frag} {mg : Mg} {W : WX} {F H H' F0 H0 : Hp} {e e0 : Sl} {σ σ0 : St} {x : V} {d : D}
/-- the thing that a turn gives, frozen -/
theorem Yld.got {G : Hp} (R : Rel K mg F e σ H) (sm : Same G F) (y : Yld K mg G H x H' d) : ∃ F', Stp F H e σ F' H' e σ ∧ Rel K mg F' e σ H' ∧ Rep K mg F' x d := by
  rcases y with ⟨rfl, r⟩ | ⟨T, a, b, da, db, rfl, hT, rfl, rfl, ra, rb⟩
  · exact ⟨F, Stp.refl, R, r.mono sm⟩
  · refine ⟨upd F T (.tup [a, b]), Stp.freeze (R.new hT) upd_same (R.free hT) (Stp.new R hT) (.inl hT), (R.new hT).freeze upd_same (R.notOwn hT) (R.free hT) (fun ps z => by cases z), ?_⟩
    have sm' := sm.trans (same_upd' (o := .tup [a, b]) (R.free hT))
    exact .tup (SqT.of upd_same) (.cons (ra.mono sm') (.cons (rb.mono sm') .nil))
end
def itSeq (f : M RV) : M (List D) := M.bind f fun r => M.bind (frz r) fun d => match d with
  | .lst ds => M.ret ds
  | .tup ds => M.ret ds
  | _ => M.bad
def rangeD (lo : Int) (n : Nat) : List D := (List.range n).map fun i : Nat => D.int (lo + (i : Int))
def itR1 (f : M RV) : M (List D) := M.bind f fun r => fun e => match rdat e r with
  | some (.int j) => if -(2 ^ 62) ≤ j ∧ j < 2 ^ 62 then .ok (rangeD 0 j.toNat) e else .bad
  | _ => .bad
def itR2 (f g : M RV) : M (List D) := M.bind f fun r => M.bind g fun r' => fun e => match rdat e r, rdat e r' with
  | some (.int i), some (.int j) => if -(2 ^ 62) ≤ i ∧ i < 2 ^ 62 ∧ -(2 ^ 62) ≤ j ∧ j < 2 ^ 62 then .ok (rangeD i (j - i).toNat) e else .bad
  | _, _ => .bad
section
variable {X : Cx} {W : WX} {a b c tg : Expr} {f g : M RV} {pos p : Pos}
theorem walkD_range {K : PySem.W.Frag} {mg : Mg} {F : Hp} (lo : Int) (n : Nat) : WalkD K mg F (Itr lo n) (rangeD lo n) := by
  have hn : (rangeD lo n).length = n := by unfold rangeD; rw [List.length_map, List.length_range]
  unfold WalkD
  rw [hn]
  refine (walk_range (lo := lo) (n := n)).mono (fun _ _ => trivial) fun i H x H' hi _ y => ?_
  obtain ⟨rfl, rfl⟩ := y
  refine ⟨.int (lo + i), ?_, .inl ⟨rfl, .int _⟩⟩
  unfold rangeD
  rw [List.getElem?_map, List.getElem?_range hi]
  rfl
theorem walkD_list {K : PySem.W.Frag} {mg : Mg} {F : Hp} {a : Addr} {vs : List V} {ds : List D} (h : SqL K F a vs) (r : Reps K mg F vs ds) : WalkD K mg F (Itl K a) ds := by
  unfold WalkD
  rw [← r.length]
  refine (walk_list (K := K) (a := a) (xs := vs)).mono (fun H s => s.seq h) fun i H x H' hi s y => ?_
  obtain ⟨rfl, hx⟩ := y
  have hd : i < ds.length := by rw [← r.length]; exact hi
  obtain ⟨v, h1, h2⟩ := r.get (List.getElem?_eq_getElem hd)
  rw [hx] at h1; cases h1
  exact ⟨_, List.getElem?_eq_getElem hd, .inl ⟨rfl, h2⟩⟩
theorem walkD_tup {K : PySem.W.Frag} {mg : Mg} {F : Hp} {a : Addr} {vs : List V} {ds : List D} (h : SqT K F a vs) (r : Reps K mg F vs ds) : WalkD K mg F (Itt K a) ds := by
  unfold WalkD
  rw [← r.length]
  refine (walk_tup (K := K) (a := a) (xs := vs)).mono (fun H s => sqT_mono s h) fun i H x H' hi s y => ?_
  obtain ⟨rfl, hx⟩ := y
  have hd : i < ds.length := by rw [← r.length]; exact hi
  obtain ⟨v, h1, h2⟩ := r.get (List.getElem?_eq_getElem hd)
  rw [hx] at h1; cases h1
  exact ⟨_, List.getElem?_eq_getElem hd, .inl ⟨rfl, h2⟩⟩
theorem di_range1 (hg : Gl X "range") (hm : X.mg "range" = none) (ha : DE X W a f) (hs : starEach [a] X.env = [(false, eval a X.env)] := by rfl) (hs' : starEach [a] X.env = (false, eval a X.env) :: starEach [] X.env := by rfl) :
    DI X W tg (.Call (.Name "range" p) [a] [] pos) (itR1 f) := piW (pi_range1 hg hm (pa_cons ha pa_nil hs') hs) fun σ H Q ⟨e, F, R, h⟩ => by
  refine ⟨e, F, R, ?_⟩
  unfold itR1 M.bind at h
  cases w : f e with
  | bad => rw [w] at h; exact h.elim
  | ex x e' => rw [w] at h; exact h
  | ok r e1 =>
    rw [w] at h
    dsimp only at h
    intro x F1 H1 s1 R1 q1
    split at h
    · rename_i ds e2 w2
      split at w2
      · rename_i j wj
        split at w2
        · rename_i hj
          cases w2
          exact ⟨j, congrArg (· :: []) (R1.rd q1 wj), hj.1, hj.2, h _ F1 H1 s1 R1 (walkD_range 0 j.toNat)⟩
        · cases w2
      · cases w2
    · rename_i x e2 w2
      split at w2
      · split at w2 <;> cases w2
      · cases w2
    · exact h.elim
theorem di_range2 (hg : Gl X "range") (hm : X.mg "range" = none) (ha : DE X W a f) (hb : DE X W b g) (hs : starEach [a, b] X.env = [(false, eval a X.env), (false, eval b X.env)] := by rfl) (hs2 : starEach [b] X.env = [(false, eval b X.env)] := by rfl)
    (he : starEach [a, b] X.env = (false, eval a X.env) :: starEach [b] X.env := by rfl) (he2 : starEach [b] X.env = (false, eval b X.env) :: starEach [] X.env := by rfl) :
    DI X W tg (.Call (.Name "range" p) [a, b] [] pos) (itR2 f g) := piW (pi_range2 hg hm (pa_cons ha (pa_cons hb pa_nil he2) he) hs hs2) fun σ H Q ⟨e, F, R, h⟩ => by
  refine ⟨e, F, R, ?_⟩
  unfold itR2 M.bind at h
  cases w : f e with
  | bad => rw [w] at h; exact h.elim
  | ex x e' => rw [w] at h; exact h
  | ok r e1 =>
    rw [w] at h
    dsimp only at h
    intro x F1 H1 s1 R1 q1
    refine ⟨e1, F1, R1, ?_⟩
    cases w' : g e1 with
    | bad => rw [w'] at h; exact h.elim
    | ex x e' => rw [w'] at h; exact fun cls d F' H' s q z => h cls d F' H' (s1.trans s) q z
    | ok r' e2 =>
      rw [w'] at h
      dsimp only at h
      intro y F2 H2 s2 R2 q2
      have q1 := q1.step s2
      split at h
      · rename_i ds e3 w2
        split at w2
        · rename_i i j wi wj
          split at w2
          · rename_i hj
            cases w2
            have e1 := R2.rd q1 wi
            have e2 := R2.rd q2 wj
            exact ⟨i, j, by rw [e1, e2], hj, h _ F2 H2 (s1.trans s2) R2 (walkD_range i (j - i).toNat)⟩
          · cases w2
        · cases w2
      · rename_i x e3 w2
        split at w2
        · split at w2 <;> cases w2
        · cases w2
      · exact h.elim
/-- a list or a tuple, whichever it is -/
def iSeq (K : PySem.W.Frag) (tl : TE) : TI := fun σ H R => tl σ H fun x H1 => ∃ a, x = .ref a ∧ (((∃ xs, SqL K H1 a xs) ∧ R (Itl K a) H1) ∨ ((∃ xs, SqT K H1 a xs) ∧ R (Itt K a) H1))
theorem pi_seq {l : Expr} {tl : TE} (hl : PE X l tl) : PI X tg l (iSeq X.K tl) := by
  refine ⟨fun pins s σ H R I h => ?_⟩
  refine thn (hl.run pins s σ H _ I h) fun v s1 ⟨x, H1, I1, r1, a, e, q⟩ => ?_
  subst e
  cases r1
  have fp : ∀ b ∈ [s1.heap.objs.size], FpOk X pins H1 b := fun b hb => by
    have e : b = s1.heap.objs.size := by simpa using hb
    subst e
    exact I1.fpOk (Nat.le_refl _) (I1.hok.fresh (Nat.le_refl _))
  rcases q with ⟨⟨xs, hq⟩, q⟩ | ⟨⟨xs, hq⟩, q⟩
  · obtain ⟨its, rv, p, hz⟩ := I1.list hq
    exact wpAny_pyIter_list p.isList ⟨_, [s1.heap.objs.size], _, _, H1, rfl, I1.kept (t' := s1.toks) fun b o e => Heap.get?_push_of_some _ e, turn_list a _, ⟨_, Heap.get?_push_size _ rfl, rfl, rfl⟩, fp, q⟩
  · obtain ⟨its, rv, p, hz⟩ := I1.tuple hq
    exact wpAny_pyIter_tuple (show s1.heap.IsTuple a its.toArray from p) ⟨_, [s1.heap.objs.size], _, _, H1, rfl, I1.kept (t' := s1.toks) fun b o e => Heap.get?_push_of_some _ e, turn_tuple a _, ⟨_, Heap.get?_push_size _ rfl, rfl, rfl⟩, fp, q⟩
theorem di_seq (ha : DE X W a f) : DI X W tg a (itSeq f) := piW (pi_seq ha) fun σ H Q ⟨e, F, R, h⟩ => by
  refine ⟨e, F, R, ?_⟩
  unfold itSeq M.bind at h
  cases w : f e with
  | bad => rw [w] at h; exact h.elim
  | ex x e' => rw [w] at h; exact h
  | ok r e1 =>
    rw [w] at h
    dsimp only at h
    intro x F1 H1 s1 R1 q1
    cases w' : frz r e1 with
    | bad => rw [w'] at h; exact h.elim
    | ex x e' => exact (frz_noex w').elim
    | ok d e2 =>
      rw [w'] at h
      obtain ⟨F2, s2, R2, q2⟩ := frz_ok R1 q1 w' s1
      dsimp only at h
      cases d with
      | lst ds =>
        cases q2 with
        | lst q r => exact ⟨_, rfl, .inl ⟨⟨_, R2.sub.seq q⟩, h _ F2 H1 s2 R2 (walkD_list q r)⟩⟩
      | tup ds =>
        cases q2 with
        | tup q r => exact ⟨_, rfl, .inr ⟨⟨_, sqT_mono R2.sub q⟩, h _ F2 H1 s2 R2 (walkD_tup q r)⟩⟩
      | _ => exact h.elim
end
/-! ### for -/
def forRun (t : D → M Unit) (body : M Flo) : List D → M Flo
  | [] => sNil
  | d :: r => fun e => match t d e with
    | .ok _ e1 => (match body e1 with
      | .ok .nx e2 => forRun t body r e2
      | .ok .ct e2 => forRun t body r e2
      | .ok .bk e2 => .ok .nx e2
      | .ok (.rt v) e2 => .ok (.rt v) e2
      | .ex x e2 => .ex x e2
      | .bad => .bad)
    | _ => .bad
def sFor (it : M (List D)) (t : D → M Unit) (body : M Flo) : M Flo := M.bind it (forRun t body)
section
variable {X : Cx} {W : WX} {a b c tg iter : Expr} {sts : List Stmt} {it : M (List D)} {t : D → M Unit} {s : M Flo} {us : List Nat} {pos : Pos}
theorem ds_for (hp : PassesOwn (model X.prog X.w) X.A X.env X.xe) (hc : X.calm = true) (hi : DI X W tg iter it) (hg : DG X tg us t) (hb : DSs X W sts s) (hs : ∀ x, foldedSetIterable iter X.env x = pure x := by intro _; rfl) : DS X W (.For tg iter sts [] pos) (sFor it t s) :=
  psW (ps_for hp hc hi hg hb hs) fun E σ H ⟨e, F, R, h⟩ => by
    refine ⟨e, F, R, ?_⟩
    unfold sFor M.bind at h
    cases w : it e with
    | bad => rw [w] at h; exact h.elim
    | ex x e' => rw [w] at h; exact fun cls d F' H' s q z => h cls d σ F' H' s q z
    | ok ds e1 =>
      rw [w] at h
      intro J F1 H1 s1 R1 wd
      refine for_it wd (fun i σ' H' => ∃ e' F', Rel X.K X.mg F' e' σ' H' ∧ Stp F H e σ F' H' e' σ' ∧ Same F1 F' ∧ postS X.K X.mg W F H e σ (forRun t s (ds.drop i) e') E) ⟨e1, F1, R1, s1, Same.refl _, h⟩ (fun i σ' H' _ ⟨e', F', R', _, sm, _⟩ => sm.trans R'.sub) ?_ ?_
      · rintro i x σ2 H2 H3 hi ⟨e2, F2, R2, s2, sm2, h2⟩ ⟨d, hd, y⟩
        obtain ⟨F3, s3, R3, q3⟩ := y.got R2 sm2
        refine ⟨e2, F3, d, R3, q3, ?_⟩
        rw [show ds.drop i = d :: ds.drop (i + 1) from by
          have hl := (List.getElem?_eq_some_iff.mp hd)
          obtain ⟨hl, he⟩ := hl
          rw [List.drop_eq_getElem_cons hl, he]] at h2
        unfold forRun at h2
        cases w2 : t d e2 with
        | bad => rw [w2] at h2; exact h2.elim
        | ex x e' => rw [w2] at h2; exact h2.elim
        | ok u e3 =>
          rw [w2] at h2
          intro σ4 F4 H4 s4 R4 _
          refine ⟨e3, F4, R4, ?_⟩
          have s34 := (s2.trans s3).trans s4
          have sm4 := (sm2.trans s3.fro).trans s4.fro
          dsimp only at h2
          cases w3 : s e3 with
          | bad => rw [w3] at h2; exact h2.elim
          | ex x e' => rw [w3] at h2; exact fun cls dd σ5 F5 H5 s5 R5 z => h2 cls dd σ5 F5 H5 (s34.trans s5) R5 z
          | ok fl e4 =>
            rw [w3] at h2
            cases fl with
            | nx => exact fun σ5 F5 H5 s5 R5 => ⟨e4, F5, R5, s34.trans s5, sm4.trans s5.fro, h2⟩
            | ct => exact fun σ5 F5 H5 s5 R5 => ⟨e4, F5, R5, s34.trans s5, sm4.trans s5.fro, h2⟩
            | bk => exact fun σ5 F5 H5 s5 R5 => h2 σ5 F5 H5 (s34.trans s5) R5
            | rt r => exact fun v σ5 F5 H5 s5 R5 z => h2 v σ5 F5 H5 (s34.trans s5) R5 (z.imp fun x y => s34.nm y)
      · rintro σ2 H2 ⟨e2, F2, R2, s2, sm2, h2⟩
        rw [List.drop_length] at h2
        exact h2 σ2 F2 H2 s2 R2
end
/-! ### while, with the turns counted -/
def whRun (p : M Bool) (body : M Flo) : Nat → M Flo
  | 0 => M.bad
  | n + 1 => fun e => match p e with
    | .ok false e1 => .ok .nx e1
    | .ok true e1 => (match body e1 with
      | .ok .nx e2 => whRun p body n e2
      | .ok .ct e2 => whRun p body n e2
      | .ok .bk e2 => .ok .nx e2
      | .ok (.rt v) e2 => .ok (.rt v) e2
      | .ex x e2 => .ex x e2
      | .bad => .bad)
    | .ex x e1 => .ex x e1
    | .bad => .bad
open Classical in
noncomputable def sWhile (p : M Bool) (body : M Flo) : M Flo := fun e => if h : ∃ n, whRun p body n e ≠ .bad then whRun p body (choose h) e else .bad
theorem whRun_more {p : M Bool} {body : M Flo} : ∀ {n m : Nat} {e : Sl}, n ≤ m → whRun p body n e ≠ .bad → whRun p body m e = whRun p body n e := by
  intro n
  induction n with
  | zero => intro m e _ h; exact absurd rfl h
  | succ n ih =>
    intro m e hm h
    obtain ⟨m, rfl⟩ : ∃ k, m = k + 1 := ⟨m - 1, by omega⟩
    unfold whRun at h ⊢
    cases w : p e with
    | bad => rfl
    | ex x e1 => rfl
    | ok c e1 =>
      rw [w] at h
      cases c with
      | false => rfl
      | true =>
        dsimp only at h ⊢
        cases w2 : body e1 with
        | bad => rfl
        | ex x e2 => rfl
        | ok fl e2 =>
          rw [w2] at h
          cases fl with
          | nx => exact ih (by omega) h
          | ct => exact ih (by omega) h
          | bk => rfl
          | rt v => rfl
/-- the value of a while, once some number of turns is enough -/
theorem sWhile_eq {p : M Bool} {body : M Flo} {n : Nat} {e : Sl} (h : whRun p body n e ≠ .bad) : sWhile p body e = whRun p body n e := by
  unfold sWhile
  have hx : ∃ n, whRun p body n e ≠ .bad := ⟨n, h⟩
  rw [dif_pos hx]
  have hc := Classical.choose_spec hx
  rcases Nat.le_total n (Classical.choose hx) with z | z
  · exact whRun_more z h
  · exact (whRun_more z hc).symm
section
variable {X : Cx} {W : WX} {c : Expr} {sts : List Stmt} {p : M Bool} {s : M Flo} {pos : Pos}
theorem ds_while (hp : PassesOwn (model X.prog X.w) X.A X.env X.xe) (hc : DT X W c p) (hb : DSs X W sts s) : DS X W (.While c sts [] pos) (sWhile p s) := psW (ps_while hp hc hb) fun E σ H ⟨e, F, R, h⟩ => by
  have hx : ∃ n, whRun p s n e ≠ .bad := Classical.byContradiction fun z => by
    unfold sWhile at h
    rw [dif_neg z] at h
    exact h
  obtain ⟨n, hn⟩ := hx
  rw [sWhile_eq hn] at h
  refine ⟨fun m σ' H' => ∃ e' F', Rel X.K X.mg F' e' σ' H' ∧ Stp F H e σ F' H' e' σ' ∧ postS X.K X.mg W F H e σ (whRun p s m e') E, ⟨n, e, F, R, Stp.refl, h⟩, ?_⟩
  rintro m σ2 H2 ⟨e2, F2, R2, s2, h2⟩
  cases m with
  | zero => exact h2.elim
  | succ m =>
    unfold whRun at h2
    refine ⟨e2, F2, R2, ?_⟩
    cases w : p e2 with
    | bad => rw [w] at h2; exact h2.elim
    | ex x e3 => rw [w] at h2; exact fun cls d F' H' s' q z => h2 cls d σ2 F' H' (s2.trans s') q z
    | ok b e3 =>
      rw [w] at h2
      intro b' F3 H3 s3 R3 z
      cases z
      cases b with
      | false => exact iteF (h2 σ2 F3 H3 (s2.trans s3) R3)
      | true =>
        dsimp only at h2
        refine iteT ⟨fun σ' H' => ∃ e' F', Rel X.K X.mg F' e' σ' H' ∧ Stp F H e σ F' H' e' σ' ∧ postS X.K X.mg W F H e σ (whRun p s m e') E, fun σ' H' z => ⟨m, Nat.lt_succ_self m, z⟩, e3, F3, R3, ?_⟩
        have s23 := s2.trans s3
        cases w2 : s e3 with
        | bad => rw [w2] at h2; exact h2.elim
        | ex x e4 => rw [w2] at h2; exact fun cls d σ5 F5 H5 s5 q z => h2 cls d σ5 F5 H5 (s23.trans s5) q z
        | ok fl e4 =>
          rw [w2] at h2
          cases fl with
          | nx => exact fun σ5 F5 H5 s5 R5 => ⟨e4, F5, R5, s23.trans s5, h2⟩
          | ct => exact fun σ5 F5 H5 s5 R5 => ⟨e4, F5, R5, s23.trans s5, h2⟩
          | bk => exact fun σ5 F5 H5 s5 R5 => h2 σ5 F5 H5 (s23.trans s5) R5
          | rt r => exact fun v σ5 F5 H5 s5 R5 z => h2 v σ5 F5 H5 (s23.trans s5) R5 (z.imp fun x y => s23.nm y)
end
end Y

set_option Elab.async false
set_option linter.all false
set_option maxRecDepth 100000
set_option maxHeartbeats 4000000
namespace Y
open PySem PySem.Spec L2
set_option autoImplicit false
variable [TB]
/-! ### list comprehensions -/
/-- the comprehension's own slots, forgotten -/
def wip (e : Sl) : List Nat → Sl
  | [] => e
  | v :: vs => (wip e vs).set v .no
def noOwn (e : Sl) (vs : List Nat) : Bool := vs.all fun i => match e[i]? with
  | some (.own _ _) => false
  | _ => true
/-- .. and as they were -/
def unw (e0 e : Sl) : List Nat → Sl
  | [] => e
  | v :: vs => match e0[v]? with
    | some s => (unw e0 e vs).set v s
    | none => unw e0 e vs
def lcRun (t : D → M Unit) (p : M Bool) (f : M RV) (vs : List Nat) : List D → List D → M (List D)
  | [], acc => M.ret acc
  | d :: r, acc => fun e => match t d e with
    | .ok _ e1 => (match p e1 with
      | .ok true e2 => (match M.bind f frz e2 with
        | .ok y e3 => if acc.length < sizeLine then lcRun t p f vs r (acc ++ [y]) (wip e3 vs) else .bad
        | _ => .bad)
      | .ok false e2 => lcRun t p f vs r acc (wip e2 vs)
      | _ => .bad)
    | _ => .bad
def eLc (it : M (List D)) (t : D → M Unit) (p : M Bool) (f : M RV) (vs : List Nat) : M RV := M.bind it fun ds => fun e => if noOwn e vs then (match lcRun t p f vs ds [] (wip e vs) with
  | .ok acc e' => .ok (.own (.lst acc)) (unw e e' vs)
  | _ => .bad) else .bad
def tYesD : M Bool := M.ret true
section
variable {K : PySem.W.Frag} {mg : Mg} {F H F' H' : Hp} {e e' e0 : Sl} {σ : St}
theorem wip_len (e : Sl) : ∀ vs, (wip e vs).length = e.length
  | [] => rfl
  | v :: vs => by unfold wip; rw [List.length_set, wip_len e vs]
theorem wip_get {i : Nat} {s : Slot} : ∀ {vs : List Nat}, (wip e vs)[i]? = some s → (s = .no ∨ e[i]? = some s)
  | [], h => .inr h
  | v :: vs, h => by
    unfold wip at h
    rcases get_set_of h with ⟨_, rfl⟩ | ⟨_, h⟩
    · exact .inl rfl
    · exact wip_get h
theorem wip_at {i : Nat} : ∀ {vs : List Nat}, i ∉ vs → (wip e vs)[i]? = e[i]?
  | [], _ => rfl
  | v :: vs, h => by
    unfold wip
    rw [List.getElem?_set_ne (fun z => h (by rw [z]; exact List.mem_cons_self))]
    exact wip_at fun z => h (List.mem_cons_of_mem _ z)
theorem wip_mem {i : Nat} : ∀ {vs : List Nat}, i ∈ vs → i < e.length → (wip e vs)[i]? = some .no
  | v :: vs, h, hl => by
    unfold wip
    by_cases z : v = i
    · subst z; rw [List.getElem?_set_self (by rw [wip_len]; exact hl)]
    · rw [List.getElem?_set_ne z]
      rcases List.mem_cons.mp h with y | y
      · exact absurd y.symm z
      · exact wip_mem y hl
theorem wipe_at {i : Nat} : ∀ {vs : List Nat}, i ∉ vs → (wipe σ vs)[i]? = σ[i]?
  | [], _ => rfl
  | v :: vs, h => by
    unfold wipe
    rw [List.getElem?_set_ne (fun z => h (by rw [z]; exact List.mem_cons_self))]
    exact wipe_at fun z => h (List.mem_cons_of_mem _ z)
theorem Rel.wip (R : Rel K mg F e σ H) (vs : List Nat) : Rel K mg F (wip e vs) (wipe σ vs) H where
  tab := R.tab
  ftb := R.ftb
  sub := R.sub
  len := by rw [wip_len, wipe_length]; exact R.len
  ok := fun i s o es ex => by
    by_cases z : i ∈ vs
    · have hl : i < e.length := by rw [← wip_len e vs]; exact (List.getElem?_eq_some_iff.mp es).1
      rw [wip_mem z hl] at es
      cases es
      trivial
    · rw [wip_at z] at es
      rw [wipe_at z] at ex
      exact R.ok i s o es ex
  inj := fun i j f g c d a ei ej si sj => by
    have get : ∀ {k : Nat} {f c}, (Y.wip e vs)[k]? = some (.own f c) → k ∉ vs ∧ e[k]? = some (.own f c) := fun {k f c} h => by
      by_cases z : k ∈ vs
      · have hl : k < e.length := by rw [← wip_len e vs]; exact (List.getElem?_eq_some_iff.mp h).1
        rw [wip_mem z hl] at h; cases h
      · exact ⟨z, by rw [wip_at z] at h; exact h⟩
    obtain ⟨zi, ei⟩ := get ei
    obtain ⟨zj, ej⟩ := get ej
    rw [wipe_at zi] at si
    rw [wipe_at zj] at sj
    exact R.inj i j f g c d a ei ej si sj
theorem own_wip {vs : List Nat} {b : Addr} (h : Own (wip e vs) (wipe σ vs) b) : Own e σ b := by
  obtain ⟨i, f, c, h1, h2⟩ := h
  by_cases z : i ∈ vs
  · have hl : i < e.length := by rw [← wip_len e vs]; exact (List.getElem?_eq_some_iff.mp h1).1
    rw [wip_mem z hl] at h1; cases h1
  · rw [wip_at z] at h1
    rw [wipe_at z] at h2
    exact ⟨i, f, c, h1, h2⟩
theorem wip_own {vs : List Nat} {b : Addr} (hn : noOwn e vs = true) (h : Own e σ b) : Own (wip e vs) (wipe σ vs) b := by
  obtain ⟨i, f, c, h1, h2⟩ := h
  have z : i ∉ vs := fun z => by
    have q := List.all_eq_true.mp hn i z
    rw [h1] at q
    cases q
  exact ⟨i, f, c, by rw [wip_at z]; exact h1, by rw [wipe_at z]; exact h2⟩
theorem unw_at {i : Nat} : ∀ {vs : List Nat}, i ∉ vs → (unw e0 e vs)[i]? = e[i]?
  | [], _ => rfl
  | v :: vs, h => by
    have ih := unw_at (i := i) (vs := vs) fun z => h (List.mem_cons_of_mem _ z)
    unfold unw
    split
    · rw [List.getElem?_set_ne (fun z => h (by rw [z]; exact List.mem_cons_self))]
      exact ih
    · exact ih
theorem unw_len : ∀ vs : List Nat, (unw e0 e vs).length = e.length
  | [] => rfl
  | v :: vs => by
    unfold unw
    split
    · rw [List.length_set, unw_len vs]
    · exact unw_len vs
theorem unw_mem {i : Nat} : ∀ {vs : List Nat}, i ∈ vs → i < e0.length → e0.length = e.length → (unw e0 e vs)[i]? = e0[i]?
  | v :: vs, h, hl, hz => by
    unfold unw
    by_cases z : v = i
    · subst z
      rw [List.getElem?_eq_getElem hl]
      dsimp only
      rw [List.getElem?_set_self (by rw [unw_len, ← hz]; exact hl)]
    · rcases List.mem_cons.mp h with y | y
      · exact absurd y.symm z
      · split
        · rw [List.getElem?_set_ne z]
          exact unw_mem y hl hz
        · exact unw_mem y hl hz
/-- behind the comprehension: all as before it, but what was done -/
theorem unw_ok {vs : List Nat} (R : Rel K mg F e σ H) (hn : noOwn e vs = true) (s : Stp F H (wip e vs) (wipe σ vs) F' H' e' (wipe σ vs)) (R' : Rel K mg F' e' (wipe σ vs) H') :
    Rel K mg F' (unw e e' vs) σ H' ∧ Stp F H e σ F' H' (unw e e' vs) σ ∧ ∀ b, Own (unw e e' vs) σ b → Own e' (wipe σ vs) b := by
  have hl' : e.length = e'.length := by rw [R'.len, wipe_length]; exact R.len
  have get : ∀ {k : Nat} {f : Bool} {c : Cont}, (unw e e' vs)[k]? = some (.own f c) → k ∉ vs ∧ e'[k]? = some (.own f c) := fun {k f c} h => by
    by_cases z : k ∈ vs
    · have hl : k < e.length := by rw [hl', ← unw_len (e0 := e) vs]; exact (List.getElem?_eq_some_iff.mp h).1
      rw [unw_mem z hl hl'] at h
      have q := List.all_eq_true.mp hn k z
      rw [h] at q
      cases q
    · exact ⟨z, by rw [unw_at z] at h; exact h⟩
  have ow : ∀ b, Own (unw e e' vs) σ b → Own e' (wipe σ vs) b := fun b ⟨i, f, c, h1, h2⟩ => by
    obtain ⟨z, h1⟩ := get h1
    exact ⟨i, f, c, h1, by rw [wipe_at z]; exact h2⟩
  have nm : ∀ b, NM H (wip e vs) (wipe σ vs) b → NM H e σ b := fun b z => z.imp id own_wip
  refine ⟨⟨R'.sub, by rw [unw_len, ← hl']; exact R.len, fun i t o es ex => ?_, fun i j f g c d a ei ej si sj => ?_, R'.tab, R'.ftb⟩, ⟨s.fro, fun b o h n m => s.kept b o h (fun z => n (own_wip z)) m, s.dom, fun b h h' => nm b (s.newF b h h'), fun b h => nm b (s.newO b (ow b h)), fun i c h => ?_, by rw [unw_len]; exact hl'.symm⟩, ow⟩
  · by_cases z : i ∈ vs
    · have hl : i < e.length := by rw [R.len]; exact (List.getElem?_eq_some_iff.mp ex).1
      rw [unw_mem z hl hl'] at es
      have q := R.ok i t o es ex
      cases t with
      | no => trivial
      | val d => obtain ⟨v, h1, h2⟩ := q; exact ⟨v, h1, h2.mono s.fro⟩
      | own f c =>
        have q' := List.all_eq_true.mp hn i z
        rw [es] at q'
        cases q'
    · rw [unw_at z] at es
      exact R'.ok i t o es (by rw [wipe_at z]; exact ex)
  · obtain ⟨zi, ei⟩ := get ei
    obtain ⟨zj, ej⟩ := get ej
    exact R'.inj i j f g c d a ei ej (by rw [wipe_at zi]; exact si) (by rw [wipe_at zj]; exact sj)
  · have z : i ∉ vs := fun z => by
      have q := List.all_eq_true.mp hn i z
      rw [h] at q
      cases q
    obtain ⟨⟨c', h1⟩, _⟩ := s.fix i c (by rw [wip_at z]; exact h)
    exact ⟨⟨c', by rw [unw_at z]; exact h1⟩, rfl⟩
end
/-- no exception leaves from within -/
abbrev W0 : WX := fun _ _ _ _ => False
theorem But.wipe {us : List Nat} {σ σ' : St} (b : But us σ σ') : L2.wipe σ' us = L2.wipe σ us := by
  apply List.ext_getElem?
  intro i
  by_cases z : i ∈ us
  · have at_ : ∀ (σ : St) (us : List Nat), i ∈ us → (L2.wipe σ us)[i]? = if i < σ.length then some none else none := by
      intro σ us
      induction us with
      | nil => intro h; cases h
      | cons v vs ih =>
        intro h
        unfold L2.wipe
        rw [List.getElem?_set]
        split
        · rename_i hv
          subst hv
          rw [wipe_length]
        · rename_i hv
          rcases List.mem_cons.mp h with y | y
          · exact absurd y.symm hv
          · exact ih y
    rw [at_ σ' us z, at_ σ us z, b.1]
  · rw [wipe_at z, wipe_at z]
    exact b.2 i z
theorem wipe_but (us : List Nat) (σ : St) : But us σ (L2.wipe σ us) := ⟨wipe_length _ _, fun i h => wipe_at h⟩
theorem wipe_wipe (us : List Nat) (σ : St) : L2.wipe (L2.wipe σ us) us = L2.wipe σ us := (wipe_but us σ).wipe
section
variable {X : Cx} {W : WX} {elt tg iter : Expr} {ifs : List Expr} {scope : Scope} {own : List (Str × Nat)} {it : M (List D)} {t : D → M Unit} {p : M Bool} {f : M RV} {us : List Nat} {pos pos' spos : Pos}
theorem lc_ok {K : PySem.W.Frag} {mg : Mg} {σ : St} {H : Hp} {Q : VK} (h : cE K mg W (eLc it t p f us) σ H Q) : tLc (cI K mg W it) (cU K mg us t) (cT K mg W0 p) (cE K mg W0 f) us σ H Q := by
  obtain ⟨e, F, R, h⟩ := h
  refine ⟨e, F, R, ?_⟩
  unfold eLc M.bind at h
  cases w : it e with
  | bad => rw [w] at h; exact h.elim
  | ex x e' => rw [w] at h; exact h
  | ok ds e1 =>
    rw [w] at h
    intro J F1 H1 s1 R1 wd D hD
    dsimp only at h
    split at h
    · rename_i hn
      split at h
      · rename_i accF eF wF
        have Rw := R1.wip us
        have RD := Rw.new (o := .lst []) hD
        refine lc_it (vs := us) (σ := σ) wd (fun i H' => ∃ e' F' acc av, Rel K mg F' e' (wipe σ us) H' ∧ Stp F1 H1 (wip e1 us) (wipe σ us) F' H' e' (wipe σ us) ∧ Same F1 F' ∧ H' D = some (.lst av) ∧ F' D = none ∧ ¬ Own e' (wipe σ us) D ∧ Reps K mg F' av acc ∧ lcRun t p f us (ds.drop i) acc e' = .ok accF eF)
          ⟨wip e1 us, F1, [], [], RD, Stp.new Rw hD, Same.refl _, upd_same, Rw.free hD, Rw.notOwn hD, .nil, wF⟩ (fun i H' _ ⟨e', F', _, _, R', _, sm, _⟩ => sm.trans R'.sub) ?_ ?_
        · rintro i x H2 H3 hi ⟨e2, F2, acc, av, R2, s2, sm2, d1, d2, d3, d4, w2⟩ ⟨d, hd, y⟩
          obtain ⟨F3, s3, R3, q3⟩ := y.got R2 sm2
          refine ⟨e2, F3, d, R3, q3, ?_⟩
          rw [show ds.drop i = d :: ds.drop (i + 1) from by
            obtain ⟨hl, he⟩ := (List.getElem?_eq_some_iff.mp hd)
            rw [List.drop_eq_getElem_cons hl, he]] at w2
          unfold lcRun at w2
          -- the new list is nobody's while the rest is reckoned
          have keep : ∀ {e5 : Sl} {F5 H5 : Hp} {σ5 : St}, Stp F2 H2 e2 (wipe σ us) F5 H5 e5 σ5 → H5 D = some (.lst av) ∧ F5 D = none ∧ ¬ Own e5 σ5 D := fun {e5 F5 H5 σ5} s5 => by
            have nD : ¬ NM H2 e2 (wipe σ us) D := fun z => by
              rcases z with z | z
              · rw [d1] at z; cases z
              · exact d3 z
            refine ⟨s5.kept D _ d1 d3 (fun ps z => by cases z), ?_, fun z => nD (s5.newO D z)⟩
            cases q : F5 D with
            | none => rfl
            | some u => exact absurd (s5.newF D d2 (by rw [q]; exact fun z => nomatch z)) nD
          -- back to the wiped slots
          have back : ∀ {e5 : Sl} {F5 H5 : Hp} {σ5 : St}, wipe σ5 us = wipe σ us → Rel K mg F5 e5 σ5 H5 → Stp F2 H2 e2 (wipe σ us) F5 H5 e5 σ5 → (∀ i c, e2[i]? = some (.own true c) → i ∉ us) → Rel K mg F5 (wip e5 us) (wipe σ us) H5 ∧ Stp F2 H2 e2 (wipe σ us) F5 H5 (wip e5 us) (wipe σ us) := fun {e5 F5 H5 σ5} hw R5 s5 hfix => by
            have Rw5 := R5.wip us
            rw [hw] at Rw5
            refine ⟨Rw5, s5.fro, s5.kept, s5.dom, s5.newF, fun b hb => s5.newO b (own_wip (vs := us) (by rw [hw]; exact hb)), fun i c hc => ?_, by rw [wip_len]; exact s5.len⟩
            obtain ⟨⟨c', h1⟩, h2⟩ := s5.fix i c hc
            exact ⟨⟨c', by rw [wip_at (hfix i c hc)]; exact h1⟩, rfl⟩
          have nofix : ∀ i c, e2[i]? = some (.own true c) → i ∉ us := fun i c hc hm => by
            have hl : i < (wipe σ us).length := by rw [← R2.len]; exact (List.getElem?_eq_some_iff.mp hc).1
            obtain ⟨p, o, h1, _⟩ := R2.ok i _ _ hc (List.getElem?_eq_getElem hl)
            have h2 : (wipe σ us)[i]? = some (some (.ref p)) := by rw [List.getElem?_eq_getElem hl, h1]
            exact (wipe_some h2).2 hm
          cases wt : t d e2 with
          | bad => rw [wt] at w2; cases w2
          | ex x e' => rw [wt] at w2; cases w2
          | ok u e3 =>
            rw [wt] at w2
            intro σ4 F4 H4 s4 R4 bt
            have hw4 : wipe σ4 us = wipe σ us := by rw [bt.wipe, wipe_wipe]
            dsimp only at w2
            refine ⟨hw4, e3, F4, R4, ?_⟩
            cases wp : p e3 with
            | bad => rw [wp] at w2; cases w2
            | ex x e' => rw [wp] at w2; cases w2
            | ok b e4 =>
              rw [wp] at w2
              intro b' F5 H5 s5 R5 hb'
              cases hb'
              have s25 := (s3.trans s4).trans s5
              cases b with
              | false =>
                obtain ⟨k1, k2, k3⟩ := keep s25
                obtain ⟨Rb, sb⟩ := back hw4 R5 s25 nofix
                obtain ⟨k4, k5, k6⟩ := keep sb
                exact iteF ⟨wip e4 us, F5, acc, av, Rb, s2.trans sb, sm2.trans s25.fro, k4, k5, k6, d4.mono s25.fro, w2⟩
              | true =>
                dsimp only at w2
                refine iteT ⟨e4, F5, R5, ?_⟩
                unfold M.bind at w2
                cases wf : f e4 with
                | bad => rw [wf] at w2; cases w2
                | ex x e' => rw [wf] at w2; cases w2
                | ok r e5 =>
                  rw [wf] at w2
                  intro y F6 H6 s6 R6 q6
                  dsimp only at w2
                  cases wz : frz r e5 with
                  | bad => rw [wz] at w2; cases w2
                  | ex x e' => exact (frz_noex wz).elim
                  | ok dy e6 =>
                    rw [wz] at w2
                    dsimp only at w2
                    split at w2
                    · rename_i hz
                      obtain ⟨F7, s7, R7, q7⟩ := frz_ok R6 q6 wz s6
                      have s27 := s25.trans s7
                      obtain ⟨k1, k2, k3⟩ := keep s27
                      obtain ⟨Rb, sb⟩ := back hw4 R7 s27 nofix
                      obtain ⟨k4, k5, k6⟩ := keep sb
                      refine ⟨av, k1, by rw [d4.length]; exact hz, wip e6 us, F7, acc ++ [dy], av ++ [y], ?_, ?_, sm2.trans s27.fro, upd_same, k5, k6, (d4.mono s27.fro).append (.cons q7 .nil), w2⟩
                      · -- the new list's own content turns
                        refine ⟨fun b u q => ?_, Rb.len, fun j sl o es ex => ?_, Rb.inj, Rb.tab.chg k4 (fun ps z => by cases z) (fun q z => by cases z), Rb.ftb⟩
                        · rw [upd_ne (ne_of_none q k5)]; exact Rb.sub b u q
                        · have q := Rb.ok j sl o es ex
                          cases sl with
                          | no => trivial
                          | val d => exact q
                          | own fx c =>
                            obtain ⟨a', o', h1, hf', hh', hc'⟩ := q
                            refine ⟨a', o', h1, hf', ?_, hc'⟩
                            rw [upd_ne]
                            · exact hh'
                            · rintro rfl
                              exact k6 ⟨j, fx, c, es, by rw [ex, h1]⟩
                      · have s1b := s2.trans sb
                        refine ⟨s1b.fro, fun b o h n m => ?_, fun b h => ?_, s1b.newF, s1b.newO, s1b.fix, s1b.len⟩
                        · rw [upd_ne (ne_of_none h hD)]; exact s1b.kept b o h n m
                        · by_cases z : b = D
                          · rw [z]; exact hD
                          · rw [upd_ne z] at h; exact s1b.dom b h
                    · cases w2
        · rintro H2 ⟨e2, F2, acc, av, R2, s2, sm2, d1, d2, d3, d4, w2⟩
          rw [List.drop_length] at w2
          unfold lcRun at w2
          cases w2
          obtain ⟨Ru, su, ow⟩ := unw_ok R1 hn s2 R2
          refine h (.ref D) F2 H2 (s1.trans su) Ru ⟨D, _, rfl, d2, d1, ⟨av, rfl, d4⟩, fun z => d3 (ow D z), .inl (s1.dom D hD)⟩
      · exact h.elim
    · exact h.elim
variable (hN : X.N.Nodup)
/-- tests of a comprehension -/
abbrev DTs (X : Cx) (ifs : List Expr) (p : M Bool) : Prop := PTs X ifs (cT X.K X.mg W0 p)
theorem dts_nil {X : Cx} : DTs X [] tYesD := ⟨fun pins s σ H Q I ⟨e, F, R, h⟩ => pts_nil.run pins s σ H Q I (post_ret R h rfl)⟩
theorem dts_one {X : Cx} {c : Expr} (h : DT X W0 c p) : DTs X [c] p := pts_one h
theorem de_lc (own : List (Str × Nat)) (hc : X.calm = true) (hN : X.N.Nodup) (hi : DI X W tg iter it) (ok : blkC X.N X.env.scope scope own = true)
    (hg : ∀ (s : Shared) (H : Hp) (C : Addr) (cl : List (Str × Addr)) (fp : List Addr), DG (X.blk s H scope (compEnvC scope cl C X.env) fp) tg (own.map (·.2)) t) (ht : ∀ (s : Shared) (H : Hp) (C : Addr) (cl : List (Str × Addr)) (fp : List Addr), DTs (X.blk s H scope (compEnvC scope cl C X.env) fp) ifs p)
    (he : ∀ (s : Shared) (H : Hp) (C : Addr) (cl : List (Str × Addr)) (fp : List Addr), DE (X.blk s H scope (compEnvC scope cl C X.env) fp) W0 elt f) (hs : ∀ x, foldedSetIterable iter X.env x = pure x := by intro _; rfl) :
    DE X W (.ListComp elt [⟨tg, iter, ifs, 0⟩] scope pos) (eLc it t p f (own.map (·.2))) := peW (pe_lc hc hN hi (blkOk_by ok) hg ht he hs) fun _ _ _ h => lc_ok h
theorem ds_setLc (i : Nat) {y : Str} {py : Pos} (own : List (Str × Nat)) (hc : X.calm = true) (hN : X.N.Nodup) (hy : X.N[i]? = some y) (hyl : X.env.scope.names.lookup y = some .local) (hsw : swapsWith (.ListComp elt [⟨tg, iter, ifs, 0⟩] scope pos) (some (.Name y py)) spos.line X.env = pure true)
    (hi : DI X W tg iter it) (ok : blkC X.N X.env.scope scope own = true)
    (hg : ∀ (s : Shared) (H : Hp) (C : Addr) (cl : List (Str × Addr)) (fp : List Addr), DG (X.blk s H scope (compEnvC scope cl C X.env) fp) tg (own.map (·.2)) t) (ht : ∀ (s : Shared) (H : Hp) (C : Addr) (cl : List (Str × Addr)) (fp : List Addr), DTs (X.blk s H scope (compEnvC scope cl C X.env) fp) ifs p)
    (he : ∀ (s : Shared) (H : Hp) (C : Addr) (cl : List (Str × Addr)) (fp : List Addr), DE (X.blk s H scope (compEnvC scope cl C X.env) fp) W0 elt f) (hs : ∀ x, foldedSetIterable iter X.env x = pure x := by intro _; rfl) :
    DS X W (.Assign [.Name y py] (.ListComp elt [⟨tg, iter, ifs, 0⟩] scope pos) spos) (sSet i (eLc it t p f (own.map (·.2)))) := psW (ps_setLc hc hN hy hyl hsw hi (blkOk_by ok) hg ht he hs) fun E σ H ⟨e, F, R, h⟩ => by
  refine lc_ok (W := W) ⟨e, F, R, post_imp (postS_seq h) ?_⟩
  rintro v H1 ⟨r, e1, F1, q1, R1, s1, h1⟩
  exact stor_ok R1 q1 s1 h1
end
end Y

set_option Elab.async false
set_option linter.all false
set_option maxRecDepth 100000
set_option maxHeartbeats 4000000
namespace Y
open PySem PySem.Spec L2
set_option autoImplicit false
variable [TB]
/-! ### a def, by what it does to data -/
abbrev Fn := Sl → Res RV
def isArg : Slot → Bool
  | .val _ => true
  | .own true _ => true
  | _ => false
def cSp (K : PySem.W.Frag) (mg : Mg) (f : Fn) : Sp := fun vs H Q E => ∃ args F, Rel K mg F args (vs.map some) H ∧ args.all isArg = true ∧ post K mg (fun c d _ H => E c d H) (rV K mg) F H args (vs.map some) (f args) Q
/-- what is left of the arguments: lent things as they are now -/
def outs : Sl → Sl → Sl
  | .own _ _ :: r, s :: t => s :: outs r t
  | a :: r, _ :: t => a :: outs r t
  | _, _ => []
def fnD (np n : Nat) (body : M Flo) : Fn := fun args => if args.length = np then (match body (args ++ List.replicate (n - np) .no) with
  | .ok (.rt (.val d)) e => .ok (.val d) (outs args e)
  | .ok (.rt (.own c)) e => .ok (.own c) (outs args e)
  | .ok .nx e => .ok (.val .non) (outs args e)
  | .ex x e => .ex x (outs args e)
  | _ => .bad) else .bad
section
variable {K : PySem.W.Frag} {mg : Mg} {F H F' H' : Hp}
theorem outs_len : ∀ {args e : Sl}, args.length ≤ e.length → (outs args e).length = args.length
  | [], _, _ => by cases ‹Sl› <;> rfl
  | s :: r, [], h => by simp at h
  | .no :: r, t :: u, h => by show (outs r u).length + 1 = r.length + 1; rw [outs_len (by simpa using h)]
  | .val d :: r, t :: u, h => by show (outs r u).length + 1 = r.length + 1; rw [outs_len (by simpa using h)]
  | .own f c :: r, t :: u, h => by show (outs r u).length + 1 = r.length + 1; rw [outs_len (by simpa using h)]
theorem outs_get : ∀ {args e : Sl} {i : Nat} {s : Slot}, (outs args e)[i]? = some s → (∃ f c, args[i]? = some (.own f c) ∧ e[i]? = some s) ∨ ((∀ f c, args[i]? ≠ some (.own f c)) ∧ args[i]? = some s)
  | [], e, i, s, h => by cases e <;> simp [outs] at h
  | s :: r, [], i, _, h => by cases s <;> simp [outs] at h
  | .no :: r, t :: u, 0, s, h => by
    have e : Slot.no = s := by simpa [outs] using h
    subst e
    exact .inr ⟨fun f c z => by simp at z, rfl⟩
  | .val d :: r, t :: u, 0, s, h => by
    have e : Slot.val d = s := by simpa [outs] using h
    subst e
    exact .inr ⟨fun f c z => by simp at z, rfl⟩
  | .own f c :: r, t :: u, 0, s, h => by
    have e : t = s := by simpa [outs] using h
    subst e
    exact .inl ⟨f, c, rfl, rfl⟩
  | .no :: r, t :: u, i + 1, s, h => by simpa using outs_get (args := r) (e := u) (i := i) (s := s) (by simpa [outs] using h)
  | .val d :: r, t :: u, i + 1, s, h => by simpa using outs_get (args := r) (e := u) (i := i) (s := s) (by simpa [outs] using h)
  | .own f c :: r, t :: u, i + 1, s, h => by simpa using outs_get (args := r) (e := u) (i := i) (s := s) (by simpa [outs] using h)
theorem start_get {N : List Str} {vs : List V} {i : Nat} (h : i < vs.length) : (L2.start N vs)[i]? = (vs.map some)[i]? := by
  unfold L2.start
  rw [List.getElem?_append_left (by rw [List.length_map]; exact h)]
theorem ext_get {args : Sl} {k i : Nat} (h : i < args.length) : (args ++ List.replicate k Slot.no)[i]? = args[i]? := List.getElem?_append_left h
theorem ext_own {args : Sl} {k i : Nat} {f : Bool} {c : Cont} (h : (args ++ List.replicate k Slot.no)[i]? = some (.own f c)) : i < args.length ∧ args[i]? = some (.own f c) := by
  by_cases z : i < args.length
  · exact ⟨z, by rw [ext_get z] at h; exact h⟩
  · rw [List.getElem?_append_right (by omega), List.getElem?_replicate] at h
    split at h <;> cases h
/-- the def's own frame at its entry -/
theorem Rel.entry {args : Sl} {vs : List V} {N : List Str} {n : Nat} (R : Rel K mg F args (vs.map some) H) (hn : N.length = n) (hl : args.length ≤ n) : Rel K mg F (args ++ List.replicate (n - args.length) .no) (L2.start N vs) H := by
  have hv : args.length = vs.length := by rw [R.len, List.length_map]
  refine ⟨R.sub, ?_, fun i s o es ex => ?_, fun i j f g c d a ei ej si sj => ?_, R.tab, R.ftb⟩
  · unfold L2.start
    rw [List.length_append, List.length_append, List.length_replicate, List.length_replicate, List.length_map]
    omega
  · by_cases z : i < args.length
    · rw [ext_get z] at es
      rw [start_get (by omega)] at ex
      exact R.ok i s o es ex
    · rw [List.getElem?_append_right (by omega), List.getElem?_replicate] at es
      split at es
      · cases es; trivial
      · cases es
  · obtain ⟨zi, ei⟩ := ext_own ei
    obtain ⟨zj, ej⟩ := ext_own ej
    rw [start_get (by omega)] at si sj
    exact R.inj i j f g c d a ei ej si sj
theorem own_entry {args : Sl} {vs : List V} {N : List Str} {k : Nat} {b : Addr} (hv : args.length = vs.length) : Own (args ++ List.replicate k .no) (L2.start N vs) b ↔ Own args (vs.map some) b := by
  constructor
  · rintro ⟨i, f, c, h1, h2⟩
    obtain ⟨z, h1⟩ := ext_own h1
    rw [start_get (by omega)] at h2
    exact ⟨i, f, c, h1, h2⟩
  · rintro ⟨i, f, c, h1, h2⟩
    have z := (List.getElem?_eq_some_iff.mp h1).1
    exact ⟨i, f, c, by rw [ext_get z]; exact h1, by rw [start_get (by omega)]; exact h2⟩
/-- .. and at its end -/
theorem at_end {args : Sl} {vs : List V} {N : List Str} {k : Nat} {e' : Sl} {σ' : St} (R : Rel K mg F args (vs.map some) H) (ha : args.all isArg = true) (hlen : args.length ≤ e'.length) (s : Stp F H (args ++ List.replicate k .no) (L2.start N vs) F' H' e' σ') (R' : Rel K mg F' e' σ' H') :
    Rel K mg F' (outs args e') (vs.map some) H' ∧ Stp F H args (vs.map some) F' H' (outs args e') (vs.map some) ∧ ∀ b, Own (outs args e') (vs.map some) b → Own e' σ' b := by
  have hv : args.length = vs.length := by rw [R.len, List.length_map]
  have arg : ∀ {i : Nat} {f : Bool} {c : Cont}, args[i]? = some (.own f c) → f = true := fun {i f c} h => by
    have := List.all_eq_true.mp ha _ (List.mem_of_getElem? h)
    cases f with
    | true => rfl
    | false => cases this
  have fx : ∀ {i : Nat} {f : Bool} {c : Cont}, args[i]? = some (.own f c) → (∃ c', e'[i]? = some (.own true c')) ∧ σ'[i]? = (vs.map some)[i]? := fun {i f c} h => by
    have z := (List.getElem?_eq_some_iff.mp h).1
    obtain ⟨h1, h2⟩ := s.fix i c (by rw [ext_get z, h, arg h])
    exact ⟨h1, by rw [h2, start_get (by omega)]⟩
  have get : ∀ {i : Nat} {f : Bool} {c : Cont}, (outs args e')[i]? = some (.own f c) → ∃ c0, args[i]? = some (.own true c0) ∧ e'[i]? = some (.own f c) ∧ σ'[i]? = (vs.map some)[i]? := fun {i f c} h => by
    rcases outs_get h with ⟨f0, c0, h1, h2⟩ | ⟨h1, h2⟩
    · have := arg h1
      subst this
      exact ⟨c0, h1, h2, (fx h1).2⟩
    · exact absurd h2 (h1 f c)
  have ow : ∀ b, Own (outs args e') (vs.map some) b → Own e' σ' b := fun b ⟨i, f, c, h1, h2⟩ => by
    obtain ⟨c0, _, h3, h4⟩ := get h1
    exact ⟨i, f, c, h3, by rw [h4]; exact h2⟩
  have nm : ∀ b, NM H (args ++ List.replicate k .no) (L2.start N vs) b → NM H args (vs.map some) b := fun b z => z.imp id (own_entry hv).mp
  refine ⟨⟨R'.sub, by rw [outs_len hlen]; exact R.len, fun i t o es ex => ?_, fun i j f g c d a ei ej si sj => ?_, R'.tab, R'.ftb⟩, ⟨s.fro, fun b o h n m => s.kept b o h (fun z => n ((own_entry hv).mp z)) m, s.dom, fun b h h' => nm b (s.newF b h h'), fun b ⟨i, f, c, h1, h2⟩ => ?_, fun i c h => ?_, outs_len hlen⟩, ow⟩
  · rcases outs_get es with ⟨f0, c0, h1, h2⟩ | ⟨h1, h2⟩
    · exact R'.ok i t o h2 (by rw [(fx h1).2]; exact ex)
    · have q := R.ok i t o h2 ex
      cases t with
      | no => trivial
      | val d => obtain ⟨v, q1, q2⟩ := q; exact ⟨v, q1, q2.mono s.fro⟩
      | own f c => exact absurd h2 (h1 f c)
  · obtain ⟨_, _, ei, qi⟩ := get ei
    obtain ⟨_, _, ej, qj⟩ := get ej
    exact R'.inj i j f g c d a ei ej (by rw [qi]; exact si) (by rw [qj]; exact sj)
  · obtain ⟨c0, h3, _, _⟩ := get h1
    exact .inr ⟨i, true, c0, h3, h2⟩
  · obtain ⟨⟨c', h1⟩, _⟩ := fx h
    refine ⟨⟨c', ?_⟩, rfl⟩
    have hi : i < (outs args e').length := by rw [outs_len hlen]; exact (List.getElem?_eq_some_iff.mp h).1
    rw [List.getElem?_eq_getElem hi]
    rcases outs_get (List.getElem?_eq_getElem hi) with ⟨_, _, _, h2⟩ | ⟨h2, _⟩
    · rw [h1] at h2; exact h2.symm
    · exact absurd h (h2 true c)
end
section
variable {P : Program} {w : World} {K : PySem.W.Frag} {mg : Mg} {base : Heap}
theorem entry_ok {N : List Str} {np n : Nat} {body : M Flo} {vs : List V} {H : Hp} {Q : VK} {E : XK} (hn : N.length = n) (hle : np ≤ n) (h : cSp K mg (fnD np n body) vs H Q E) : cS K mg (fun c d _ H => E c d H) body { nx := fun _ H' => Q .non H', rt := Q } (L2.start N vs) H := by
  obtain ⟨args, F, R, ha, h⟩ := h
  unfold fnD at h
  split at h
  · rename_i hl
    have RE := R.entry (N := N) (n := n) hn (by omega)
    rw [hl] at RE
    refine ⟨_, F, RE, ?_⟩
    have hlen : ∀ {F' H' : Hp} {e' : Sl} {σ' : St}, Stp F H (args ++ List.replicate (n - np) .no) (L2.start N vs) F' H' e' σ' → args.length ≤ e'.length := fun s => by rw [s.len, List.length_append]; omega
    have hv : args.length = vs.length := by rw [R.len, List.length_map]
    cases q : body (args ++ List.replicate (n - np) .no) with
    | bad => rw [q] at h; exact h.elim
    | ex x e' =>
      rw [q] at h
      intro cls d σ' F' H' s' R' z
      obtain ⟨r1, r2, r3⟩ := at_end R ha (hlen s') s' R'
      exact h cls d F' H' r2 r1 z
    | ok fl e' =>
      rw [q] at h
      cases fl with
      | nx =>
        intro σ' F' H' s' R'
        obtain ⟨r1, r2, r3⟩ := at_end R ha (hlen s') s' R'
        exact h .non F' H' r2 r1 .non
      | bk => exact h.elim
      | ct => exact h.elim
      | rt r =>
        intro v σ' F' H' s' R' z
        cases r with
        | pk i => exact h.elim
        | val d =>
          obtain ⟨r1, r2, r3⟩ := at_end R ha (hlen s') s' R'
          exact h v F' H' r2 r1 z
        | own c =>
          obtain ⟨r1, r2, r3⟩ := at_end R ha (hlen s') s' R'
          obtain ⟨a, o, e1, hF, hH, hc, hn', hN'⟩ := z
          exact h v F' H' r2 r1 ⟨a, o, e1, hF, hH, hc, fun z => hn' (r3 a z), hN'.imp id (own_entry hv).mp⟩
  · exact h.elim
/-- THE RULE for a def -/
theorem fn_den {x qual : Str} {st : Stmt} {f : Addr} {fd : FuncData} {N ps : List Str} {k np n : Nat} {body : M Flo} (Fu : Fun K x qual st f fd) (S : FnScope N ps (defScope st)) (hnp : ps.length = np) (hn : N.length = n) (hle : np ≤ n)
    (hb : ∀ (cdv : Value) (A : Around) (outer : List Env) (s : Shared) (H : Hp) (E : XK), Room k (A.deeper (PyProof.Rows.envOfC qual (defScope st) s.heap.objs.size f cdv)) →
      Takes (cxOf (L2.CX P w) P w K mg base N qual (defScope st) f cdv A outer s H E) (fun c d _ H => E c d H) →
      PassesOwn (model P w) (A.deeper (PyProof.Rows.envOfC qual (defScope st) s.heap.objs.size f cdv)) (cxOf (L2.CX P w) P w K mg base N qual (defScope st) f cdv A outer s H E).env (cxOf (L2.CX P w) P w K mg base N qual (defScope st) f cdv A outer s H E).xe →
      DSs (cxOf (L2.CX P w) P w K mg base N qual (defScope st) f cdv A outer s H E) (fun c d _ H => E c d H) (defBody st) body) :
    FnOk P w K mg base (L2.CX P w) (k + 1) f fd ps (cSp K mg (fnD np n body)) := by
  refine Fu.okX S (fun vs H Q E h => ?_) (fun cdv A outer s H vs Q E hr h => ?_)
  · obtain ⟨args, F, R, ha, h⟩ := h
    unfold fnD at h
    split at h
    · rename_i hl
      have := R.len
      rw [List.length_map] at this
      rw [hnp]; omega
    · exact h.elim
  · exact ⟨_, hb cdv A outer s H E hr (takes_of rfl rfl rfl rfl) (passes_of rfl), entry_ok hn hle h⟩
end
/-! ### a call -/
def pks : List RV → List Nat
  | [] => []
  | .pk i :: rs => i :: pks rs
  | _ :: rs => pks rs
def pkOk : List RV → Bool
  | [] => true
  | .pk i :: rs => !(pks rs).contains i && pkOk rs
  | _ :: rs => pkOk rs
def argSl (e : Sl) : List RV → Option Sl
  | [] => some []
  | .val d :: rs => (argSl e rs).map (.val d :: ·)
  | .pk i :: rs => match e[i]? with
    | some (.own _ c) => (argSl e rs).map (.own true c :: ·)
    | _ => none
  | .own _ :: _ => none
def chg (e : Sl) (i : Nat) (c : Cont) : Sl := match e[i]? with
  | some (.own f _) => e.set i (.own f c)
  | _ => e
def back (e : Sl) : List RV → Sl → Sl
  | .pk i :: rs, .own _ c :: sl => back (chg e i c) rs sl
  | _ :: rs, _ :: sl => back e rs sl
  | _, _ => e
def callK (fn : Fn) (rs : List RV) : M RV := fun e => if pkOk rs then (match argSl e rs with
  | some sl => (match fn sl with
    | .ok (.val d) sl' => .ok (.val d) (back e rs sl')
    | .ok (.own c) sl' => .ok (.own c) (back e rs sl')
    | .ok (.pk _) _ => .bad
    | .ex x sl' => .ex x (back e rs sl')
    | .bad => .bad)
  | none => .bad) else .bad
def eCall (fn : Fn) (as : M (List RV)) : M RV := M.bind as (callK fn)
section
variable {K : PySem.W.Frag} {mg : Mg} {F H F' H' : Hp} {σ : St}
theorem mem_pks {i : Nat} : ∀ {rs : List RV} {j : Nat}, rs[j]? = some (.pk i) → i ∈ pks rs
  | [], _, h => by simp at h
  | .pk k :: rs, 0, h => by
    have e : k = i := by simpa using h
    subst e
    exact List.mem_cons_self
  | .val d :: rs, 0, h => by simp at h
  | .own d :: rs, 0, h => by simp at h
  | .pk k :: rs, j + 1, h => List.mem_cons_of_mem _ (mem_pks (rs := rs) (j := j) (by simpa using h))
  | .val k :: rs, j + 1, h => mem_pks (rs := rs) (j := j) (by simpa using h)
  | .own k :: rs, j + 1, h => mem_pks (rs := rs) (j := j) (by simpa using h)
theorem pk_inj {i : Nat} : ∀ {rs : List RV} {j k : Nat}, pkOk rs = true → rs[j]? = some (.pk i) → rs[k]? = some (.pk i) → j = k
  | [], _, _, _, h, _ => by simp at h
  | r :: rs, 0, 0, _, _, _ => rfl
  | .pk m :: rs, 0, k + 1, ok, h1, h2 => by
    have e : m = i := by simpa using h1
    subst e
    have := mem_pks (rs := rs) (j := k) (i := m) (by simpa using h2)
    unfold pkOk at ok
    simp only [Bool.and_eq_true, Bool.not_eq_true', List.contains_eq_mem, decide_eq_false_iff_not] at ok
    exact absurd this ok.1
  | .val m :: rs, 0, k + 1, ok, h1, h2 => by simp at h1
  | .own m :: rs, 0, k + 1, ok, h1, h2 => by simp at h1
  | .pk m :: rs, j + 1, 0, ok, h1, h2 => by
    have e : m = i := by simpa using h2
    subst e
    have := mem_pks (rs := rs) (j := j) (i := m) (by simpa using h1)
    unfold pkOk at ok
    simp only [Bool.and_eq_true, Bool.not_eq_true', List.contains_eq_mem, decide_eq_false_iff_not] at ok
    exact absurd this ok.1
  | .val m :: rs, j + 1, 0, ok, h1, h2 => by simp at h2
  | .own m :: rs, j + 1, 0, ok, h1, h2 => by simp at h2
  | .pk m :: rs, j + 1, k + 1, ok, h1, h2 => by
    unfold pkOk at ok
    simp only [Bool.and_eq_true] at ok
    exact congrArg (· + 1) (pk_inj ok.2 (by simpa using h1) (by simpa using h2))
  | .val m :: rs, j + 1, k + 1, ok, h1, h2 => congrArg (· + 1) (pk_inj (rs := rs) ok (by simpa using h1) (by simpa using h2))
  | .own m :: rs, j + 1, k + 1, ok, h1, h2 => congrArg (· + 1) (pk_inj (rs := rs) ok (by simpa using h1) (by simpa using h2))
/-- the arguments as slots, place by place -/
inductive ArgAt (e : Sl) (F : Hp) (K : PySem.W.Frag) (mg : Mg) (σ : St) : V → RV → Slot → Prop
  | val {v : V} {d : D} : Rep K mg F v d → ArgAt e F K mg σ v (.val d) (.val d)
  | lent {v : V} {i : Nat} {f : Bool} {c : Cont} : e[i]? = some (.own f c) → σ[i]? = some (some v) → ArgAt e F K mg σ v (.pk i) (.own true c)
theorem arg_at {e : Sl} : ∀ {rs : List RV} {vs : List V} {sl : Sl}, Args K mg F σ vs rs → argSl e rs = some sl → sl.length = vs.length ∧ rs.length = vs.length ∧ sl.all isArg = true ∧ ∀ (j : Nat) (s : Slot), sl[j]? = some s → ∃ v r, vs[j]? = some v ∧ rs[j]? = some r ∧ ArgAt e F K mg σ v r s
  | _, _, _, .nil, h => by cases h; exact ⟨rfl, rfl, rfl, fun j s z => by simp at z⟩
  | _, _, _, .cons (r := .own c) a b, h => a.elim
  | _, _, _, .cons (r := .val d) a b, h => by
    unfold argSl at h
    obtain ⟨t, ht, rfl⟩ := Option.map_eq_some_iff.mp h
    obtain ⟨i1, i2, i3, i4⟩ := arg_at b ht
    refine ⟨congrArg (· + 1) i1, congrArg (· + 1) i2, by rw [List.all_cons, i3]; rfl, fun j s z => ?_⟩
    cases j with
    | zero =>
      have e : Slot.val d = s := by simpa using z
      subst e
      exact ⟨_, _, rfl, rfl, .val a⟩
    | succ j => simpa using i4 j s (by simpa using z)
  | _, _, _, .cons (r := .pk i) a b, h => by
    unfold argSl at h
    split at h
    · rename_i f c hc
      obtain ⟨t, ht, rfl⟩ := Option.map_eq_some_iff.mp h
      obtain ⟨i1, i2, i3, i4⟩ := arg_at b ht
      refine ⟨congrArg (· + 1) i1, congrArg (· + 1) i2, by rw [List.all_cons, i3]; rfl, fun j s z => ?_⟩
      cases j with
      | zero =>
        have e : Slot.own true c = s := by simpa using z
        subst e
        exact ⟨_, _, rfl, rfl, .lent hc a⟩
      | succ j => simpa using i4 j s (by simpa using z)
    · cases h
/-- what back does at a slot -/
theorem chg_get {e : Sl} {i k : Nat} {c : Cont} {s : Slot} (h : (chg e i c)[k]? = some s) : (i = k ∧ ∃ f c0, e[k]? = some (.own f c0) ∧ s = .own f c) ∨ ((i ≠ k ∨ ∀ f c0, e[k]? ≠ some (.own f c0)) ∧ e[k]? = some s) := by
  unfold chg at h
  split at h
  · rename_i f c0 hc
    rcases get_set_of h with ⟨rfl, rfl⟩ | ⟨n, h⟩
    · exact .inl ⟨rfl, f, c0, hc, rfl⟩
    · exact .inr ⟨.inl n, h⟩
  · rename_i hc
    by_cases z : i = k
    · subst z
      exact .inr ⟨.inr fun f c0 q => hc f c0 q, h⟩
    · exact .inr ⟨.inl z, h⟩
theorem chg_len {e : Sl} {i : Nat} {c : Cont} : (chg e i c).length = e.length := by
  unfold chg
  split
  · exact List.length_set
  · rfl
theorem back_len : ∀ {rs : List RV} {sl e : Sl}, (back e rs sl).length = e.length
  | [], _, _ => by unfold back; rfl
  | r :: rs, [], e => by cases r <;> rfl
  | .pk i :: rs, .own f c :: sl, e => by unfold back; rw [back_len, chg_len]
  | .pk i :: rs, .no :: sl, e => by unfold back; exact back_len
  | .pk i :: rs, .val d :: sl, e => by unfold back; exact back_len
  | .val i :: rs, s :: sl, e => by unfold back; exact back_len
  | .own i :: rs, s :: sl, e => by unfold back; exact back_len
/-- at slot k: lent and come back, or as it was -/
theorem back_get {k : Nat} {s : Slot} : ∀ {rs : List RV} {sl e : Sl}, pkOk rs = true → (∀ (j i : Nat), rs[j]? = some (.pk i) → ∃ (f : Bool) (c : Cont), sl[j]? = some (.own f c)) → (back e rs sl)[k]? = some s →
    (∃ (j : Nat) (f g : Bool) (c c0 : Cont), rs[j]? = some (.pk k) ∧ sl[j]? = some (.own g c) ∧ e[k]? = some (.own f c0) ∧ s = .own f c) ∨ (((∀ j : Nat, rs[j]? ≠ some (.pk k)) ∨ ∀ (f : Bool) (c0 : Cont), e[k]? ≠ some (.own f c0)) ∧ e[k]? = some s)
  | [], sl, e, _, _, h => by
    unfold back at h
    exact .inr ⟨.inl fun j z => by simp at z, h⟩
  | .val d :: rs, [], e, _, ho, h => by
    have h : e[k]? = some s := h
    refine .inr ⟨.inl fun j z => ?_, h⟩
    obtain ⟨f, c, q⟩ := ho j k z
    simp at q
  | .own d :: rs, [], e, _, ho, h => by
    have h : e[k]? = some s := h
    refine .inr ⟨.inl fun j z => ?_, h⟩
    obtain ⟨f, c, q⟩ := ho j k z
    simp at q
  | .pk d :: rs, [], e, _, ho, h => by
    obtain ⟨f, c, q⟩ := ho 0 d rfl
    simp at q
  | .val d :: rs, t :: sl, e, ok, ho, h => by
    unfold back at h
    rcases back_get (rs := rs) (sl := sl) ok (fun j i z => by simpa using ho (j + 1) i (by simpa using z)) h with ⟨j, f, g, c, c0, h1, h2, h3, h4⟩ | ⟨h1, h2⟩
    · exact .inl ⟨j + 1, f, g, c, c0, by simpa using h1, by simpa using h2, h3, h4⟩
    · refine .inr ⟨h1.imp (fun z j => ?_) id, h2⟩
      cases j with
      | zero => intro y; simp at y
      | succ j => simpa using z j
  | .own d :: rs, t :: sl, e, ok, ho, h => by
    unfold back at h
    rcases back_get (rs := rs) (sl := sl) ok (fun j i z => by simpa using ho (j + 1) i (by simpa using z)) h with ⟨j, f, g, c, c0, h1, h2, h3, h4⟩ | ⟨h1, h2⟩
    · exact .inl ⟨j + 1, f, g, c, c0, by simpa using h1, by simpa using h2, h3, h4⟩
    · refine .inr ⟨h1.imp (fun z j => ?_) id, h2⟩
      cases j with
      | zero => intro y; simp at y
      | succ j => simpa using z j
  | .pk i :: rs, .no :: sl, e, ok, ho, h => by
    obtain ⟨f, c, q⟩ := ho 0 i rfl
    simp at q
  | .pk i :: rs, .val d :: sl, e, ok, ho, h => by
    obtain ⟨f, c, q⟩ := ho 0 i rfl
    simp at q
  | .pk i :: rs, .own g c :: sl, e, ok, ho, h => by
    have okr : pkOk rs = true := by
      unfold pkOk at ok
      simp only [Bool.and_eq_true] at ok
      exact ok.2
    unfold back at h
    rcases back_get (rs := rs) (sl := sl) okr (fun j i z => by simpa using ho (j + 1) i (by simpa using z)) h with ⟨j, f, g', c', c0, h1, h2, h3, h4⟩ | ⟨h1, h2⟩
    · have ne : i ≠ k := fun z => by
        subst z
        have := pk_inj (rs := .pk i :: rs) (j := 0) (k := j + 1) ok rfl (by simpa using h1)
        omega
      rcases chg_get h3 with ⟨z, _⟩ | ⟨_, h3⟩
      · exact absurd z ne
      · exact .inl ⟨j + 1, f, g', c', c0, by simpa using h1, by simpa using h2, h3, h4⟩
    · rcases chg_get h2 with ⟨rfl, f, c0, h3, h4⟩ | ⟨h3, h4⟩
      · exact .inl ⟨0, f, g, c, c0, rfl, rfl, h3, h4⟩
      · refine .inr ⟨?_, h4⟩
        rcases h3 with h3 | h3
        · rcases h1 with h1 | h1
          · refine .inl fun j => ?_
            cases j with
            | zero => intro y; exact h3 (by simpa using y)
            | succ j => simpa using h1 j
          · refine .inr fun f c0 z => ?_
            have : (chg e i c)[k]? = e[k]? := by
              unfold chg
              split
              · exact List.getElem?_set_ne h3
              · rfl
            exact h1 f c0 (by rw [this]; exact z)
        · exact .inr h3
end
end Y

set_option Elab.async false
set_option linter.all false
set_option maxRecDepth 100000
set_option maxHeartbeats 4000000
namespace Y
open PySem PySem.Spec L2
set_option autoImplicit false
variable [TB]
section
variable {K : PySem.W.Frag} {mg : Mg} {F H F' H' : Hp} {σ : St} {e : Sl} {vs : List V} {rs : List RV} {sl sl' : Sl} {W : WX} {Q : VK} {fn : Fn}
/-- the callee's view of the arguments -/
theorem Rel.args (R : Rel K mg F e σ H) (ok : pkOk rs = true) (A : Args K mg F σ vs rs) (hs : argSl e rs = some sl) : Rel K mg F sl (vs.map some) H := by
  obtain ⟨l1, l2, l3, l4⟩ := arg_at A hs
  have vget : ∀ {j : Nat} {v : V}, vs[j]? = some v → (vs.map some)[j]? = some (some v) := fun {j v} h => by rw [List.getElem?_map, h]; rfl
  refine ⟨R.sub, by rw [l1, List.length_map], fun j s o es ex => ?_, fun i j f g c d a ei ej si sj => ?_, R.tab, R.ftb⟩
  · obtain ⟨v, r, h1, h2, h3⟩ := l4 j s es
    rw [vget h1] at ex
    cases ex
    cases h3 with
    | val q => exact ⟨v, rfl, q⟩
    | lent q1 q2 =>
      obtain ⟨p, o', h4, h5⟩ := R.ok _ _ _ q1 q2
      exact ⟨p, o', h4, h5⟩
  · obtain ⟨v1, r1, h1, h2, h3⟩ := l4 i _ ei
    obtain ⟨v2, r2, k1, k2, k3⟩ := l4 j _ ej
    rw [vget h1] at si
    rw [vget k1] at sj
    cases si
    cases sj
    cases h3 with
    | lent q1 q2 =>
      cases k3 with
      | lent p1 p2 =>
        have := R.inj _ _ _ _ _ _ _ q1 p1 q2 p2
        subst this
        exact pk_inj ok h2 k2
theorem own_args (R : Rel K mg F e σ H) (A : Args K mg F σ vs rs) (hs : argSl e rs = some sl) {b : Addr} (h : Own sl (vs.map some) b) : ∃ (j i : Nat) (f : Bool) (c : Cont), rs[j]? = some (.pk i) ∧ e[i]? = some (.own f c) ∧ σ[i]? = some (some (.ref b)) ∧ vs[j]? = some (.ref b) := by
  obtain ⟨l1, l2, l3, l4⟩ := arg_at A hs
  obtain ⟨j, f, c, h1, h2⟩ := h
  obtain ⟨v, r, k1, k2, k3⟩ := l4 j _ h1
  rw [List.getElem?_map, k1] at h2
  have ev : v = .ref b := by simpa using h2
  subst ev
  cases k3 with
  | lent q1 q2 => exact ⟨j, _, _, _, k2, q1, q2, k1⟩
theorem call_back (R : Rel K mg F e σ H) (ok : pkOk rs = true) (A : Args K mg F σ vs rs) (hs : argSl e rs = some sl) (s : Stp F H sl (vs.map some) F' H' sl' (vs.map some)) (R' : Rel K mg F' sl' (vs.map some) H') :
    Rel K mg F' (back e rs sl') σ H' ∧ Stp F H e σ F' H' (back e rs sl') σ ∧ ∀ b, Own (back e rs sl') σ b → Own e σ b := by
  obtain ⟨l1, l2, l3, l4⟩ := arg_at A hs
  have oe : ∀ b, Own sl (vs.map some) b → Own e σ b := fun b h => by
    obtain ⟨j, i, f, c, _, h2, h3, _⟩ := own_args R A hs h
    exact ⟨i, f, c, h2, h3⟩
  -- every lent slot comes back
  have lent : ∀ (j i : Nat), rs[j]? = some (.pk i) → ∃ (f : Bool) (c : Cont) (v : V), sl'[j]? = some (.own true c) ∧ vs[j]? = some v ∧ σ[i]? = some (some v) ∧ ∃ f0 c0, e[i]? = some (.own f0 c0) := fun j i h => by
    have hj : j < sl.length := by rw [l1, ← l2]; exact (List.getElem?_eq_some_iff.mp h).1
    obtain ⟨v, r, k1, k2, k3⟩ := l4 j _ (List.getElem?_eq_getElem hj)
    rw [h] at k2
    cases k2
    generalize hq : sl[j] = q at k3
    cases k3 with
    | lent q1 q2 =>
      obtain ⟨⟨c', z⟩, _⟩ := s.fix j _ (by rw [List.getElem?_eq_getElem hj, hq])
      exact ⟨true, c', v, z, k1, q2, _, _, q1⟩
  have hso : ∀ (j i : Nat), rs[j]? = some (.pk i) → ∃ (f : Bool) (c : Cont), sl'[j]? = some (.own f c) := fun j i h => by
    obtain ⟨f, c, v, z, _⟩ := lent j i h
    exact ⟨true, c, z⟩
  have get : ∀ {k : Nat} {t : Slot}, (back e rs sl')[k]? = some t → (∃ (j : Nat) (f g : Bool) (c c0 : Cont), rs[j]? = some (.pk k) ∧ sl'[j]? = some (.own g c) ∧ e[k]? = some (.own f c0) ∧ t = .own f c) ∨ (((∀ j : Nat, rs[j]? ≠ some (.pk k)) ∨ ∀ (f : Bool) (c0 : Cont), e[k]? ≠ some (.own f c0)) ∧ e[k]? = some t) := fun h => back_get ok hso h
  have og : ∀ {k : Nat} {f : Bool} {c : Cont}, (back e rs sl')[k]? = some (.own f c) → ∃ c0, e[k]? = some (.own f c0) := fun {k f c} h => by
    rcases get h with ⟨j, f', g, c', c0, _, _, h3, h4⟩ | ⟨_, h⟩
    · cases h4; exact ⟨c0, h3⟩
    · exact ⟨c, h⟩
  have ob : ∀ b, Own (back e rs sl') σ b → Own e σ b := fun b ⟨k, f, c, h1, h2⟩ => by
    obtain ⟨c0, h3⟩ := og h1
    exact ⟨k, f, c0, h3, h2⟩
  -- what is own here and not lent is not the callee's
  have mine : ∀ {k : Nat} {f : Bool} {c0 : Cont} {b : Addr}, e[k]? = some (.own f c0) → σ[k]? = some (some (.ref b)) → (∀ j : Nat, rs[j]? ≠ some (.pk k)) → ¬ Own sl (vs.map some) b := fun {k f c0 b} h1 h2 h3 h4 => by
    obtain ⟨j, i, f', c', q1, q2, q3, _⟩ := own_args R A hs h4
    have := R.inj _ _ _ _ _ _ _ h1 q2 h2 q3
    subst this
    exact h3 j q1
  refine ⟨⟨R'.sub, by rw [back_len]; exact R.len, fun k t o es ex => ?_, fun i j f g c d a ei ej si sj => ?_, R'.tab, R'.ftb⟩, ⟨s.fro, fun b o h n m => s.kept b o h (fun z => n (oe b z)) m, s.dom, fun b h h' => (s.newF b h h').imp id (oe b), fun b h => .inr (ob b h), fun i c h => ?_, by rw [back_len]⟩, ob⟩
  · rcases get es with ⟨j, f, g, c, c0, h1, h2, h3, rfl⟩ | ⟨h1, h2⟩
    · obtain ⟨_, c', v, z1, z2, z3, _⟩ := lent j k h1
      rw [h2] at z1
      cases z1
      rw [z3] at ex
      cases ex
      obtain ⟨a, o, q1, q2⟩ := R'.ok j _ _ h2 (show (vs.map some)[j]? = some (some v) by rw [List.getElem?_map, z2]; rfl)
      exact ⟨a, o, q1, q2⟩
    · have q := R.ok k t o h2 ex
      cases t with
      | no => trivial
      | val d => obtain ⟨v, q1, q2⟩ := q; exact ⟨v, q1, q2.mono s.fro⟩
      | own f c =>
        obtain ⟨a, o', q1, q2, q3, q4⟩ := q
        have hm : ¬ Own sl (vs.map some) a := by
          rcases h1 with h1 | h1
          · exact mine h2 (by rw [ex, q1]) h1
          · exact absurd h2 (h1 f c)
        refine ⟨a, o', q1, ?_, s.kept a o' q3 hm q4.notbl, q4.mono s.fro⟩
        cases z : F' a with
        | none => rfl
        | some u =>
          rcases s.newF a q2 (by rw [z]; exact fun y => nomatch y) with y | y
          · rw [q3] at y; cases y
          · exact absurd y hm
  · obtain ⟨c1, ei⟩ := og ei
    obtain ⟨c2, ej⟩ := og ej
    exact R.inj i j f g _ _ a ei ej si sj
  · refine ⟨?_, rfl⟩
    have hl : i < (back e rs sl').length := by rw [back_len]; exact (List.getElem?_eq_some_iff.mp h).1
    rcases get (List.getElem?_eq_getElem hl) with ⟨j, f, g, c', c0, _, _, h3, h4⟩ | ⟨_, h2⟩
    · rw [h] at h3
      cases h3
      exact ⟨c', by rw [List.getElem?_eq_getElem hl, h4]⟩
    · exact ⟨c, by rw [List.getElem?_eq_getElem hl, ← h2]; exact h⟩
/-- THE CALL: from what the caller wants to the callee's promise -/
theorem callK_ok (R : Rel K mg F e σ H) (A : Args K mg F σ vs rs) (h : post K mg W (rV K mg) F H e σ (callK fn rs e) Q) : cSp K mg fn vs H Q (fun c d H => W c d σ H) := by
  unfold callK at h
  split at h
  · rename_i ok
    cases hs : argSl e rs with
    | none => rw [hs] at h; exact h.elim
    | some sl =>
      rw [hs] at h
      obtain ⟨l1, l2, l3, l4⟩ := arg_at A hs
      have RA := R.args ok A hs
      refine ⟨sl, F, RA, l3, ?_⟩
      have oe : ∀ b, NM H sl (vs.map some) b → NM H e σ b := fun b z => z.imp id fun y => by
        obtain ⟨j, i, f, c, _, h2, h3, _⟩ := own_args R A hs y
        exact ⟨i, f, c, h2, h3⟩
      dsimp only at h
      cases w : fn sl with
      | bad => rw [w] at h; exact h.elim
      | ex x sl' =>
        rw [w] at h
        intro cls d F' H' s R' z
        obtain ⟨r1, r2, r3⟩ := call_back R ok A hs s R'
        exact h cls d F' H' r2 r1 z
      | ok r sl' =>
        rw [w] at h
        intro v F' H' s R' z
        obtain ⟨r1, r2, r3⟩ := call_back R ok A hs s R'
        cases r with
        | pk i => exact h.elim
        | val d => exact h v F' H' r2 r1 z
        | own c =>
          obtain ⟨a, o, e1, hF, hH, hc, hn, hN⟩ := z
          refine h v F' H' r2 r1 ⟨a, o, e1, hF, hH, hc, fun y => ?_, oe a hN⟩
          -- a new thing is none of the caller's
          obtain ⟨k, f, c', h1, h2⟩ := y
          obtain ⟨i', f', c'', h3, h4⟩ := r3 a ⟨k, f, c', h1, h2⟩
          obtain ⟨a', o', q1, q2, q3, q4⟩ := R.ok i' _ _ h3 h4
          cases q1
          rcases hN with hN | hN
          · rw [hN] at q3; cases q3
          · -- it was lent: then it is still the callee's
            obtain ⟨j, i, f0, c0, p1, p2, p3, p4⟩ := own_args R A hs hN
            obtain ⟨j0, f1, c1, m1, m2⟩ := hN
            have hj : ∃ c2, sl'[j0]? = some (.own true c2) := by
              have ht : f1 = true := by
                have := List.all_eq_true.mp l3 _ (List.mem_of_getElem? m1)
                cases f1 with
                | true => rfl
                | false => cases this
              subst ht
              exact (s.fix j0 c1 m1).1
            obtain ⟨c2, hj⟩ := hj
            exact hn ⟨j0, true, c2, hj, m2⟩
  · exact h.elim
end
section
variable {X : Cx} {W : WX} {a b c : Expr} {es : List Expr} {f g : M RV} {as : M (List RV)} {fn : Fn} {pos p : Pos} {k : Nat} {fa : Addr} {fd : FuncData} {ps : List Str} {x : Str}
theorem de_call (G : FnOk X.prog X.w X.K X.mg X.base (L2.CX X.prog X.w) k fa fd ps (cSp X.K X.mg fn)) (hr : Room k X.A) (tk : Takes X W) (hg : Gl X x) (hm : X.mg x = some (.ref fa)) (hk : PySem.W.keepIn X.K (.ref fa) = true) (hb : Binds X.K fd ps []) (ha : DA X W (a :: es) as)
    (hdb : (x == ("__debug__" : Str)) = false := by decide) (he : starEach (a :: es) X.env = (false, eval a X.env) :: starEach es X.env := by rfl) (hpl : (backTo pos (starEach es X.env)).any (·.1) = false := by rfl) :
    DE X W (.Call (.Name x p) (a :: es) [] pos) (eCall fn as) := peW (pe_callSD (dvs := []) (E := fun σ c d H => W c d σ H) G hr hg hm hk hb .nil (fun σ => passAt tk σ) ha hdb he hpl) fun σ H Q ⟨e, F, R, h⟩ => by
  refine ⟨e, F, R, post_imp (post_seq up_V h) ?_⟩
  rintro vs H1 ⟨rs, e1, F1, q1, R1, s1, h1⟩
  rw [List.append_nil]
  exact callK_ok R1 q1 h1
/-! ### attributes, += -/
def fldK (c : Str) (n : Str) : D → M RV
  | .ins c' fs => fun e => if c' = c then (match fs.lookup n with
    | some d => .ok (.val d) e
    | none => .bad) else .bad
  | _ => M.bad
theorem de_fld {c n : Str} {C : Addr} (hC : X.mg c = some (.ref C)) (cl : Cls X.K C) (no : NoAttr X.K C n) (ha : DE X W a f) (hb : attributeBase a n X.env (eval a X.env) = eval a X.env := by rfl) : DE X W (.Attribute a n pos) (rd1 f (fldK c n)) := peW (pe_fld ha hb) fun σ H Q h0 =>
  rd1_ok (r := fun x H1 Q => ∃ a C dx fs v, x = .ref a ∧ H1 a = some (.ins C dx fs) ∧ Cls X.K C ∧ NoAttr X.K C n ∧ fs.lookup n = some v ∧ Q v H1) (fun F H e σ x d Q R rx h => by
    unfold fldK at h
    split at h
    · rename_i c' fs
      split at h
      · rename_i hc
        subst hc
        cases w : fs.lookup n with
        | none => rw [w] at h; exact h.elim
        | some d =>
          rw [w] at h
          obtain ⟨p, C', dx, gs, rfl, m, hH, r⟩ := rx
          rw [hC] at m
          cases m
          obtain ⟨v, h1, h2⟩ := r.look w
          exact ⟨p, C, dx, gs, v, rfl, hH, cl, no, h1, post_val R h h2⟩
      · exact h.elim
    · exact h.elim) h0
def sAug (i : Nat) (f : M RV) (k : D → D → M RV) : M Flo := M.bind (rd2 (eVar i) f k) (stor i)
end
end Y

set_option Elab.async false
set_option linter.all false
set_option maxRecDepth 100000
set_option maxHeartbeats 4000000
namespace Y
open PySem PySem.Spec L2
set_option autoImplicit false
variable [TB]
/-! ### x += e -/
section
variable {X : Cx} {W : WX} {a b c : Expr} {f g : M RV} {pos pos' p : Pos} {x : Str}
def augK (k : D → D → M RV) (d : D) (i : Nat) (r : RV) : M Flo := fun e => match rdat e r with
  | some d' => (M.bind (k d d') (stor i)) e
  | none => .bad
/-- a name that holds plain data -/
def sAugI (i : Nat) (f : M RV) (k : D → D → M RV) : M Flo := fun e => match e[i]? with
  | some (.val d) => (M.bind f (augK k d i)) e
  | _ => .bad
theorem ds_augI {op : Operator} {r : R2} {k : D → D → M RV} (i : Nat) (hN : X.N.Nodup) (ho : OpR X (inplaceOp op) r) (hk : K2 X.K X.mg W r k) (ha : DE X W a f) (hi : X.N[i]? = some x := by rfl) (hx : Loc X.env.scope x := by first | exact Or.inl rfl | exact Or.inr rfl)
    (hf : X.fn x = true ∨ X.env.scope.names.lookup x = some .local := by first | exact .inl rfl | exact .inr rfl) : DS X W (.AugAssign (.Name x pos') op a pos) (sAugI i f k) := psW (ps_aug (ti := r) hN hi hx ha ho hf) fun E σ H ⟨e, F, R, h⟩ => by
  unfold sAugI at h
  split at h
  · rename_i d es
    have hl : i < σ.length := by rw [← R.len]; exact (List.getElem?_eq_some_iff.mp es).1
    obtain ⟨v, h1, h2⟩ := R.ok i _ _ es (List.getElem?_eq_getElem hl)
    refine ⟨v, by rw [List.getElem?_eq_getElem hl, h1], e, F, R, post_imp (postS_seq h) ?_⟩
    rintro y H1 ⟨r1, e1, F1, q1, R1, s1, z1⟩
    unfold augK at z1
    cases w : rdat e1 r1 with
    | none => rw [w] at z1; exact z1.elim
    | some d' =>
      rw [w] at z1
      dsimp only at z1
      refine hk F1 H1 e1 σ v y d d' _ R1 (Rep.rd R1.sub (h2.mono s1.fro)) (R1.rd q1 w) (post_imp (postS_seqG (R1 := rV X.K X.mg) s1 z1) ?_)
      rintro z H2 ⟨r2, e2, F2, q2, R2, s2, z2⟩
      exact stor_ok R2 (q2.imp fun _ y => s1.nm y) (s1.trans s2) z2
  · exact h.elim
/-! ### isinstance -/
def tyD : D → Option String
  | .non => some "NoneType"
  | .bl _ => some "bool"
  | .int _ => some "int"
  | .str _ => some "str"
  | .lst _ => some "list"
  | .tup _ => some "tuple"
  | _ => none
theorem rd_ty {K : PySem.W.Frag} {mg : Mg} {F H : Hp} {x : V} {d : D} {t : String} (s : Same F H) (rx : RdOk K mg F H x d) (h : tyD d = some t) : TyX K H x (.type t) := by
  cases d with
  | non => cases h; cases rx; exact .base .non
  | bl b => cases h; cases rx; exact .base (.bl b)
  | int b => cases h; cases rx; exact .base (.int b)
  | str b => cases h; cases rx; exact .base (.str b)
  | lst ds =>
    cases h
    obtain ⟨p, vs, rfl, q, _⟩ := rx
    rcases q with (q | ⟨o, q⟩) | ⟨o, its, n, q, hc, _⟩
    · exact .base (.lst q)
    · exact .base (.frz q)
    · exact .kList q hc
  | tup ds =>
    cases h
    obtain ⟨p, vs, rfl, q, _⟩ := rx
    rcases sqT_mono s q with (q | ⟨o, q⟩) | ⟨o, its, n, q, hc, _⟩
    · exact .base (.tup q)
    · exact .fTuple q
    · exact .kTuple q hc
  | ins c fs => cases h
  | raw v => cases h
  | dK ks => cases h
  | dT ks => cases h
  | exc _ _ => cases h
  | clo _ _ => cases h
  | fnv _ => cases h
/-- the built-in classes that are asked for -/
def subB (t n : String) : Bool := t == n || (t == "bool" && n == "int")
def isiK (ns : List String) : D → M RV := fun d e => match tyD d with
  | some t => .ok (.val (.bl (ns.any (subB t)))) e
  | none => .bad
abbrev tys : List String := ["NoneType", "bool", "int", "str", "list", "tuple"]
theorem kit_table : (tys.all fun t => ["int", "bool", "str", "list", "tuple"].all fun n => decide (kitB t n = some (subB t n))) = true := by decide +kernel
theorem tyD_mem {d : D} {t : String} (h : tyD d = some t) : t ∈ tys := by
  cases d <;> (unfold tyD at h; first | (cases h; decide) | cases h)
theorem kit_one {K : PySem.W.Frag} {d : D} {t n : String} (h : tyD d = some t) (hn : n ∈ ["int", "bool", "str", "list", "tuple"]) : PySem.W.kitOne K (.type t) (.type n) = some (subB t n) :=
  kit_ty (of_decide_eq_true (List.all_eq_true.mp (List.all_eq_true.mp kit_table t (tyD_mem h)) n hn))
theorem kit_any {K : PySem.W.Frag} {d : D} {t : String} (h : tyD d = some t) : ∀ {ns : List String}, (∀ n ∈ ns, n ∈ ["int", "bool", "str", "list", "tuple"]) → PySem.W.kitAny K (.type t) (ns.map Value.type) = some (ns.any (subB t))
  | [], _ => rfl
  | n :: ns, hn => by
    have ih := kit_any (K := K) h (ns := ns) fun m hm => hn m (List.mem_cons_of_mem _ hm)
    refine kitAny_cons (kit_one h (hn n List.mem_cons_self)) (fun hb => ?_) fun hb => ?_
    · rw [List.any_cons, hb, Bool.false_or]; exact ih
    · rw [List.any_cons, hb, Bool.true_or]
/-- isinstance(a, T), T a built-in class -/
theorem de_isi {n : String} {q q2 : Pos} {nm : Str} (hg : Gl X "isinstance") (hm : X.mg "isinstance" = none) (hg2 : Gl X nm) (hm2 : X.mg nm = none) (hv : bootBuiltins nm = some (.type n)) (hn : n ∈ ["int", "bool", "str", "list", "tuple"]) (ha : DE X W a f)
    (hnn : nm ≠ "__name__" := by decide) (hnd : (nm == ("__debug__" : Str)) = false := by decide)
    (he : starEach [a, .Name nm q2] X.env = (false, eval a X.env) :: starEach [.Name nm q2] X.env := by rfl) (he2 : starEach [.Name nm q2] X.env = (false, eval (.Name nm q2) X.env) :: starEach [] X.env := by rfl)
    (hpl : (backTo pos (starEach [.Name nm q2] X.env)).any (·.1) = false := by rfl) :
    DE X W (.Call (.Name "isinstance" q) [a, .Name nm q2] [] pos) (rd1 f (isiK [n])) :=
  peW (pe_callB call_isi hg hm (by decide +kernel) (pa_cons ha (pa_cons (pe_bltn (v := .ty n) hg2 hm2 hv rfl hnn hnd) pa_nil he2) he) (by decide) (by decide) he hpl) fun σ H Q h0 =>
    rd1_ok (r := fun x H1 Q => rIsi X.K [x, .ty n] H1 Q) (fun F H e σ x d Q R rx h => by
      unfold isiK at h
      cases w : tyD d with
      | none => rw [w] at h; exact h.elim
      | some t =>
        rw [w] at h
        refine ⟨x, .ty n, .type t, .type n, subB t n, rfl, .ty n, rd_ty R.sub rx w, kit_one w hn, ?_⟩
        have e1 : [n].any (subB t) = subB t n := by simp
        dsimp only at h
        rw [e1] at h
        exact post_val R h (.bl _)) h0
/-- isinstance(a, (T1, T2)) -/
theorem de_isi2 {n m : String} {q q2 q3 q4 : Pos} {nm mm : Str} {j : Nat} (hg : Gl X "isinstance") (hm : X.mg "isinstance" = none) (hg2 : Gl X nm) (hm2 : X.mg nm = none) (hv : bootBuiltins nm = some (.type n)) (hn : n ∈ ["int", "bool", "str", "list", "tuple"])
    (hg3 : Gl X mm) (hm3 : X.mg mm = none) (hv3 : bootBuiltins mm = some (.type m)) (hn3 : m ∈ ["int", "bool", "str", "list", "tuple"]) (ha : DE X W a f)
    (hnn : nm ≠ "__name__" := by decide) (hnd : (nm == ("__debug__" : Str)) = false := by decide) (hnn3 : mm ≠ "__name__" := by decide) (hnd3 : (mm == ("__debug__" : Str)) = false := by decide)
    (he : starEach [a, .Tuple [.Name nm q2, .Name mm q3] j q4] X.env = (false, eval a X.env) :: starEach [.Tuple [.Name nm q2, .Name mm q3] j q4] X.env := by rfl) (he2 : starEach [.Tuple [.Name nm q2, .Name mm q3] j q4] X.env = (false, eval (.Tuple [.Name nm q2, .Name mm q3] j q4) X.env) :: starEach [] X.env := by rfl)
    (he3 : starEach [.Name nm q2, .Name mm q3] X.env = (false, eval (.Name nm q2) X.env) :: starEach [.Name mm q3] X.env := by rfl) (he4 : starEach [.Name mm q3] X.env = (false, eval (.Name mm q3) X.env) :: starEach [] X.env := by rfl)
    (hpl : (backTo pos (starEach [.Tuple [.Name nm q2, .Name mm q3] j q4] X.env)).any (·.1) = false := by rfl) :
    DE X W (.Call (.Name "isinstance" q) [a, .Tuple [.Name nm q2, .Name mm q3] j q4] [] pos) (rd1 f (isiK [n, m])) :=
  peW (pe_callB call_isiT hg hm (by decide +kernel) (pa_cons ha (pa_cons (pe_tup (pa_cons (pe_bltn (v := .ty n) hg2 hm2 hv rfl hnn hnd) (pa_cons (pe_bltn (v := .ty m) hg3 hm3 hv3 rfl hnn3 hnd3) pa_nil he4) he3)) pa_nil he2) he) (by decide) (by decide) he hpl) fun σ H Q h0 =>
    rd1_ok (r := fun x H1 Q => [V.ty n, V.ty m].length ≤ sizeLine ∧ ∀ p, H1 p = none → rIsiT X.K [x, .ref p] (upd H1 p (.tup [.ty n, .ty m])) Q) (fun F H e σ x d Q R rx h => by
      unfold isiK at h
      cases w : tyD d with
      | none => rw [w] at h; exact h.elim
      | some t =>
        rw [w] at h
        refine ⟨by show 2 ≤ sizeLine; decide, fun p hp => ⟨x, p, [.ty n, .ty m], .type t, [.type n, .type m], [n, m].any (subB t), rfl, upd_same, .cons (.ty n) (.cons (.ty m) .nil), ?_, ?_, ?_⟩⟩
        · have rx' : RdOk X.K X.mg F (upd H p (.tup [.ty n, .ty m])) x d := by
            cases d with
            | lst ds => obtain ⟨q, vs, e1, h2, h3⟩ := rx; exact ⟨q, vs, e1, (same_upd' hp).seq h2, h3⟩
            | ins c fs => cases w
            | dK ks => cases w
            | dT ks => cases w
            | exc _ _ => cases w
            | clo _ _ => cases w
            | fnv _ => cases w
            | _ => exact rx
          exact rd_ty (R.new hp).sub rx' w
        · exact kit_any w (ns := [n, m]) (fun z hz => by
            rcases List.mem_cons.mp hz with y | y
            · rw [y]; exact hn
            · rcases List.mem_cons.mp y with y | y
              · rw [y]; exact hn3
              · cases y)
        · exact h _ F _ (Stp.new R hp) (R.new hp) (.bl _)) h0
/-- what the written part knows of a class of one's own -/
structure ClsF (K : PySem.W.Frag) (mg : Mg) (c : Str) (C : Addr) : Prop where
  mgC : mg c = some (.ref C)
  cl : Cls K C
  ha : PySem.W.findIn K (.ref C) "__class__" = some (some (.builtin "object.__class__"))
  hn : PySem.W.specialIn K (.builtin "object.__class__") "__get__" = some (some (.builtin "getset_descriptor.__get__"))
  htk : PySem.W.takesIn K (.builtin "object.__class__") = some true
  hm : PySem.W.mroIn K C (.type "object") = some true
  kc : PySem.W.kitOne K (.ref C) (.ref C) = some true
  k0 : PySem.W.kitOne K (.type "NoneType") (.ref C) = some false
  k1 : PySem.W.kitOne K (.type "bool") (.ref C) = some false
  k2 : PySem.W.kitOne K (.type "int") (.ref C) = some false
  k3 : PySem.W.kitOne K (.type "str") (.ref C) = some false
  k4 : PySem.W.kitOne K (.type "list") (.ref C) = some false
  k5 : PySem.W.kitOne K (.type "tuple") (.ref C) = some false
def isiC (c : Str) : D → M RV := fun d e => match d with
  | .ins c' _ => if c' = c then .ok (.val (.bl true)) e else .bad
  | d => match tyD d with
    | some _ => .ok (.val (.bl false)) e
    | none => .bad
theorem de_isiC {c : Str} {C : Addr} {q q2 : Pos} (hg : Gl X "isinstance") (hm : X.mg "isinstance" = none) (hg2 : Gl X c) (T : ClsF X.K X.mg c C) (ha : DE X W a f) (hnd : (c == ("__debug__" : Str)) = false := by decide)
    (he : starEach [a, .Name c q2] X.env = (false, eval a X.env) :: starEach [.Name c q2] X.env := by rfl) (he2 : starEach [.Name c q2] X.env = (false, eval (.Name c q2) X.env) :: starEach [] X.env := by rfl)
    (hpl : (backTo pos (starEach [.Name c q2] X.env)).any (·.1) = false := by rfl) :
    DE X W (.Call (.Name "isinstance" q) [a, .Name c q2] [] pos) (rd1 f (isiC c)) :=
  peW (pe_callB call_isi hg hm (by decide +kernel) (pa_cons ha (pa_cons (pe_glob (v := .ref C) hg2 T.mgC rfl hnd) pa_nil he2) he) (by decide) (by decide) he hpl) fun σ H Q h0 =>
    rd1_ok (r := fun x H1 Q => rIsi X.K [x, .ref C] H1 Q) (fun F H e σ x d Q R rx h => by
      have plain : ∀ t, tyD d = some t → post X.K X.mg W (rV X.K X.mg) F H e σ (.ok (.val (.bl false)) e) Q → rIsi X.K [x, .ref C] H Q := fun t w h => by
        refine ⟨x, .ref C, .type t, .ref C, false, rfl, .own C, rd_ty R.sub rx w, ?_, post_val R h (.bl _)⟩
        have hmem := tyD_mem w
        simp only [tys, List.mem_cons, List.not_mem_nil, or_false] at hmem
        rcases hmem with rfl | rfl | rfl | rfl | rfl | rfl
        · exact T.k0
        · exact T.k1
        · exact T.k2
        · exact T.k3
        · exact T.k4
        · exact T.k5
      cases d with
      | ins c' fs =>
        unfold isiC at h
        dsimp only at h
        split at h
        · rename_i hc
          subst hc
          obtain ⟨p, C', dx, gs, rfl, m, hH, r⟩ := rx
          rw [T.mgC] at m
          cases m
          exact ⟨_, .ref C, .ref C, .ref C, true, rfl, .own C, .base (.ins hH T.cl T.ha T.hn T.htk T.hm), T.kc, post_val R h (.bl _)⟩
        · exact h.elim
      | raw v => exact h.elim
      | dK ks => exact h.elim
      | dT ks => exact h.elim
      | exc _ _ => exact h.elim
      | clo _ _ => exact h.elim
      | fnv _ => exact h.elim
      | non => exact plain _ rfl h
      | bl b => exact plain _ rfl h
      | int b => exact plain _ rfl h
      | str b => exact plain _ rfl h
      | lst b => exact plain _ rfl h
      | tup b => exact plain _ rfl h) h0
end
end Y

set_option Elab.async false
set_option linter.all false
set_option maxRecDepth 100000
set_option maxHeartbeats 4000000
namespace Y
open PySem PySem.Spec L2
set_option autoImplicit false
variable [TB]
/-! ### self.f = e -/
def putD (f : Str) (v : D) : List (Str × D) → List (Str × D)
  | [] => [(f, v)]
  | p :: r => if p.1 = f then (p.1, v) :: r else p :: putD f v r
theorem RepF.put {K : PySem.W.Frag} {mg : Mg} {F : Hp} {f : Str} {v : V} {d : D} (r : Rep K mg F v d) : ∀ {gs : List (Str × V)} {fs : List (Str × D)}, RepF K mg F gs fs → RepF K mg F (putF f v gs) (putD f d fs)
  | _, _, .nil => .cons r .nil
  | _, _, .cons (f := g) q t => by
    unfold putF putD
    dsimp only
    split
    · exact .cons r t
    · exact .cons q (RepF.put r t)
theorem RepF.length {K : PySem.W.Frag} {mg : Mg} {F : Hp} : ∀ {gs : List (Str × V)} {fs : List (Str × D)}, RepF K mg F gs fs → gs.length = fs.length
  | _, _, .nil => rfl
  | _, _, .cons _ t => congrArg (· + 1) t.length
def sFldSet (i : Nat) (c n : Str) (f : M RV) : M Flo := M.bind f fun r => M.bind (frz r) fun d => fun e => match e[i]? with
  | some (.own fx (.ins c' fs)) => if c' = c ∧ fs.length < 1000 then .ok .nx (e.set i (.own fx (.ins c' (putD n d fs)))) else .bad
  | _ => .bad
section
variable {X : Cx} {W : WX} {a b : Expr} {es : List Expr} {f g : M RV} {as ks : M (List RV)} {pos pos' pos'' p : Pos} {x c n : Str} {C : Addr}
theorem ds_fldSet (i : Nat) (hC : X.mg c = some (.ref C)) (cl : Cls X.K C) (no : NoAttr X.K C n) (ha : DE X W a f) (hN : X.N[i]? = some x := by rfl) (hv : Vis X.env.scope x := by first | exact Or.inl rfl | exact Or.inr (Or.inl rfl) | exact Or.inr (Or.inr rfl)) (hd : (x == ("__debug__" : Str)) = false := by decide)
    (hcd : (x == ("__classdict__" : Str)) = false := by decide) (hs : swapsWith a (some (.Attribute (.Name x pos') n pos'')) pos.line X.env = pure false := by rfl) :
    DS X W (.Assign [.Attribute (.Name x pos') n pos''] a pos) (sFldSet i c n f) := psW (ps_fld (pe_var hN hv hd hcd) ha hs) fun E σ H ⟨e, F, R, h⟩ => by
  refine ⟨e, F, R, post_imp (postS_seq h) ?_⟩
  rintro y H1 ⟨r, e1, F1, q1, R1, s1, h1⟩
  cases w : frz r e1 with
  | bad => unfold M.bind at h1; rw [w] at h1; exact h1.elim
  | ex x e' => exact (frz_noex w).elim
  | ok d e2 =>
    unfold M.bind at h1
    rw [w] at h1
    obtain ⟨F2, s2, R2, q2⟩ := frz_ok R1 q1 w s1
    dsimp only at h1
    split at h1
    · rename_i fx c' fs es2
      split at h1
      · rename_i hc
        obtain ⟨rfl, hz⟩ := hc
        obtain ⟨q, o, hq, hH, C', dx, gs, rfl, m, rf⟩ := own_at R2 es2
        rw [hC] at m
        cases m
        refine ⟨_, hq, q, C, dx, gs, rfl, hH, cl, no, by rw [rf.length]; exact hz, ?_⟩
        exact h1 σ F2 _ (s2.change R2 es2 hq) (R2.change es2 hq ⟨C, dx, _, rfl, hC, rf.put q2⟩)
      · exact h1.elim
    · exact h1.elim
/-! ### C(e, .., k = v, ..) -/
abbrev DK (X : Cx) (W : WX) (kws : List Keyword) (f : M (List RV)) : Prop := PK X kws (cA X.K X.mg W f)
theorem pkW {X : Cx} {e : List Keyword} {t t' : TA} (h : PK X e t) (i : ∀ σ H Q, t' σ H Q → t σ H Q) : PK X e t' := ⟨fun pos pins s σ H Q I q => h.run pos pins s σ H Q I (i σ H Q q)⟩
theorem dk_nil : DK X W [] aNil := pkW pk_nil fun σ H Q ⟨e, F, R, h⟩ => post_ret R h .nil
theorem dk_cons {nm : Option Str} {kpos : Pos} {kws : List Keyword} (ha : DE X W a f) (hr : DK X W kws ks) : DK X W (⟨nm, a, kpos⟩ :: kws) (aCons (aV f) ks) := pkW (pk_cons ha hr) fun _ _ _ h => aCons_ok h
/-- the new instance, its __init__ having run -/
def mkK (fn : Fn) (c : Str) (nn mm : Nat) (g : List D → List D → List D) (rs rk : List RV) : M RV := fun e => match valsOf rs, valsOf rk with
  | some ds, some dk => if ds.length = nn ∧ dk.length = mm then (match fn (.own true (.ins c []) :: (g ds dk).map Slot.val) with
    | .ok (.val .non) (.own _ (.ins c' fs) :: _) => .ok (.own (.ins c' fs)) e
    | .ex x _ => .ex x e
    | _ => .bad) else .bad
  | _, _ => .bad
def eMake (fn : Fn) (c : Str) (nn mm : Nat) (g : List D → List D → List D) (as ks : M (List RV)) : M RV := M.bind as fun rs => M.bind ks fun rk => mkK fn c nn mm g rs rk
theorem all_val {l : List D} : (l.map Slot.val).all isArg = true := by
  induction l with
  | nil => rfl
  | cons d l ih => rw [List.map_cons, List.all_cons, ih]; rfl
/-- THE MAKING, from the caller's wish to the promise of __init__ -/
theorem mkK_ok {K : PySem.W.Frag} {mg : Mg} {F H : Hp} {e : Sl} {σ : St} {Q : VK} {fn : Fn} {q : Addr} {dx : Addr} {ws : List V} {ds : List D} {r : Res RV} (R : Rel K mg F e σ H) (hC : mg c = some (.ref C)) (rw' : Reps K mg F ws ds) (hq : H q = none) (hdx : H dx = none) (hne : dx ≠ q)
    (hr : r = (match fn (.own true (.ins c []) :: ds.map Slot.val) with
      | .ok (.val .non) (.own _ (.ins c' fs) :: _) => .ok (.own (.ins c' fs)) e
      | .ex x _ => .ex x e
      | _ => .bad)) (h : post K mg W (rV K mg) F H e σ r Q) :
    cSp K mg fn (.ref q :: ws) (upd (upd H dx (.own q)) q (.ins C dx [])) (fun v H3 => v = .non ∧ Q (.ref q) H3) (fun c d H => W c d σ H) := by
  have hu : ∀ b o, H b = some o → (upd (upd H dx (.own q)) q (.ins C dx [])) b = some o := fun b o z => by rw [upd_ne (ne_of_none z hq), upd_ne (ne_of_none z hdx)]; exact z
  have hnone : ∀ b, (upd (upd H dx (.own q)) q (.ins C dx [])) b = none → H b = none := fun b z => by
    cases y : H b with
    | none => rfl
    | some o => rw [hu b o y] at z; cases z
  have vget : ∀ {j : Nat} {v : V}, ws[j]? = some v → (ws.map some)[j]? = some (some v) := fun {j v} h => by rw [List.getElem?_map, h]; rfl
  have RA : Rel K mg F (.own true (.ins c []) :: ds.map Slot.val) ((V.ref q :: ws).map some) (upd (upd H dx (.own q)) q (.ins C dx [])) := by
    refine ⟨fun b o z => hu b o (R.sub b o z), by rw [List.length_cons, List.length_map, List.length_map, List.length_cons, rw'.length], fun i s o es ex => ?_, fun i j f g c1 c2 a ei ej _ _ => ?_, R.tab.ext hu, R.ftb⟩
    · cases i with
      | zero =>
        have e1 : Slot.own true (.ins c []) = s := by simpa using es
        have e2 : some (V.ref q) = o := by simpa using ex
        subst e1 e2
        exact ⟨q, _, rfl, R.free hq, upd_same, C, dx, [], rfl, hC, .nil⟩
      | succ i =>
        have e1 : (ds.map Slot.val)[i]? = some s := by simpa using es
        rw [List.getElem?_map] at e1
        cases y : ds[i]? with
        | none => rw [y] at e1; cases e1
        | some d =>
          rw [y] at e1
          have e1 : Slot.val d = s := by simpa using e1
          subst e1
          obtain ⟨v, h1, h2⟩ := rw'.get y
          have e2 : some v = o := by
            have : (ws.map some)[i]? = some o := by simpa using ex
            rw [vget h1] at this
            exact Option.some.inj this
          subst e2
          exact ⟨v, rfl, h2⟩
    · have z : ∀ {k : Nat} {f : Bool} {c1 : Cont}, (Slot.own true (.ins c []) :: ds.map Slot.val)[k]? = some (.own f c1) → k = 0 := fun {k f c1} h => by
        cases k with
        | zero => rfl
        | succ k =>
          have h : (ds.map Slot.val)[k]? = some (.own f c1) := by simpa using h
          rw [List.getElem?_map] at h
          cases y : ds[k]? with
          | none => rw [y] at h; cases h
          | some d => rw [y] at h; cases h
      rw [z ei, z ej]
  have ow : ∀ {b : Addr}, Own (.own true (.ins c []) :: ds.map Slot.val) ((V.ref q :: ws).map some) b → b = q := fun {b} ⟨k, f, c1, h1, h2⟩ => by
    cases k with
    | zero =>
      have : some (V.ref q) = some (V.ref b) := by simpa using h2
      cases this
      rfl
    | succ k =>
      have h : (ds.map Slot.val)[k]? = some (.own f c1) := by simpa using h1
      rw [List.getElem?_map] at h
      cases y : ds[k]? with
      | none => rw [y] at h; cases h
      | some d => rw [y] at h; cases h
  -- a step of the callee's is one of ours
  have step : ∀ {F' H' : Hp} {a' : Sl}, Stp F (upd (upd H dx (.own q)) q (.ins C dx [])) (.own true (.ins c []) :: ds.map Slot.val) ((V.ref q :: ws).map some) F' H' a' ((V.ref q :: ws).map some) → Same F' H' → TabOk H' → (∀ b o, F' b = some o → NoTbl o) → Stp F H e σ F' H' e σ ∧ Rel K mg F' e σ H' := fun {F' H' a'} s sb st1 st2 => by
    have nm : ∀ b, NM (upd (upd H dx (.own q)) q (.ins C dx [])) (.own true (.ins c []) :: ds.map Slot.val) ((V.ref q :: ws).map some) b → H b = none := fun b z => by
      rcases z with z | z
      · exact hnone b z
      · rw [ow z]; exact hq
    refine ⟨⟨s.fro, fun b o z _ m => s.kept b o (hu b o z) (fun y => ?_) m, fun b z => hnone b (s.dom b z), fun b z z' => .inl (nm b (s.newF b z z')), fun b z => .inr z, fun i c z => ⟨⟨c, z⟩, rfl⟩, rfl⟩, ⟨sb, R.len, fun i t o es ex => ?_, R.inj, st1, st2⟩⟩
    · rw [ow y, hq] at z; cases z
    · have z := R.ok i t o es ex
      cases t with
      | no => trivial
      | val d => obtain ⟨v, z1, z2⟩ := z; exact ⟨v, z1, z2.mono s.fro⟩
      | own f c1 =>
        obtain ⟨a, o', z1, z2, z3, z4⟩ := z
        refine ⟨a, o', z1, ?_, s.kept a o' (hu a o' z3) (fun y => by rw [ow y, hq] at z3; cases z3) z4.notbl, z4.mono s.fro⟩
        cases y : F' a with
        | none => rfl
        | some u =>
          have := nm a (s.newF a z2 (by rw [y]; exact fun k => nomatch k))
          rw [z3] at this; cases this
  refine ⟨_, F, RA, by rw [List.all_cons, all_val]; rfl, ?_⟩
  subst hr
  cases w : fn (.own true (.ins c []) :: ds.map Slot.val) with
  | bad => rw [w] at h; exact h.elim
  | ex x a' =>
    rw [w] at h
    intro cls d F' H' s R' z
    obtain ⟨s1, r1⟩ := step s R'.sub R'.tab R'.ftb
    exact h cls d F' H' s1 r1 z
  | ok r a' =>
    rw [w] at h
    intro v F' H' s R' z
    split at h
    · rename_i fx c' fs rest heq
      cases heq
      obtain ⟨s1, r1⟩ := step s R'.sub R'.tab R'.ftb
      obtain ⟨a, o, z1, z2, z3, z4⟩ := R'.ok 0 _ (some (V.ref q)) rfl rfl
      have : q = a := by simpa using z1
      subst this
      cases z
      refine ⟨rfl, h (.ref q) F' H' s1 r1 ⟨q, o, rfl, z2, z3, z4, ?_, .inl hq⟩⟩
      rintro ⟨k, f, c1, k1, k2⟩
      obtain ⟨a, o', m1, m2, m3, _⟩ := R.ok k _ _ k1 k2
      cases m1
      rw [hq] at m3; cases m3
    · rename_i heq
      cases heq
    · exact h.elim
variable {fn : Fn} {k nn : Nat} {fa : Addr} {fd : FuncData} {ps nms : List Str} {kws : List Keyword} {gu : List Value → List Value → List Value} {gV : List V → List V → List V} {gD : List D → List D → List D}
theorem de_make (M : Mk X.K C fa) (G : FnOk X.prog X.w X.K X.mg X.base (L2.CX X.prog X.w) k fa fd ps (cSp X.K X.mg fn)) (hr : Room (k + 1) X.A) (hp : ∀ {E : XK}, (∀ c d σ H, E c d H → W c d σ H) → Passes (L2.CX X.prog X.w) X E) (hW : ∀ c d σ σ' H, W c d σ H → W c d σ' H) (hg : Gl X c) (hm : X.mg c = some (.ref C))
    (hb : KBn X.K fd ps (nn + 1) nms gu gV) (ha : DA X W (a :: es) as) (hk : DK X W kws ks)
    (hgD : ∀ (F : Hp) (v : V) (vs zs : List V) (ds dk : List D), Reps X.K X.mg F vs ds → Reps X.K X.mg F zs dk → ds.length = nn → dk.length = nms.length → ∃ ws, gV (v :: vs) zs = v :: ws ∧ Reps X.K X.mg F ws (gD ds dk))
    (hall : (backToKw pos (keywordEach kws X.env)).all (·.1.isSome) = true := by rfl) (hks : (backToKw pos (keywordEach kws X.env)).filterMap (·.1) = nms := by rfl) (hdb : (c == ("__debug__" : Str)) = false := by decide)
    (he : starEach (a :: es) X.env = (false, eval a X.env) :: starEach es X.env := by rfl) (hpl : ((backTo pos (starEach (a :: es) X.env)).any (·.1) || (backToKw pos (keywordEach kws X.env)).any (·.1.isNone)) = false := by rfl) :
    DE X W (.Call (.Name c p) (a :: es) kws pos) (eMake fn c nn nms.length gD as ks) := peW (pe_makeK (E := fun c d H => ∃ σ, W c d σ H) M G hr hg hm hb (hp fun c d σ H ⟨σ', z⟩ => hW c d σ' σ H z) ha hk hall hks hdb he hpl) fun σ H Q ⟨e, F, R, h⟩ => by
  refine ⟨e, F, R, post_imp (post_seq up_V h) ?_⟩
  rintro vs H1 ⟨rs, e1, F1, q1, R1, s1, h1⟩
  refine ⟨e1, F1, R1, post_imp (post_seq up_V h1) ?_⟩
  rintro zs H2 ⟨rk, e2, F2, q2, R2, s2, h2⟩
  have q1 := q1.mono s2.fro
  unfold mkK at h2
  cases w1 : valsOf rs with
  | none => rw [w1] at h2; exact h2.elim
  | some ds =>
    cases w2 : valsOf rk with
    | none => rw [w1, w2] at h2; exact h2.elim
    | some dk =>
      rw [w1, w2] at h2
      dsimp only at h2
      split at h2
      · rename_i hl
        have r1 := q1.reps w1
        have r2 := q2.reps w2
        refine ⟨by rw [r1.length]; exact hl.1, by rw [r2.length]; exact hl.2, fun x dx hx hdx hne => ?_⟩
        obtain ⟨ws, e1, e2⟩ := hgD F2 (.ref x) vs zs ds dk r1 r2 hl.1 hl.2
        rw [e1]
        obtain ⟨args, F3, R3, a3, p3⟩ := mkK_ok (W := W) R2 hm e2 hx hdx hne rfl h2
        refine ⟨args, F3, R3, a3, ?_⟩
        revert p3
        cases fn args with
        | bad => exact id
        | ok r s => exact id
        | ex y s => exact fun p3 cls d F' H' s' R' z => ⟨σ, p3 cls d F' H' s' R' z⟩
      · exact h2.elim
end
end Y

set_option Elab.async false
set_option linter.all false
set_option maxRecDepth 100000
set_option maxHeartbeats 4000000
namespace Y
open PySem PySem.Spec L2
set_option autoImplicit false
variable [TB]
/-! ### enumerate of a tuple -/
set_option maxHeartbeats 1000000 in
theorem meets_enT (q : Addr) (its : Array Value) : Meets (Builtin.«enumerate.__new__» ⟨[.type "enumerate", .ref q], []⟩) (fun _ R s => s.heap.IsTuple q its ∧
      R (.ok (.ret (.ref (s.heap.push { cls := .type "tuple_iterator", data := .fields #[.ref q, .int 0 0] }).objs.size)))
        { s with heap := (s.heap.push { cls := .type "tuple_iterator", data := .fields #[.ref q, .int 0 0] }).push { cls := .type "enumerate", data := .fields #[.none, .bool false, .ref s.heap.objs.size, rawInt 0, .none, .none] } }) :=
  .of_wp fun prog w A R s hyp => by
    obtain ⟨hp, gg, dr, tk, os⟩ := s
    obtain ⟨isT, hyp⟩ := hyp
    have hsub := PySem.sub_enumerate
    have it0 : ∀ {A' : Around} {E : Value → Shared → Prop} {Q : Value → Shared → Prop}, Q (.ref hp.objs.size) ⟨hp.push { cls := .type "tuple_iterator", data := .fields #[.ref q, .int 0 0] }, gg, dr, tk, os⟩ → wpAny (model prog w) A' (pyIter (.ref q)) Q E ⟨hp, gg, dr, tk, os⟩ :=
      fun z => wpAny_pyIter_tuple isT z
    wp_walk using it0
    refine wpAny_stack_any fun st => wpAny_pure ?_
    split
    · rename_i cc _ _ _ _ _
      cases (cc == Value.type "enumerate")
      · wp_walk using it0
        exact ⟨_, rfl, hyp⟩
      · wp_walk using it0
        exact ⟨_, rfl, hyp⟩
    · wp_walk using it0
      exact ⟨_, rfl, hyp⟩
section
variable {prog : Program} {w : World} {A : Around} {E : Value → Shared → Prop} {s : Shared}
theorem call_enT {q : Addr} {its : Array Value} {Q : Value → Shared → Prop} (isT : s.heap.IsTuple q its)
    (h : ∀ h', PySem.IsEnum h' (s.heap.objs.size + 1) s.heap.objs.size 0 .none → h'.IsTupleIter s.heap.objs.size q 0 → (∀ b o, s.heap.get? b = some o → h'.get? b = some o) → Q (.ref (s.heap.objs.size + 1)) { s with heap := h' }) :
    wpAny (model prog w) A (call (.type "enumerate") [.ref q]) Q E s := by
  refine callType_new F.called_enumerate (by decide) (F.typeCall_enumerate_1 _) (F.newCall_enumerate_1 _) (fun ob => F.args_object_init_2 ob _) F.entry_enumerate_new (meets_enT q its) ⟨isT, ?_⟩
  have hz : (s.heap.push { cls := .type "tuple_iterator", data := .fields #[.ref q, .int 0 0] }).objs.size = s.heap.objs.size + 1 := Heap.size_push ..
  show _ ∧ _
  rw [hz]
  have he : PySem.IsEnum ((s.heap.push { cls := .type "tuple_iterator", data := .fields #[.ref q, .int 0 0] }).push { cls := .type "enumerate", data := .fields #[.none, .bool false, .ref s.heap.objs.size, rawInt 0, .none, .none] }) (s.heap.objs.size + 1) s.heap.objs.size 0 .none := by
    have z := Heap.get?_push_size (s.heap.push { cls := .type "tuple_iterator", data := .fields #[.ref q, .int 0 0] }) (o := { cls := .type "enumerate", data := .fields #[.none, .bool false, .ref s.heap.objs.size, rawInt 0, .none, .none] }) rfl
    rw [hz] at z
    exact z
  exact ⟨⟨_, he, rfl⟩, h _ he ⟨_, Heap.get?_push_of_some _ (Heap.get?_push_size _ rfl), rfl, rfl⟩ fun b o x => Heap.get?_push_of_some _ (Heap.get?_push_of_some _ x)⟩
end
/-- the tuple at a, each item in a new pair -/
def ItT (K : PySem.W.Frag) (a : Addr) : It :=
  ⟨fun i H => ∃ (xs : List V) (x : V), SqT K H a xs ∧ xs[i]? = some x, fun i H v H' => ∃ T x, v = .ref T ∧ H T = none ∧ H' = upd H T (.tup [.int (i : Nat), x]) ∧ ∀ xs, SqT K H a xs → xs[i]? = some x, fun i H => ∃ xs : List V, SqT K H a xs ∧ xs.length = i⟩
theorem turn_enT {P : Program} {w : World} {K : PySem.W.Frag} {elts : List Expr} {kk : Nat} {tpos : Pos} (a en it : Addr) (hai : a ≠ it) (hae : a ≠ en) :
    Turn P w K (.Tuple elts kk tpos) (ItT K a) [en, it] en (fun i h => (∃ old, PySem.IsEnum h en it ((i : Nat) : Int) old) ∧ h.IsTupleIter it a i ∧ en ≠ it) where
  mem := by simp
  obj := fun i h st b hb => by
    obtain ⟨⟨old, he⟩, ⟨ob, ho, hcl, hdt⟩, _⟩ := st
    have two : b = en ∨ b = it := by simpa using hb
    rcases two with z | z
    · rw [z]
      exact ⟨_, he, fun v q => nomatch q⟩
    · rw [z]
      exact ⟨ob, ho, fun v q => by rw [hdt] at q; cases q⟩
  keep := fun i h h' st k => let ⟨⟨old, he⟩, hi, hne⟩ := st; ⟨⟨old, k en (by simp) _ he⟩, hi.at fun ob q => k it (by simp) ob q, hne⟩
  item := by
    intro X eP ew eK hcalm i pins s σ H E I hfp st hgo
    subst eP ew eK
    obtain ⟨⟨old, he⟩, hit, hne⟩ := st
    obtain ⟨xs, x, hsq, hx⟩ := hgo
    obtain ⟨its, rv, isT, hz⟩ := I.tuple hsq
    obtain ⟨u, hu, ru⟩ := rv.get hx
    have len : i < its.toArray.size := by
      have := (List.getElem?_eq_some_iff.mp hu).1
      simpa using this
    have hen : en < s.heap.objs.size := Heap.lt_size he
    have hil : it < s.heap.objs.size := by
      obtain ⟨_, q, _⟩ := hit
      exact Heap.lt_size q
    have hd := I.ok.hd hcalm
    refine wpAny_pyNext_enum_itemD (Draws.tuple (A := X.A.in1) hd it a hai its.toArray) he ⟨hit, isT⟩ len hne (by simp [hne, Ne.symm hae]) fun y h' tk hy ho hst hT hsz hkp => ?_
    have ey : y = u := by
      have z : its[i]? = some y := by simpa using hy
      rw [hu] at z
      exact (Option.some.inj z).symm
    subst ey
    refine ⟨_, rfl, wpAny_letOwnedTupleGo_enum (s := { s with heap := h', toks := tk + 1 }) ho fun h'' he' sb => ?_⟩
    have hT2 : h''.get? s.heap.objs.size = some { cls := .type "tuple", data := .seq #[.int i tk, y] } := (sb.2 _ (Nat.ne_of_gt hen)).trans hT
    have laid : ObjOk X.prog X.w (upd H s.heap.objs.size (.tup [.int (i : Nat), x])) h'' s.heap.objs.size (.tup [.int (i : Nat), x]) :=
      ⟨by show 2 ≤ sizeLine; decide, [.int i tk, y], .cons ⟨_, rfl⟩ (.cons ru .nil), ⟨_, hT2, rfl, _, rfl⟩⟩
    have I1 : Inv X pins σ (upd H s.heap.objs.size (.tup [.int (i : Nat), x])) { s with heap := h'', toks := tk + 1 } :=
      I.turnedNew (ch := [en, it]) (fun b ob nb q => (sb.2 b (fun z => nb (by simp [z]))).trans (hkp b ob (fun z => nb (by simp [z])) (fun z => nb (by simp [z])) q)) hfp (Nat.le_refl _) laid
    refine ⟨.ref s.heap.objs.size, _, I1, rfl, ⟨_, x, rfl, I.hok.fresh (Nat.le_refl _), rfl, fun ys hys => by rw [I.tuple_inj hys hsq]; exact hx⟩, ⟨⟨y, ?_⟩, hst.1.at fun ob q => (sb.2 it (Ne.symm hne)).trans q, hne⟩, fun b hb => ?_⟩
    · rw [show ((i + 1 : Nat) : Int) = (i : Int) + 1 by omega]
      exact he'
    · have two : b = en ∨ b = it := by simpa using hb
      have hlt : b < s.heap.objs.size := by
        rcases two with z | z
        · rw [z]; exact hen
        · rw [z]; exact hil
      rw [upd_ne (Nat.ne_of_lt hlt)]
      exact (hfp b hb).1
  done := by
    intro X eP ew eK hcalm i pins s σ H E I hfp st hgo
    subst eP ew eK
    obtain ⟨⟨old, he⟩, hit, hne⟩ := st
    obtain ⟨xs, hsq, hx⟩ := hgo
    obtain ⟨its, rv, isT, hz⟩ := I.tuple hsq
    obtain ⟨f0, f1, f2, f3, f4, f5⟩ := hfp it (by simp)
    have hd := I.ok.hd hcalm
    have hl : i = its.toArray.size := by rw [List.size_toArray, ← rv.length, hx]
    have D0 := Draws.tuple (prog := X.prog) (w := X.w) (A := X.A.in1) hd it a hai its.toArray
    subst hl
    exact wpAny_pyNext_enum_endD D0 he ⟨hit, isT⟩ fun h' eb => ⟨rfl, I.turned (t' := s.toks) (fun b ob hb q => eb b ob hb q) f0 f1 f3 f4 f5⟩
  self := fun A i s Q E st hQ => let ⟨⟨_, he⟩, _⟩ := st; wpAny_pyIter_enum he hQ

/-- enumerate(x), x a list or a tuple -/
def iEn (K : PySem.W.Frag) (ta : TA) : TI := fun σ H R => ta σ H fun vs H1 => ∃ a, vs = [.ref a] ∧ (((∃ xs, SqL K H1 a xs) ∧ R (Ite K a) H1) ∨ ((∃ xs, SqT K H1 a xs) ∧ R (ItT K a) H1))
def enumD : Nat → List D → List D
  | _, [] => []
  | k, d :: r => .tup [.int (k : Int), d] :: enumD (k + 1) r
theorem enumD_len : ∀ (k : Nat) (ds : List D), (enumD k ds).length = ds.length
  | _, [] => rfl
  | k, d :: r => congrArg (· + 1) (enumD_len (k + 1) r)
theorem enumD_get : ∀ (k i : Nat) (ds : List D) (d : D), ds[i]? = some d → (enumD k ds)[i]? = some (.tup [.int ((k + i : Nat) : Int), d])
  | _, _, [], _, h => by simp at h
  | k, 0, x :: r, d, h => by
    have e : x = d := by simpa using h
    subst e
    rfl
  | k, i + 1, x :: r, d, h => by
    have := enumD_get (k + 1) i r d (by simpa using h)
    show (enumD (k + 1) r)[i]? = _
    rw [this, show k + 1 + i = k + (i + 1) by omega]
def itEnum (f : M RV) : M (List D) := M.bind (itSeq f) fun ds => M.ret (enumD 0 ds)
section
variable {X : Cx} {W : WX} {a : Expr} {f : M RV} {pos p tpos : Pos} {elts : List Expr} {kk : Nat}
theorem pi_en {ta : TA} (hg : Gl X "enumerate") (hm : X.mg "enumerate" = none) (ha : PA X [a] ta) (hs : starEach [a] X.env = [(false, eval a X.env)] := by rfl) : PI X (.Tuple elts kk tpos) (.Call (.Name "enumerate" p) [a] [] pos) (iEn X.K ta) := by
  refine ⟨fun pins s σ H R I h => ?_⟩
  refine PyProof.Rows.Call_ (ld_blt I hg hm PyProof.Rows.boot_enumerate (PyProof.Rows.callWith_type1 (thn (ha.run pos pins s σ H _ I h) fun us s1 ⟨vs, H1, I1, r1, q1⟩ => ?_) hs rfl))
  obtain ⟨q, ev, hq⟩ := q1
  subst ev
  have eu := r1.ref1
  subst eu
  have fresh : ∀ b ∈ [s1.heap.objs.size + 1, s1.heap.objs.size], FpOk X pins H1 b := fun b hb => by
    have two : b = s1.heap.objs.size + 1 ∨ b = s1.heap.objs.size := by simpa using hb
    have hle : s1.heap.objs.size ≤ b := by omega
    exact I1.fpOk hle (I1.hok.fresh hle)
  rcases hq with ⟨⟨xs, hs1⟩, z⟩ | ⟨⟨xs, hs1⟩, z⟩
  · obtain ⟨its, rv, pl, _⟩ := I1.list hs1
    refine call_enumerate_list pl.isList fun h' he hit hsz hkp => wpAny_pyIter_enum he ?_
    exact ⟨_, _, _, _, H1, rfl, I1.kept (t' := s1.toks) hkp, turn_enum q _ _, ⟨⟨.none, he⟩, hit, Nat.succ_ne_self _⟩, fresh, z⟩
  · obtain ⟨its, rv, isT, _⟩ := I1.tuple hs1
    have hlt : q < s1.heap.objs.size := by
      obtain ⟨ob, ho, _⟩ := id isT
      exact Heap.lt_size ho
    refine call_enT isT fun h' he hit hkp => wpAny_pyIter_enum he ?_
    exact ⟨_, _, _, _, H1, rfl, I1.kept (t' := s1.toks) hkp, turn_enT q _ _ (Nat.ne_of_lt hlt) (Nat.ne_of_lt (Nat.lt_succ_of_lt hlt)), ⟨⟨.none, he⟩, hit, Nat.succ_ne_self _⟩, fresh, z⟩
theorem walkD_en {K : PySem.W.Frag} {mg : Mg} {F : Hp} {a : Addr} {vs : List V} {ds : List D} (h : SqL K F a vs) (r : Reps K mg F vs ds) : WalkD K mg F (Ite K a) (enumD 0 ds) := by
  unfold WalkD
  rw [enumD_len, ← r.length]
  refine ⟨fun i H hi s => ⟨vs, vs[i], s.seq h, List.getElem?_eq_getElem hi⟩, fun H s => ⟨vs, s.seq h, Nat.le_refl _⟩, fun i H x H' hi s y => ?_⟩
  obtain ⟨T, v, e1, e2, e3, e4⟩ := y
  have hd : i < ds.length := by rw [← r.length]; exact hi
  obtain ⟨v', h1, h2⟩ := r.get (List.getElem?_eq_getElem hd)
  rw [e4 vs (s.seq h)] at h1
  cases h1
  refine ⟨_, enumD_get 0 i ds _ (List.getElem?_eq_getElem hd), .inr ⟨T, .int (i : Nat), v, _, _, e1, e2, e3, rfl, ?_, h2⟩⟩
  rw [Nat.zero_add]
  exact .int _
theorem walkD_enT {K : PySem.W.Frag} {mg : Mg} {F : Hp} {a : Addr} {vs : List V} {ds : List D} (h : SqT K F a vs) (r : Reps K mg F vs ds) : WalkD K mg F (ItT K a) (enumD 0 ds) := by
  unfold WalkD
  rw [enumD_len, ← r.length]
  refine ⟨fun i H hi s => ⟨vs, vs[i], sqT_mono s h, List.getElem?_eq_getElem hi⟩, fun H s => ⟨vs, sqT_mono s h, rfl⟩, fun i H x H' hi s y => ?_⟩
  obtain ⟨T, v, e1, e2, e3, e4⟩ := y
  have hd : i < ds.length := by rw [← r.length]; exact hi
  obtain ⟨v', h1, h2⟩ := r.get (List.getElem?_eq_getElem hd)
  rw [e4 vs (sqT_mono s h)] at h1
  cases h1
  refine ⟨_, enumD_get 0 i ds _ (List.getElem?_eq_getElem hd), .inr ⟨T, .int (i : Nat), v, _, _, e1, e2, e3, rfl, ?_, h2⟩⟩
  rw [Nat.zero_add]
  exact .int _
theorem di_enum (hg : Gl X "enumerate") (hm : X.mg "enumerate" = none) (ha : DE X W a f) (hs : starEach [a] X.env = [(false, eval a X.env)] := by rfl) (hs' : starEach [a] X.env = (false, eval a X.env) :: starEach [] X.env := by rfl) :
    DI X W (.Tuple elts kk tpos) (.Call (.Name "enumerate" p) [a] [] pos) (itEnum f) := piW (pi_en hg hm (pa_cons ha pa_nil hs') hs) fun σ H Q ⟨e, F, R, h⟩ => by
  refine ⟨e, F, R, ?_⟩
  unfold itEnum itSeq M.bind at h
  cases w : f e with
  | bad => rw [w] at h; exact h.elim
  | ex x e' => rw [w] at h; exact h
  | ok r e1 =>
    rw [w] at h
    dsimp only at h
    intro x F1 H1 s1 R1 q1
    cases w' : frz r e1 with
    | bad => rw [w'] at h; exact h.elim
    | ex x e' => exact (frz_noex w').elim
    | ok d e2 =>
      rw [w'] at h
      obtain ⟨F2, s2, R2, q2⟩ := frz_ok R1 q1 w' s1
      dsimp only at h
      cases d with
      | lst ds =>
        cases q2 with
        | lst q r => exact ⟨_, rfl, .inl ⟨⟨_, R2.sub.seq q⟩, h _ F2 H1 s2 R2 (walkD_en q r)⟩⟩
      | tup ds =>
        cases q2 with
        | tup q r => exact ⟨_, rfl, .inr ⟨⟨_, sqT_mono R2.sub q⟩, h _ F2 H1 s2 R2 (walkD_enT q r)⟩⟩
      | _ => exact h.elim
end
end Y

set_option Elab.async false
set_option linter.all false
set_option maxRecDepth 100000
set_option maxHeartbeats 4000000
namespace Y
open PySem PySem.Spec L2
set_option autoImplicit false
variable [TB]
/-! ### defs by name -/
/-- how plain positional arguments bind -/
def BA (fd : FuncData) (ps : List Str) : Prop := ∀ us : List Value, us.length = ps.length → bindArgs fd ⟨us, []⟩ = pure (ps.zip us)
theorem FunD.ba {K : PySem.W.Frag} {x qual : Str} {params : Arguments} {body : List Stmt} {scope : Scope} {kws : List (Str × V)} {f : Addr} {fd : FuncData} {ps : List Str} (F : FunD K x qual params body scope [] kws f fd)
    (h : ∀ (kV doc pm : Value) (an : Option Addr) (cdv ct : Value) (us : List Value), us.length = ps.length → bindArgs (PySem.W.fnOf x qual params body scope .none kV doc pm an cdv ct) ⟨us, []⟩ = pure (ps.zip us)) : BA fd ps := by
  obtain ⟨oc, od, dV, kV, doc, pm, an, cdv, ct, osl, rfl, lk, hcd, hD, hK⟩ := F.ex
  rcases hD with ⟨_, rfl⟩ | ⟨e, _⟩
  · exact fun us hl => h kV doc pm an cdv ct us hl
  · exact absurd rfl e
/-- a def of the text stands behind its name -/
def DefAt (K : PySem.W.Frag) (mg : Mg) (x : Str) (st : Stmt) (ps : List Str) : Prop := ∃ f fd, FunD K x x (defArgs st) (defBody st) (defScope st) [] [] f fd ∧ mg x = some (.ref f) ∧ BA fd ps
def CallOk (P : Program) (w : World) (K : PySem.W.Frag) (mg : Mg) (x : Str) (k : Nat) (ps : List Str) (fn : Fn) : Prop := ∃ f fd, (∀ base, BaseOk mg base → FnOk P w K mg base (L2.CX P w) k f fd ps (cSp K mg fn)) ∧ mg x = some (.ref f) ∧ PySem.W.keepIn K (.ref f) = true ∧ BA fd ps
theorem DefAt.ok {P : Program} {w : World} {K : PySem.W.Frag} {mg : Mg} {x : Str} {st : Stmt} {ps : List Str} {k : Nat} {fn : Fn} (d : DefAt K mg x st ps) (h : ∀ f fd, FunD K x x (defArgs st) (defBody st) (defScope st) [] [] f fd → ∀ base, BaseOk mg base → FnOk P w K mg base (L2.CX P w) k f fd ps (cSp K mg fn)) : CallOk P w K mg x k ps fn := by
  obtain ⟨f, fd, F, m, b⟩ := d
  exact ⟨f, fd, h f fd F, m, F.kp, b⟩
section
variable {X : Cx} {W : WX} {a b c : Expr} {es : List Expr} {f g h : M RV} {as : M (List RV)} {fn : Fn} {pos p : Pos} {k : Nat} {ps : List Str} {x : Str}
theorem de_callN (G : CallOk X.prog X.w X.K X.mg x k ps fn) (hB : BaseOk X.mg X.base) (hr : Room k X.A) (tk : Takes X W) (hg : Gl X x) (ha : DA X W (a :: es) as)
    (hdb : (x == ("__debug__" : Str)) = false := by decide) (he : starEach (a :: es) X.env = (false, eval a X.env) :: starEach es X.env := by rfl) (hpl : (backTo pos (starEach es X.env)).any (·.1) = false := by rfl) :
    DE X W (.Call (.Name x p) (a :: es) [] pos) (eCall fn as) := by
  obtain ⟨fa, fd, G, m, hk, hb⟩ := G
  exact de_call (G X.base hB) hr tk hg m hk (.all hb) ha hdb he hpl
/-! ### chains -/
theorem de_chain {op op' : CmpOp} {pp qq : Int → Int → Bool} (ho : OpR X (compareOp op) (rI0 fun i j => .bl (pp i j))) (ho' : OpR X (compareOp op') (rI0 fun i j => .bl (qq i j))) (ha : DE X W a f) (hb : DE X W b g) (hc : DE X W c h)
    (hm : lastMarks [op, op'] [b, c] = false := by with_unfolding_all rfl) : DE X W (.Compare a [op, op'] [b, c] pos) (chI pp qq f g h) := peW (pe_chain ho ho' ha hb hc hm) fun _ _ _ z => chI_ok z
theorem dt_chain {op op' : CmpOp} {pp qq : Int → Int → Bool} (ho : OpR X (compareOp op) (rI0 fun i j => .bl (pp i j))) (ho' : OpR X (compareOp op') (rI0 fun i j => .bl (qq i j))) (ha : DE X W a f) (hb : DE X W b g) (hc : DE X W c h)
    (hm : lastMarks [op, op'] [b, c] = false := by with_unfolding_all rfl) : DT X W (.Compare a [op, op'] [b, c] pos) (asB (chI pp qq f g h)) := ptW (pt_chain ho ho' ha hb hc hm) fun _ _ _ z => chI_ok (asB_ok z)
end
/-! ### a law's end -/
def spTrue (K : PySem.W.Frag) : Sp := fun vs H Q _ => ∃ (a : Addr) (ns : List Int), vs = [.ref a] ∧ SqL K H a (ns.map V.int) ∧ ns.length ≤ 63 ∧ TabOk H ∧ ∀ H', Q (.bl true) H'
theorem reps_ints {K : PySem.W.Frag} {mg : Mg} {F : Hp} : ∀ ns : List Int, Reps K mg F (ns.map V.int) (ns.map D.int)
  | [] => .nil
  | n :: ns => .cons (.int n) (reps_ints ns)
theorem law_end {P : Program} {w : World} {K : PySem.W.Frag} {mg : Mg} {x : Str} {k : Nat} {p : Str} {fn : Fn} {fa : Addr} (G : CallOk P w K mg x k [p] fn) (hm : mg x = some (.ref fa)) (h : ∀ ns : List Int, ns.length ≤ 63 → ∃ e, fn [.val (.lst (ns.map D.int))] = .ok (.val (.bl true)) e) :
    ∃ fd : FuncData, (∀ (s : Shared) (u : Value), BindsTo s fd ⟨[u], []⟩ [(p, u)]) ∧ ∀ base : Heap, K.In base → base.Ns mainGlobals mg → BaseOk mg base → FnOk P w K mg base (L2.CX P w) k fa fd [p] (spTrue K) := by
  obtain ⟨f, fd, G, m, _, hb⟩ := G
  rw [hm] at m
  cases m
  have imp : ∀ vs H Q E, spTrue K vs H Q E → cSp K mg fn vs H Q E := fun vs H Q E ⟨a, ns, ev, hS, hl, hT, q⟩ => by
    subst ev
    refine ⟨[.val (.lst (ns.map D.int))], strip H, ⟨strip_same H, rfl, fun i s o es ex => ?_, fun i j f g c d a ei ej _ _ => ?_, hT, fun b o h => (strip_some h).2⟩, rfl, ?_⟩
    · cases i with
      | zero =>
        have e1 : Slot.val (.lst (ns.map D.int)) = s := by simpa using es
        have e2 : some (V.ref a) = o := by simpa using ex
        subst e1 e2
        exact ⟨_, rfl, .lst (sqL_strip hS) (reps_ints ns)⟩
      | succ i => simp at es
    · cases i with
      | zero => simp at ei
      | succ i => simp at ei
    · obtain ⟨e, he⟩ := h ns hl
      rw [he]
      intro v F' H' _ _ z
      cases z
      exact q H'
  exact ⟨fd, fun s u => .of_eq (hb [u] rfl), fun base _ _ hB => (G base hB).imp imp⟩
end Y

set_option Elab.async false
set_option linter.all false
set_option maxRecDepth 100000
set_option maxHeartbeats 4000000
namespace Y
open PySem PySem.Spec L2
set_option autoImplicit false
variable [TB]
/-! ### classes by name -/
/-- how a call of the class binds -/
def FormOk (K : PySem.W.Frag) (mg : Mg) (fd : FuncData) (ps : List Str) (n : Nat) (ks : List Str) (gD : List D → List D → List D) : Prop := ∃ gu gV, KBn K fd ps (n + 1) ks gu gV ∧
  ∀ (F : Hp) (v : V) (vs zs : List V) (ds dk : List D), Reps K mg F vs ds → Reps K mg F zs dk → ds.length = n → dk.length = ks.length → ∃ ws, gV (v :: vs) zs = v :: ws ∧ Reps K mg F ws (gD ds dk)
def MakeOk (P : Program) (w : World) (K : PySem.W.Frag) (mg : Mg) (c : Str) (k : Nat) (ps : List Str) (fn : Fn) (n : Nat) (ks : List Str) (gD : List D → List D → List D) : Prop :=
  ∃ C f fd, mg c = some (.ref C) ∧ Mk K C f ∧ (∀ base, BaseOk mg base → FnOk P w K mg base (L2.CX P w) k f fd ps (cSp K mg fn)) ∧ FormOk K mg fd ps n ks gD
section
variable {P : Program} {w : World} {K : PySem.W.Frag} {mg : Mg} {base : Heap}
theorem fn_denI {x qual : Str} {st : Stmt} {f : Addr} {fd : FuncData} {N ps : List Str} {k np n : Nat} {body : M Flo} {dvs : List V} {kws : List (Str × V)} (Fu : FunD K x qual (defArgs st) (defBody st) (defScope st) dvs kws f fd) (S : FnScope N ps (defScope st)) (hnp : ps.length = np) (hn : N.length = n) (hle : np ≤ n)
    (hb : ∀ (cdv : Value), fd.code = cdv → ∀ (A : Around) (outer : List Env) (s : Shared) (H : Hp) (E : XK), Room k (A.deeper (PyProof.Rows.envOfC qual (defScope st) s.heap.objs.size f cdv)) →
      Takes (cxOf (L2.CX P w) P w K mg base N qual (defScope st) f cdv A outer s H E) (fun c d _ H => E c d H) →
      PassesOwn (model P w) (A.deeper (PyProof.Rows.envOfC qual (defScope st) s.heap.objs.size f cdv)) (cxOf (L2.CX P w) P w K mg base N qual (defScope st) f cdv A outer s H E).env (cxOf (L2.CX P w) P w K mg base N qual (defScope st) f cdv A outer s H E).xe →
      DSs (cxOf (L2.CX P w) P w K mg base N qual (defScope st) f cdv A outer s H E) (fun c d _ H => E c d H) (defBody st) body) :
    FnOk P w K mg base (L2.CX P w) (k + 1) f fd ps (cSp K mg (fnD np n body)) := by
  obtain ⟨oc, od, dV, kV, doc, pm, an, cdv, ct, osl, rfl, lk, hcd, _, _⟩ := Fu.ex
  refine fn_of lk hcd S (fun vs H Q E h => ?_) (fun A outer s H vs Q E hr h => ?_)
  · obtain ⟨args, F, R, ha, h⟩ := h
    unfold fnD at h
    split at h
    · rename_i hl
      have := R.len
      rw [List.length_map] at this
      rw [hnp]; omega
    · exact h.elim
  · exact ⟨_, hb cdv rfl A outer s H E hr (takes_of rfl rfl rfl rfl) (passes_of rfl), entry_ok hn hle h⟩
end
section
variable {X : Cx} {W : WX} {a : Expr} {es : List Expr} {as ks : M (List RV)} {fn : Fn} {pos p : Pos} {k nn : Nat} {ps nms : List Str} {c : Str} {kws : List Keyword} {gD : List D → List D → List D}
theorem de_makeN (G : MakeOk X.prog X.w X.K X.mg c k ps fn nn nms gD) (hB : BaseOk X.mg X.base) (hr : Room (k + 1) X.A) (tk : Takes X W) (hW : ∀ c d σ σ' H, W c d σ H → W c d σ' H) (hg : Gl X c) (ha : DA X W (a :: es) as) (hk : DK X W kws ks)
    (hall : (backToKw pos (keywordEach kws X.env)).all (·.1.isSome) = true := by rfl) (hks : (backToKw pos (keywordEach kws X.env)).filterMap (·.1) = nms := by rfl) (hdb : (c == ("__debug__" : Str)) = false := by decide)
    (he : starEach (a :: es) X.env = (false, eval a X.env) :: starEach es X.env := by rfl) (hpl : ((backTo pos (starEach (a :: es) X.env)).any (·.1) || (backToKw pos (keywordEach kws X.env)).any (·.1.isNone)) = false := by rfl) :
    DE X W (.Call (.Name c p) (a :: es) kws pos) (eMake fn c nn nms.length gD as ks) := by
  obtain ⟨C, f, fd, m, M, G, gu, gV, kb, hgD⟩ := G
  exact de_make M (G X.base hB) hr (fun h => passes_call tk h) hW hg m kb ha hk hgD hall hks hdb he hpl
end
end Y

set_option Elab.async false
set_option linter.all false
set_option maxRecDepth 100000
set_option maxHeartbeats 4000000
namespace Y
open PySem PySem.Spec L2
set_option autoImplicit false
variable [TB]
section
variable {K : PySem.W.Frag} {h : Heap} {mg : Mg}
theorem cls_mk {c : Str} {C : Addr} (X : K.In h) (G : h.Ns mainGlobals mg) (a : PySem.W.nsIn K mainGlobals c = some (some (.ref C))) (p1 : PySem.W.plainGet K C Str.empty = true) (p2 : PySem.W.hasDictIn K C = true) (p3 : PySem.W.plainOver K C = true) (p4 : PySem.W.findIn K (.ref C) "__setattr__" = some (some (.builtin "object.__setattr__")))
    (ha : PySem.W.findIn K (.ref C) "__class__" = some (some (.builtin "object.__class__"))) (hn : PySem.W.specialIn K (.builtin "object.__class__") "__get__" = some (some (.builtin "getset_descriptor.__get__"))) (htk : PySem.W.takesIn K (.builtin "object.__class__") = some true)
    (hm : PySem.W.mroIn K C (.type "object") = some true) (ic : PySem.W.isClsIn K C = true) (ty : PySem.W.typeIn K (.ref C) = some (.type "type")) (k0 : PySem.W.subIn K (.type "NoneType") (.ref C) = some false) (k1 : PySem.W.subIn K (.type "bool") (.ref C) = some false) (k2 : PySem.W.subIn K (.type "int") (.ref C) = some false)
    (k3 : PySem.W.subIn K (.type "str") (.ref C) = some false) (k4 : PySem.W.subIn K (.type "list") (.ref C) = some false) (k5 : PySem.W.subIn K (.type "tuple") (.ref C) = some false) : ClsF K mg c C := by
  have kit : ∀ {t : String} {b : Bool}, PySem.W.subIn K (.type t) (.ref C) = some b → PySem.W.kitOne K (.type t) (.ref C) = some b := fun {t b} hs => by
    unfold PySem.W.kitOne PySem.W.kitCls
    rw [if_neg (by simp)]
    dsimp only
    rw [if_pos]
    · exact hs
    · rw [Bool.and_eq_true]
      exact ⟨ic, by rw [ty]; simp⟩
  exact ⟨PySem.W.mg_of X G a, ⟨p1, p2, p3, p4⟩, ha, hn, htk, hm, if_pos (by simp), kit k0, kit k1, kit k2, kit k3, kit k4, kit k5⟩
theorem const_mk {x : Str} {n : Int} {u : Value} (X : K.In h) (G : h.Ns mainGlobals mg) (a : PySem.W.nsIn K mainGlobals x = some (some u)) (r : RelV (.int n) u) : ∃ t, mg x = some (.int n t) := by
  obtain ⟨t, e⟩ := r
  exact ⟨t, by rw [PySem.W.mg_of X G a, e]⟩
/-- an __init__ with keyword-only parameters that have defaults -/
theorem init_mk {qual : Str} {st : Stmt} {f D : Addr} {oc dc pm cd ct : Value} {od an : Option Addr} {sl : Array (Option Value)} {kws : List (Str × V)}
    (l : K.lookup f = some ⟨oc, od, .func (PySem.W.fnOf "__init__" qual (defArgs st) (defBody st) (defScope st) .none (.ref D) dc pm an cd ct), sl⟩) (c : PySem.W.codeIn K cd qual = true) (k : PySem.W.keepIn K (.ref f) = true)
    (hk : ∀ q ∈ kws, ∃ u, PySem.W.nsIn K D q.1 = some (some u) ∧ RelV q.2 u) : FunD K "__init__" qual (defArgs st) (defBody st) (defScope st) [] kws f (PySem.W.fnOf "__init__" qual (defArgs st) (defBody st) (defScope st) .none (.ref D) dc pm an cd ct) :=
  ⟨⟨oc, od, .none, .ref D, dc, pm, an, cd, ct, sl, rfl, l, c, .inl ⟨rfl, rfl⟩, .inr ⟨D, rfl, hk⟩⟩, k⟩
end
end Y

set_option Elab.async false
set_option linter.all false
set_option maxRecDepth 100000
set_option maxHeartbeats 4000000
namespace Y
open PySem PySem.Spec L2
set_option autoImplicit false
variable [TB]
def tTupL (n : Nat) (t : List D → M Unit) : D → M Unit
  | .lst ds => fun e => if ds.length = n then t ds e else .bad
  | _ => M.bad
/-- what repr tells of a bool -/
def repS (b : Bool) : Str := if b then "True" else "False"
def repK : D → M RV
  | .bl b => fun e => .ok (.val (.str (repS b))) e
  | _ => M.bad
section
variable {X : Cx} {W : WX} {a : Expr} {es : List Expr} {f : M RV} {ts : List D → M Unit} {us : List Nat} {pos : Pos}
theorem dg_unl {k n : Nat} (hc : X.calm = true) (h : DGs X es us ts) (hn : (assignEach es X.env).length = n := by rfl) (hst : (assignEach es X.env).findIdx? (·.1) = none := by rfl) : DG X (.Tuple es k pos) us (tTupL n ts) := pgW (pg_unl hc h hn hst) fun v σ H Q ⟨e, F, d, R, q, h⟩ => by
  unfold tTupL at h
  split at h
  · rename_i ds
    split at h
    · rename_i hl
      cases q with
      | lst q r => exact ⟨_, _, rfl, R.sub.seq q, by rw [r.length]; exact hl, e, F, ds, R, r, h⟩
    · exact h.elim
  · exact h.elim
theorem call_reprB : CallR X (.builtin "repr") (fun xs H Q => ∃ b, xs = [.bl b] ∧ Q (.str (repS b)) H) := by
  intro pins s σ H xs us Q I r h
  obtain ⟨b, rfl, q⟩ := h
  obtain ⟨u, rfl, t⟩ := vals1 r
  cases t
  exact PySem.P.repr_of_bool ⟨.str _, H, I.tok _, ⟨_, rfl⟩, q⟩
theorem de_repr {p : Pos} (hg : Gl X "repr") (hm : X.mg "repr" = none) (ha : DE X W a f) (he : starEach [a] X.env = (false, eval a X.env) :: starEach [] X.env := by rfl) (hpl : (backTo pos (starEach [] X.env)).any (·.1) = false := by rfl) :
    DE X W (.Call (.Name "repr" p) [a] [] pos) (rd1 f repK) := de_b1 call_reprB (fun F H e σ x d Q R rx h => by
  unfold repK at h
  split at h
  · cases rx
    exact ⟨_, rfl, post_val R h (.str _)⟩
  · exact h.elim) hg hm (by decide +kernel) ha (he := he) (hpl := hpl)
end
end Y

set_option Elab.async false
set_option linter.all false
set_option maxRecDepth 100000
set_option maxHeartbeats 4000000
namespace Y
open PySem PySem.Spec L2
set_option autoImplicit false
variable [TB]
/-! ### reckoning with denotations: what is done next stands under a name, so that simp goes from the left -/
section
variable {α β : Type}
def Res.bnd (r : Res α) (k : α → Sl → Res β) : Res β := match r with
  | .ok a e => k a e
  | .ex x e => .ex x e
  | .bad => .bad
@[simp] theorem bnd_ok (a : α) (e : Sl) (k : α → Sl → Res β) : Res.bnd (.ok a e) k = k a e := id rfl
@[simp] theorem bnd_ex (x : Xn) (e : Sl) (k : α → Sl → Res β) : Res.bnd (.ex x e) k = .ex x e := id rfl
@[simp] theorem bnd_bad (k : α → Sl → Res β) : Res.bnd .bad k = .bad := id rfl
def oB (o : Option α) (k : α → Res β) : Res β := match o with
  | some a => k a
  | none => .bad
@[simp] theorem oB_some (a : α) (k : α → Res β) : oB (some a) k = k a := id rfl
@[simp] theorem oB_none (k : α → Res β) : oB none k = .bad := id rfl
def gB (c : Bool) (r : Res α) : Res α := match c with
  | true => r
  | false => .bad
@[simp] theorem gB_t (r : Res α) : gB true r = r := id rfl
@[simp] theorem gB_f (r : Res α) : gB false r = .bad := id rfl
def ifC (f g : M α) (c : Bool) (e : Sl) : Res α := match c with
  | true => f e
  | false => g e
@[simp] theorem ifC_t (f g : M α) (e : Sl) : ifC f g true e = f e := id rfl
@[simp] theorem ifC_f (f g : M α) (e : Sl) : ifC f g false e = g e := id rfl
theorem gB_if (c : Prop) [Decidable c] (r : Res α) : (if c then r else .bad) = gB (decide c) r := by
  by_cases h : c
  · rw [if_pos h, decide_eq_true h]; rfl
  · rw [if_neg h, decide_eq_false h]; rfl
theorem gB_iff (c : Bool) (r : Res α) : (if c = true then r else .bad) = gB c r := by cases c <;> rfl
@[simp] theorem v_bind (f : M α) (k : α → M β) (e : Sl) : M.bind f k e = (f e).bnd k := id rfl
@[simp] theorem v_ret (a : α) (e : Sl) : M.ret a e = .ok a e := id rfl
@[simp] theorem v_bad (e : Sl) : (M.bad : M α) e = .bad := id rfl
end
@[simp] theorem v_rval (e : Sl) (d : D) : rdat e (.val d) = some d := id rfl
@[simp] theorem v_rown (e : Sl) (c : Cont) : rdat e (.own c) = some c.dat := id rfl
@[simp] theorem v_rpk (e : Sl) (i : Nat) : rdat e (.pk i) = sdat e[i]? := id rfl
@[simp] theorem v_sval (d : D) : sdat (some (.val d)) = some d := id rfl
@[simp] theorem v_sown (f : Bool) (c : Cont) : sdat (some (.own f c)) = some c.dat := id rfl
@[simp] theorem v_clst (xs : List D) : (Cont.lst xs).dat = .lst xs := id rfl
@[simp] theorem v_cins (c : Str) (fs : List (Str × D)) : (Cont.ins c fs).dat = .ins c fs := id rfl
def ap (k : D → M RV) (e : Sl) (d : D) : Res RV := k d e
@[simp] theorem v_ap (k : D → M RV) (e : Sl) (d : D) : ap k e d = k d e := id rfl
def rd1c (k : D → M RV) (r : RV) (e : Sl) : Res RV := oB (rdat e r) (ap k e)
@[simp] theorem v_rd1c (k : D → M RV) (r : RV) (e : Sl) : rd1c k r e = oB (rdat e r) (ap k e) := id rfl
@[simp] theorem v_rd1 (f : M RV) (k : D → M RV) (e : Sl) : rd1 f k e = (f e).bnd (rd1c k) := by kernel_rfl
def rd2e (k : D → D → M RV) (r' : RV) (e : Sl) (d : D) : Res RV := oB (rdat e r') (ap (k d) e)
@[simp] theorem v_rd2e (k : D → D → M RV) (r' : RV) (e : Sl) (d : D) : rd2e k r' e d = oB (rdat e r') (ap (k d) e) := id rfl
def rd2d (k : D → D → M RV) (r r' : RV) (e : Sl) : Res RV := oB (rdat e r) (rd2e k r' e)
@[simp] theorem v_rd2d (k : D → D → M RV) (r r' : RV) (e : Sl) : rd2d k r r' e = oB (rdat e r) (rd2e k r' e) := id rfl
def rd2c (g : M RV) (k : D → D → M RV) (r : RV) (e : Sl) : Res RV := (g e).bnd (rd2d k r)
@[simp] theorem v_rd2c (g : M RV) (k : D → D → M RV) (r : RV) (e : Sl) : rd2c g k r e = (g e).bnd (rd2d k r) := id rfl
@[simp] theorem v_rd2 (f g : M RV) (k : D → D → M RV) (e : Sl) : rd2 f g k e = (f e).bnd (rd2c g k) := by
  unfold rd2 M.bind
  cases f e with
  | bad => rfl
  | ex x e' => rfl
  | ok r e' =>
    show _ = (g e').bnd (rd2d k r)
    dsimp only
    cases g e' with
    | bad => rfl
    | ex x e2 => rfl
    | ok r' e2 =>
      show _ = oB (rdat e2 r) (rd2e k r' e2)
      dsimp only
      cases rdat e2 r with
      | none => rfl
      | some d =>
        show _ = oB (rdat e2 r') (ap (k d) e2)
        cases rdat e2 r' <;> rfl
def varC (i : Nat) (e : Sl) : Slot → Res RV
  | .val d => .ok (.val d) e
  | .own _ _ => .ok (.pk i) e
  | .no => .bad
@[simp] theorem v_varCv (i : Nat) (e : Sl) (d : D) : varC i e (.val d) = .ok (.val d) e := id rfl
@[simp] theorem v_varCo (i : Nat) (e : Sl) (f : Bool) (c : Cont) : varC i e (.own f c) = .ok (.pk i) e := id rfl
@[simp] theorem v_varCn (i : Nat) (e : Sl) : varC i e .no = .bad := id rfl
@[simp] theorem v_var (i : Nat) (e : Sl) : eVar i e = oB e[i]? (varC i e) := by
  unfold eVar
  cases e[i]? with
  | none => rfl
  | some s => cases s <;> rfl
@[simp] theorem v_eC (d : D) (e : Sl) : eC d e = .ok (.val d) e := id rfl
def asBd (e : Sl) : D → Res Bool
  | .bl b => .ok b e
  | _ => .bad
@[simp] theorem v_asBd (e : Sl) (b : Bool) : asBd e (.bl b) = .ok b e := id rfl
def asBc (r : RV) (e : Sl) : Res Bool := oB (rdat e r) (asBd e)
@[simp] theorem v_asBc (r : RV) (e : Sl) : asBc r e = oB (rdat e r) (asBd e) := id rfl
@[simp] theorem v_asB (f : M RV) (e : Sl) : asB f e = (f e).bnd asBc := by
  unfold asB M.bind
  cases f e with
  | bad => rfl
  | ex x e' => rfl
  | ok r e' =>
    show _ = oB (rdat e' r) (asBd e')
    dsimp only
    cases rdat e' r with
    | none => rfl
    | some d => cases d <;> rfl
def notC (c : Bool) (e : Sl) : Res Bool := .ok (!c) e
@[simp] theorem v_notC (c : Bool) (e : Sl) : notC c e = .ok (!c) e := id rfl
@[simp] theorem v_not (f : M Bool) (e : Sl) : mNot f e = (f e).bnd notC := by kernel_rfl
theorem ifC_eq {α : Type} (p : M Bool) (f g : M α) (e : Sl) : M.bind p (fun c => if c then f else g) e = (p e).bnd (ifC f g) := by
  unfold M.bind
  cases p e with
  | bad => rfl
  | ex x e' => rfl
  | ok c e' => cases c <;> rfl
@[simp] theorem v_and (f g : M Bool) (e : Sl) : mAnd f g e = (f e).bnd (ifC g (M.ret false)) := ifC_eq f g _ e
@[simp] theorem v_or (f g : M Bool) (e : Sl) : mOr f g e = (f e).bnd (ifC (M.ret true) g) := ifC_eq f _ g e
@[simp] theorem v_eIf (p : M Bool) (f g : M RV) (e : Sl) : eIf p f g e = (p e).bnd (ifC f g) := ifC_eq p f g e
@[simp] theorem v_sIf (p : M Bool) (f g : M Flo) (e : Sl) : sIf p f g e = (p e).bnd (ifC f g) := ifC_eq p f g e
def eAndD (g : M RV) (e : Sl) : D → Res RV
  | .bl true => g e
  | .bl false => .ok (.val (.bl false)) e
  | _ => .bad
@[simp] theorem v_eAndDt (g : M RV) (e : Sl) : eAndD g e (.bl true) = g e := id rfl
@[simp] theorem v_eAndDf (g : M RV) (e : Sl) : eAndD g e (.bl false) = .ok (.val (.bl false)) e := id rfl
def eAndC (g : M RV) (r : RV) (e : Sl) : Res RV := oB (rdat e r) (eAndD g e)
@[simp] theorem v_eAndC (g : M RV) (r : RV) (e : Sl) : eAndC g r e = oB (rdat e r) (eAndD g e) := id rfl
@[simp] theorem v_eAnd (f g : M RV) (e : Sl) : eAnd f g e = (f e).bnd (eAndC g) := by
  unfold eAnd M.bind
  cases f e with
  | bad => rfl
  | ex x e' => rfl
  | ok r e' =>
    show _ = oB (rdat e' r) (eAndD g e')
    dsimp only
    cases rdat e' r with
    | none => rfl
    | some d => cases d with
      | bl b => cases b <;> rfl
      | _ => rfl
def eOrD (g : M RV) (e : Sl) : D → Res RV
  | .bl false => g e
  | .bl true => .ok (.val (.bl true)) e
  | _ => .bad
@[simp] theorem v_eOrDf (g : M RV) (e : Sl) : eOrD g e (.bl false) = g e := id rfl
@[simp] theorem v_eOrDt (g : M RV) (e : Sl) : eOrD g e (.bl true) = .ok (.val (.bl true)) e := id rfl
def eOrC (g : M RV) (r : RV) (e : Sl) : Res RV := oB (rdat e r) (eOrD g e)
@[simp] theorem v_eOrC (g : M RV) (r : RV) (e : Sl) : eOrC g r e = oB (rdat e r) (eOrD g e) := id rfl
@[simp] theorem v_eOr (f g : M RV) (e : Sl) : eOr f g e = (f e).bnd (eOrC g) := by
  unfold eOr M.bind
  cases f e with
  | bad => rfl
  | ex x e' => rfl
  | ok r e' =>
    show _ = oB (rdat e' r) (eOrD g e')
    dsimp only
    cases rdat e' r with
    | none => rfl
    | some d => cases d with
      | bl b => cases b <;> rfl
      | _ => rfl
def eNotD (e : Sl) : D → Res RV
  | .bl b => .ok (.val (.bl (!b))) e
  | _ => .bad
@[simp] theorem v_eNotD (e : Sl) (b : Bool) : eNotD e (.bl b) = .ok (.val (.bl (!b))) e := id rfl
def eNotC (r : RV) (e : Sl) : Res RV := oB (rdat e r) (eNotD e)
@[simp] theorem v_eNotC (r : RV) (e : Sl) : eNotC r e = oB (rdat e r) (eNotD e) := id rfl
@[simp] theorem v_eNot (f : M RV) (e : Sl) : eNot f e = (f e).bnd eNotC := by
  unfold eNot M.bind
  cases f e with
  | bad => rfl
  | ex x e' => rfl
  | ok r e' =>
    show _ = oB (rdat e' r) (eNotD e')
    dsimp only
    cases rdat e' r with
    | none => rfl
    | some d => cases d <;> rfl
@[simp] theorem v_sub (i j : Int) (e : Sl) : subI (.int i) (.int j) e = .ok (.val (.int (i - j))) e := id rfl
@[simp] theorem v_mul (i j : Int) (e : Sl) : mulI (.int i) (.int j) e = gB (decide ((-(2 ^ 64) < i ∧ i < 2 ^ 64) ∨ (-(2 ^ 64) < j ∧ j < 2 ^ 64))) (.ok (.val (.int (i * j))) e) := by
  rw [← gB_if]
  unfold mulI kI2
  dsimp only
  split <;> rfl
@[simp] theorem v_fdiv (i j : Int) (e : Sl) : fdivI (.int i) (.int j) e = gB (decide (0 < j ∧ j < 1073741824)) (.ok (.val (.int (i / j))) e) := by
  rw [← gB_if]
  unfold fdivI kI2
  dsimp only
  split <;> rfl
@[simp] theorem v_mod (i j : Int) (e : Sl) : modI (.int i) (.int j) e = gB (decide (0 < j)) (.ok (.val (.int (i % j))) e) := by
  rw [← gB_if]
  unfold modI kI2
  dsimp only
  split <;> rfl
@[simp] theorem v_pow (i j : Int) (e : Sl) : powI (.int i) (.int j) e = gB (decide (0 ≤ j ∧ j ≤ 1000000 ∧ i.natAbs < 2 ^ 64)) (.ok (.val (.int (i ^ j.toNat))) e) := by
  rw [← gB_if]
  unfold powI kI2
  dsimp only
  split <;> rfl
@[simp] theorem v_neg (i : Int) (e : Sl) : negI (.int i) e = .ok (.val (.int (-i))) e := id rfl
@[simp] theorem v_lt (i j : Int) (e : Sl) : ltI (.int i) (.int j) e = .ok (.val (.bl (decide (i < j)))) e := id rfl
@[simp] theorem v_le (i j : Int) (e : Sl) : leI (.int i) (.int j) e = .ok (.val (.bl (decide (i ≤ j)))) e := id rfl
@[simp] theorem v_gt (i j : Int) (e : Sl) : gtI (.int i) (.int j) e = .ok (.val (.bl (decide (j < i)))) e := id rfl
@[simp] theorem v_ge (i j : Int) (e : Sl) : geI (.int i) (.int j) e = .ok (.val (.bl (decide (j ≤ i)))) e := id rfl
@[simp] theorem v_addI (i j : Int) (e : Sl) : addK (.int i) (.int j) e = .ok (.val (.int (i + j))) e := id rfl
@[simp] theorem v_addL (i j : List D) (e : Sl) : addK (.lst i) (.lst j) e = gB (decide (i.length + j.length ≤ sizeLine)) (.ok (.own (.lst (i ++ j))) e) := gB_if _ _
@[simp] theorem v_addT (i j : List D) (e : Sl) : addK (.tup i) (.tup j) e = gB (decide (i.length + j.length ≤ sizeLine)) (.ok (.val (.tup (i ++ j))) e) := gB_if _ _
@[simp] theorem v_addS (i j : Str) (e : Sl) : addK (.str i) (.str j) e = gB (decide (i.length + j.length ≤ sizeLine)) (.ok (.val (.str (i ++ j))) e) := gB_if _ _
def okV (e : Sl) (d : D) : Res RV := .ok (.val d) e
@[simp] theorem v_okV (e : Sl) (d : D) : okV e d = .ok (.val d) e := id rfl
@[simp] theorem v_ixL (xs : List D) (i : Int) (e : Sl) : ixK (.lst xs) (.int i) e = oB (atI xs i) (okV e) := by
  unfold ixK
  dsimp only
  cases atI xs i <;> rfl
@[simp] theorem v_ixT (xs : List D) (i : Int) (e : Sl) : ixK (.tup xs) (.int i) e = oB (atI xs i) (okV e) := by
  unfold ixK
  dsimp only
  cases atI xs i <;> rfl
@[simp] theorem v_lenL (xs : List D) (e : Sl) : lenK (.lst xs) e = .ok (.val (.int xs.length)) e := id rfl
@[simp] theorem v_lenT (xs : List D) (e : Sl) : lenK (.tup xs) e = .ok (.val (.int xs.length)) e := id rfl
@[simp] theorem v_intI (i : Int) (e : Sl) : intK (.int i) e = .ok (.val (.int i)) e := id rfl
@[simp] theorem v_intB (b : Bool) (e : Sl) : intK (.bl b) e = .ok (.val (.int (if b then 1 else 0))) e := id rfl
@[simp] theorem v_tupL (xs : List D) (e : Sl) : tupK (.lst xs) e = .ok (.val (.tup xs)) e := id rfl
@[simp] theorem v_tupT (xs : List D) (e : Sl) : tupK (.tup xs) e = .ok (.val (.tup xs)) e := id rfl
@[simp] theorem v_lstL (xs : List D) (e : Sl) : lstK (.lst xs) e = .ok (.own (.lst xs)) e := id rfl
@[simp] theorem v_lstT (xs : List D) (e : Sl) : lstK (.tup xs) e = .ok (.own (.lst xs)) e := id rfl
@[simp] theorem v_max2 (i j : Int) (e : Sl) : max2 (.int i) (.int j) e = .ok (.val (.int (if j > i then j else i))) e := id rfl
@[simp] theorem v_min2 (i j : Int) (e : Sl) : min2 (.int i) (.int j) e = .ok (.val (.int (if j < i then j else i))) e := id rfl
def okI (e : Sl) (ns : List Int) : Res RV := .ok (.val (.int ns.sum)) e
@[simp] theorem v_okI (e : Sl) (ns : List Int) : okI e ns = .ok (.val (.int ns.sum)) e := id rfl
@[simp] theorem v_sum (xs : List D) (e : Sl) : sumK (.lst xs) e = oB (intsOf xs) (okI e) := by
  unfold sumK
  dsimp only
  cases intsOf xs <;> rfl
@[simp] theorem v_dm (i j : Int) (e : Sl) : dmK (.int i) (.int j) e = gB (decide (0 < j ∧ j < 1073741824)) (.ok (.val (.tup [.int (i / j), .int (i % j)])) e) := by
  rw [← gB_if]
  unfold dmK kI2
  dsimp only
  split <;> rfl
@[simp] theorem v_slL (xs : List D) (lo hi : Option Int) (e : Sl) : slK (.lst xs) lo hi e = .ok (.own (.lst (cutD xs lo hi))) e := id rfl
@[simp] theorem v_slT (xs : List D) (lo hi : Option Int) (e : Sl) : slK (.tup xs) lo hi e = .ok (.val (.tup (cutD xs lo hi))) e := id rfl
@[simp] theorem v_oNo (e : Sl) : oNo e = .ok none e := id rfl
def oSomeD (e : Sl) : D → Res (Option Int)
  | .int i => .ok (some i) e
  | _ => .bad
@[simp] theorem v_oSomeD (e : Sl) (i : Int) : oSomeD e (.int i) = .ok (some i) e := id rfl
def oSomeC (r : RV) (e : Sl) : Res (Option Int) := oB (rdat e r) (oSomeD e)
@[simp] theorem v_oSomeC (r : RV) (e : Sl) : oSomeC r e = oB (rdat e r) (oSomeD e) := id rfl
@[simp] theorem v_oSome (f : M RV) (e : Sl) : oSome f e = (f e).bnd oSomeC := by
  unfold oSome M.bind
  cases f e with
  | bad => rfl
  | ex x e' => rfl
  | ok r e' =>
    show _ = oB (rdat e' r) (oSomeD e')
    dsimp only
    cases rdat e' r with
    | none => rfl
    | some d => cases d <;> rfl
def slA (lo hi : Option Int) (e : Sl) (d : D) : Res RV := slK d lo hi e
@[simp] theorem v_slA (lo hi : Option Int) (e : Sl) (d : D) : slA lo hi e d = slK d lo hi e := id rfl
def eSl3 (r : RV) (lo hi : Option Int) (e : Sl) : Res RV := oB (rdat e r) (slA lo hi e)
@[simp] theorem v_eSl3 (r : RV) (lo hi : Option Int) (e : Sl) : eSl3 r lo hi e = oB (rdat e r) (slA lo hi e) := id rfl
def eSl2 (u : M (Option Int)) (r : RV) (lo : Option Int) (e : Sl) : Res RV := (u e).bnd (eSl3 r lo)
@[simp] theorem v_eSl2 (u : M (Option Int)) (r : RV) (lo : Option Int) (e : Sl) : eSl2 u r lo e = (u e).bnd (eSl3 r lo) := id rfl
def eSl1 (l u : M (Option Int)) (r : RV) (e : Sl) : Res RV := (l e).bnd (eSl2 u r)
@[simp] theorem v_eSl1 (l u : M (Option Int)) (r : RV) (e : Sl) : eSl1 l u r e = (l e).bnd (eSl2 u r) := id rfl
@[simp] theorem v_eSl (f : M RV) (l u : M (Option Int)) (e : Sl) : eSl f l u e = (f e).bnd (eSl1 l u) := by
  unfold eSl M.bind
  cases f e with
  | bad => rfl
  | ex x e' => rfl
  | ok r e' =>
    show _ = (l e').bnd (eSl2 u r)
    dsimp only
    cases l e' with
    | bad => rfl
    | ex x e2 => rfl
    | ok lo e2 =>
      show _ = (u e2).bnd (eSl3 r lo)
      dsimp only
      cases u e2 with
      | bad => rfl
      | ex x e3 => rfl
      | ok hi e3 =>
        show _ = oB (rdat e3 r) (slA lo hi e3)
        dsimp only
        cases rdat e3 r <;> rfl
def isiD (ns : List String) (e : Sl) (t : String) : Res RV := .ok (.val (.bl (ns.any (subB t)))) e
@[simp] theorem v_isiD (ns : List String) (e : Sl) (t : String) : isiD ns e t = .ok (.val (.bl (ns.any (subB t)))) e := id rfl
@[simp] theorem v_isiK (ns : List String) (d : D) (e : Sl) : isiK ns d e = oB (tyD d) (isiD ns e) := by
  unfold isiK
  cases tyD d <;> rfl
@[simp] theorem v_tyN : tyD .non = some "NoneType" := id rfl
@[simp] theorem v_tyB (b : Bool) : tyD (.bl b) = some "bool" := id rfl
@[simp] theorem v_tyI (b : Int) : tyD (.int b) = some "int" := id rfl
@[simp] theorem v_tyS (b : Str) : tyD (.str b) = some "str" := id rfl
@[simp] theorem v_tyL (b : List D) : tyD (.lst b) = some "list" := id rfl
@[simp] theorem v_tyT (b : List D) : tyD (.tup b) = some "tuple" := id rfl
@[simp] theorem v_isNi (i : Int) (e : Sl) : isN (.int i) e = .ok (.val (.bl false)) e := id rfl
@[simp] theorem v_isNl (i : List D) (e : Sl) : isN (.lst i) e = .ok (.val (.bl false)) e := id rfl
@[simp] theorem v_isNt (i : List D) (e : Sl) : isN (.tup i) e = .ok (.val (.bl false)) e := id rfl
@[simp] theorem v_isN0 (e : Sl) : isN .non e = .ok (.val (.bl true)) e := id rfl
@[simp] theorem v_notN0 (e : Sl) : notN .non e = .ok (.val (.bl false)) e := id rfl
@[simp] theorem v_notNi (i : Int) (e : Sl) : notN (.int i) e = .ok (.val (.bl true)) e := id rfl
@[simp] theorem v_notNl (i : List D) (e : Sl) : notN (.lst i) e = .ok (.val (.bl true)) e := id rfl
@[simp] theorem v_notNt (i : List D) (e : Sl) : notN (.tup i) e = .ok (.val (.bl true)) e := id rfl
def ch3 (q : Int → Int → Bool) (j : Int) (e : Sl) : D → Res RV
  | .int l => .ok (.val (.bl (q j l))) e
  | _ => .bad
@[simp] theorem v_ch3 (q : Int → Int → Bool) (j : Int) (e : Sl) (l : Int) : ch3 q j e (.int l) = .ok (.val (.bl (q j l))) e := id rfl
def ch2 (q : Int → Int → Bool) (j : Int) (r : RV) (e : Sl) : Res RV := oB (rdat e r) (ch3 q j e)
@[simp] theorem v_ch2 (q : Int → Int → Bool) (j : Int) (r : RV) (e : Sl) : ch2 q j r e = oB (rdat e r) (ch3 q j e) := id rfl
def ch1 (q : Int → Int → Bool) (h : M RV) (j : Int) (c : Bool) (e : Sl) : Res RV := match c with
  | true => (h e).bnd (ch2 q j)
  | false => .ok (.val (.bl false)) e
@[simp] theorem v_ch1t (q : Int → Int → Bool) (h : M RV) (j : Int) (e : Sl) : ch1 q h j true e = (h e).bnd (ch2 q j) := id rfl
@[simp] theorem v_ch1f (q : Int → Int → Bool) (h : M RV) (j : Int) (e : Sl) : ch1 q h j false e = .ok (.val (.bl false)) e := id rfl
def chK (p q : Int → Int → Bool) (h : M RV) : D → D → M RV
  | .int i, .int j => fun e => ch1 q h j (p i j) e
  | _, _ => M.bad
@[simp] theorem v_chK (p q : Int → Int → Bool) (h : M RV) (i j : Int) (e : Sl) : chK p q h (.int i) (.int j) e = ch1 q h j (p i j) e := id rfl
@[simp] theorem v_ch (p q : Int → Int → Bool) (f g h : M RV) (e : Sl) : chI p q f g h e = rd2 f g (chK p q h) e := by
  unfold chI rd2 M.bind
  cases f e with
  | bad => rfl
  | ex x e' => rfl
  | ok r e' =>
    dsimp only
    cases g e' with
    | bad => rfl
    | ex x e2 => rfl
    | ok r' e2 =>
      dsimp only
      cases rdat e2 r with
      | none => cases rdat e2 r' <;> rfl
      | some d =>
        cases rdat e2 r' with
        | none => cases d <;> rfl
        | some d' =>
          cases d with
          | int i =>
            cases d' with
            | int j =>
              show _ = ch1 q h j (p i j) e2
              dsimp only
              cases p i j with
              | false => rfl
              | true =>
                show _ = (h e2).bnd (ch2 q j)
                rw [if_pos rfl]
                cases h e2 with
                | bad => rfl
                | ex x e3 => rfl
                | ok r3 e3 =>
                  show _ = oB (rdat e3 r3) (ch3 q j e3)
                  dsimp only
                  cases rdat e3 r3 with
                  | none => rfl
                  | some d3 => cases d3 <;> rfl
            | _ => rfl
          | _ => cases d' <;> rfl
/-! statements -/
def seqC (g : M Flo) : Flo → Sl → Res Flo
  | .nx, e => g e
  | .bk, e => .ok .bk e
  | .ct, e => .ok .ct e
  | .rt r, e => .ok (.rt r) e
@[simp] theorem v_seqCn (g : M Flo) (e : Sl) : seqC g .nx e = g e := id rfl
@[simp] theorem v_seqCb (g : M Flo) (e : Sl) : seqC g .bk e = .ok .bk e := id rfl
@[simp] theorem v_seqCc (g : M Flo) (e : Sl) : seqC g .ct e = .ok .ct e := id rfl
@[simp] theorem v_seqCr (g : M Flo) (r : RV) (e : Sl) : seqC g (.rt r) e = .ok (.rt r) e := id rfl
@[simp] theorem v_seq (f g : M Flo) (e : Sl) : sSeq f g e = (f e).bnd (seqC g) := by
  unfold sSeq
  cases f e with
  | bad => rfl
  | ex x e' => rfl
  | ok fl e' => cases fl <;> rfl
@[simp] theorem v_nil (e : Sl) : sNil e = .ok .nx e := id rfl
@[simp] theorem v_sbad (e : Sl) : sBad e = .bad := id rfl
def nxC (_r : RV) (e : Sl) : Res Flo := .ok .nx e
@[simp] theorem v_nxC (r : RV) (e : Sl) : nxC r e = .ok .nx e := id rfl
@[simp] theorem v_expr (f : M RV) (e : Sl) : sExpr f e = (f e).bnd nxC := by kernel_rfl
@[simp] theorem v_retN (e : Sl) : sRetN e = .ok (.rt (.val .non)) e := id rfl
def retP (i : Nat) (e : Sl) : Slot → Res Flo
  | .val d => .ok (.rt (.val d)) e
  | .own false c => .ok (.rt (.own c)) (e.set i .no)
  | _ => .bad
@[simp] theorem v_retPv (i : Nat) (e : Sl) (d : D) : retP i e (.val d) = .ok (.rt (.val d)) e := id rfl
@[simp] theorem v_retPo (i : Nat) (e : Sl) (c : Cont) : retP i e (.own false c) = .ok (.rt (.own c)) (e.set i .no) := id rfl
@[simp] theorem v_retV (d : D) (e : Sl) : retR (.val d) e = .ok (.rt (.val d)) e := id rfl
@[simp] theorem v_retO (c : Cont) (e : Sl) : retR (.own c) e = .ok (.rt (.own c)) e := id rfl
@[simp] theorem v_retR (i : Nat) (e : Sl) : retR (.pk i) e = oB e[i]? (retP i e) := by
  unfold retR
  dsimp only
  cases e[i]? with
  | none => rfl
  | some s => cases s with
    | own f c => cases f <;> rfl
    | _ => rfl
@[simp] theorem v_sRet (f : M RV) (e : Sl) : sRet f e = (f e).bnd retR := id rfl
def stoS : Option Slot → Bool
  | none => false
  | some (.own true _) => false
  | _ => true
@[simp] theorem v_stoSv (d : D) : stoS (some (.val d)) = true := id rfl
@[simp] theorem v_stoSn : stoS (some .no) = true := id rfl
@[simp] theorem v_stoSo (c : Cont) : stoS (some (.own false c)) = true := id rfl
@[simp] theorem v_sto (e : Sl) (i : Nat) : sto e i = stoS e[i]? := by
  unfold sto
  cases e[i]? with
  | none => rfl
  | some s => cases s with
    | own f c => cases f <;> rfl
    | _ => rfl
@[simp] theorem v_stoV (i : Nat) (d : D) (e : Sl) : stoV i d e = gB (sto e i) (.ok .nx (e.set i (.val d))) := gB_iff _ _
@[simp] theorem v_storV (i : Nat) (d : D) (e : Sl) : stor i (.val d) e = gB (sto e i) (.ok .nx (e.set i (.val d))) := gB_iff _ _
@[simp] theorem v_storO (i : Nat) (c : Cont) (e : Sl) : stor i (.own c) e = gB (sto e i) (.ok .nx (e.set i (.own false c))) := gB_iff _ _
@[simp] theorem v_storP (i j : Nat) (e : Sl) : stor i (.pk j) e = (frz (.pk j) e).bnd (stoV i) := id rfl
@[simp] theorem v_frzV (d : D) (e : Sl) : frz (.val d) e = .ok d e := id rfl
@[simp] theorem v_frzO (c : Cont) (e : Sl) : frz (.own c) e = .ok c.dat e := id rfl
def frzS (i : Nat) (e : Sl) : Slot → Res D
  | .val d => .ok d e
  | .own false c => .ok c.dat (e.set i (.val c.dat))
  | _ => .bad
@[simp] theorem v_frzSv (i : Nat) (e : Sl) (d : D) : frzS i e (.val d) = .ok d e := id rfl
@[simp] theorem v_frzSo (i : Nat) (e : Sl) (c : Cont) : frzS i e (.own false c) = .ok c.dat (e.set i (.val c.dat)) := id rfl
@[simp] theorem v_frzP (i : Nat) (e : Sl) : frz (.pk i) e = oB e[i]? (frzS i e) := by
  unfold frz
  dsimp only
  cases e[i]? with
  | none => rfl
  | some s => cases s with
    | own f c => cases f <;> rfl
    | _ => rfl
@[simp] theorem v_sSet (i : Nat) (f : M RV) (e : Sl) : sSet i f e = (f e).bnd (stor i) := id rfl
def valC (d : D) (e : Sl) : Res RV := .ok (.val d) e
@[simp] theorem v_valC (d : D) (e : Sl) : valC d e = .ok (.val d) e := id rfl
def aVc (r : RV) (e : Sl) : Res RV := (frz r e).bnd valC
@[simp] theorem v_aVc (r : RV) (e : Sl) : aVc r e = (frz r e).bnd valC := id rfl
@[simp] theorem v_aV (f : M RV) (e : Sl) : aV f e = (f e).bnd aVc := by kernel_rfl
def aOc : RV → Sl → Res RV
  | .own c, e => .ok (.own c) e
  | .val d, e => .ok (.val d) e
  | .pk i, e => (frz (.pk i) e).bnd valC
@[simp] theorem v_aOo (c : Cont) (e : Sl) : aOc (.own c) e = .ok (.own c) e := id rfl
@[simp] theorem v_aOv (d : D) (e : Sl) : aOc (.val d) e = .ok (.val d) e := id rfl
@[simp] theorem v_aOp (i : Nat) (e : Sl) : aOc (.pk i) e = (frz (.pk i) e).bnd valC := id rfl
@[simp] theorem v_aO (f : M RV) (e : Sl) : aO f e = (f e).bnd aOc := by
  unfold aO M.bind
  cases f e with
  | ok r e' => cases r <;> kernel_rfl
  | ex x e' => rfl
  | bad => rfl
def ioC (i : Nat) (e : Sl) : Slot → Res RV
  | .own _ _ => .ok (.pk i) e
  | _ => .bad
@[simp] theorem v_ioC (i : Nat) (e : Sl) (f : Bool) (c : Cont) : ioC i e (.own f c) = .ok (.pk i) e := id rfl
@[simp] theorem v_aIO (i : Nat) (e : Sl) : aIO i e = oB e[i]? (ioC i e) := by
  unfold aIO
  cases e[i]? with
  | none => rfl
  | some s => cases s <;> rfl
@[simp] theorem v_aNil (e : Sl) : aNil e = .ok [] e := id rfl
def consC (r : RV) (rs : List RV) (e : Sl) : Res (List RV) := .ok (r :: rs) e
@[simp] theorem v_consC (r : RV) (rs : List RV) (e : Sl) : consC r rs e = .ok (r :: rs) e := id rfl
def aConsC (g : M (List RV)) (r : RV) (e : Sl) : Res (List RV) := (g e).bnd (consC r)
@[simp] theorem v_aConsC (g : M (List RV)) (r : RV) (e : Sl) : aConsC g r e = (g e).bnd (consC r) := id rfl
@[simp] theorem v_aCons (f : M RV) (g : M (List RV)) (e : Sl) : aCons f g e = (f e).bnd (aConsC g) := by kernel_rfl
@[simp] theorem v_valsN : valsOf [] = some [] := id rfl
@[simp] theorem v_valsC (d : D) (rs : List RV) : valsOf (.val d :: rs) = (valsOf rs).map (d :: ·) := id rfl
def tupC (e : Sl) (ds : List D) : Res RV := gB (decide (ds.length ≤ sizeLine)) (.ok (.val (.tup ds)) e)
def lstC (e : Sl) (ds : List D) : Res RV := gB (decide (ds.length ≤ sizeLine)) (.ok (.own (.lst ds)) e)
@[simp] theorem v_tupC (e : Sl) (ds : List D) : tupC e ds = gB (decide (ds.length ≤ sizeLine)) (.ok (.val (.tup ds)) e) := id rfl
@[simp] theorem v_lstC (e : Sl) (ds : List D) : lstC e ds = gB (decide (ds.length ≤ sizeLine)) (.ok (.own (.lst ds)) e) := id rfl
def tupB (rs : List RV) (e : Sl) : Res RV := oB (valsOf rs) (tupC e)
def lstB (rs : List RV) (e : Sl) : Res RV := oB (valsOf rs) (lstC e)
@[simp] theorem v_tupB (rs : List RV) (e : Sl) : tupB rs e = oB (valsOf rs) (tupC e) := id rfl
@[simp] theorem v_lstB (rs : List RV) (e : Sl) : lstB rs e = oB (valsOf rs) (lstC e) := id rfl
@[simp] theorem v_eTup (g : M (List RV)) (e : Sl) : eTup g e = (g e).bnd tupB := by
  unfold eTup M.bind
  cases g e with
  | bad => rfl
  | ex x e' => rfl
  | ok rs e' =>
    show _ = oB (valsOf rs) (tupC e')
    dsimp only
    cases valsOf rs with
    | none => rfl
    | some ds => exact gB_if _ _
@[simp] theorem v_eLst (g : M (List RV)) (e : Sl) : eLst g e = (g e).bnd lstB := by
  unfold eLst M.bind
  cases g e with
  | bad => rfl
  | ex x e' => rfl
  | ok rs e' =>
    show _ = oB (valsOf rs) (lstC e')
    dsimp only
    cases valsOf rs with
    | none => rfl
    | some ds => exact gB_if _ _
@[simp] theorem v_sPar (is : List Nat) (fs : M (List RV)) (e : Sl) : sPar is fs e = (fs e).bnd (storAll is) := id rfl
@[simp] theorem v_storN (e : Sl) : storAll [] [] e = .ok .nx e := id rfl
@[simp] theorem v_storC (i : Nat) (is : List Nat) (r : RV) (rs : List RV) (e : Sl) : storAll (i :: is) (r :: rs) e = (stor i r e).bnd (seqC (storAll is rs)) := v_seq _ _ e
def appS (i : Nat) (d : D) (e : Sl) : Slot → Res Flo
  | .own fx (.lst xs) => gB (decide (xs.length < sizeLine)) (.ok .nx (e.set i (.own fx (.lst (xs ++ [d])))))
  | _ => .bad
@[simp] theorem v_appS (i : Nat) (d : D) (e : Sl) (fx : Bool) (xs : List D) : appS i d e (.own fx (.lst xs)) = gB (decide (xs.length < sizeLine)) (.ok .nx (e.set i (.own fx (.lst (xs ++ [d]))))) := id rfl
def app3 (i : Nat) (d : D) (e : Sl) : Res Flo := oB e[i]? (appS i d e)
@[simp] theorem v_app3 (i : Nat) (d : D) (e : Sl) : app3 i d e = oB e[i]? (appS i d e) := id rfl
def app2 (i : Nat) (r : RV) (e : Sl) : Res Flo := (frz r e).bnd (app3 i)
@[simp] theorem v_app2 (i : Nat) (r : RV) (e : Sl) : app2 i r e = (frz r e).bnd (app3 i) := id rfl
def app1 (i : Nat) (f : M RV) (e : Sl) : Slot → Res Flo
  | .own _ (.lst _) => (f e).bnd (app2 i)
  | _ => .bad
@[simp] theorem v_app1 (i : Nat) (f : M RV) (e : Sl) (fx : Bool) (xs : List D) : app1 i f e (.own fx (.lst xs)) = (f e).bnd (app2 i) := id rfl
@[simp] theorem v_sApp (i : Nat) (f : M RV) (e : Sl) : sApp i f e = oB e[i]? (app1 i f e) := by
  unfold sApp
  cases e[i]? with
  | none => rfl
  | some s =>
    cases s with
    | no => rfl
    | val d => rfl
    | own fx c =>
      cases c with
      | ins c fs => rfl
      | dK _ => rfl
      | dT _ => rfl
      | lst xs =>
        show _ = (f e).bnd (app2 i)
        unfold M.bind
        dsimp only
        cases f e with
        | bad => rfl
        | ex x e' => rfl
        | ok r e' =>
          show _ = (frz r e').bnd (app3 i)
          dsimp only
          cases frz r e' with
          | bad => rfl
          | ex x e2 => rfl
          | ok d e2 =>
            show _ = oB e2[i]? (appS i d e2)
            dsimp only
            cases e2[i]? with
            | none => rfl
            | some s => cases s with
              | no => rfl
              | val d => rfl
              | own f2 c2 => cases c2 with
                | ins _ _ => rfl
                | dK _ => rfl
                | dT _ => rfl
                | lst ys => exact gB_if _ _
def sixL (i : Nat) (b : Bool) (xs : List D) (d : D) (e : Sl) (j : Nat) : Res Flo := .ok .nx (e.set i (.own b (.lst (xs.set j d))))
@[simp] theorem v_sixL (i : Nat) (b : Bool) (xs : List D) (d : D) (e : Sl) (j : Nat) : sixL i b xs d e j = .ok .nx (e.set i (.own b (.lst (xs.set j d)))) := id rfl
def sixS (i : Nat) (d : D) (k : Int) (e : Sl) : Slot → Res Flo
  | .own b (.lst xs) => oB (ixN xs.length k) (sixL i b xs d e)
  | _ => .bad
@[simp] theorem v_sixS (i : Nat) (d : D) (k : Int) (e : Sl) (b : Bool) (xs : List D) : sixS i d k e (.own b (.lst xs)) = oB (ixN xs.length k) (sixL i b xs d e) := id rfl
def six5 (i : Nat) (d : D) (e : Sl) : D → Res Flo
  | .int k => oB e[i]? (sixS i d k e)
  | _ => .bad
@[simp] theorem v_six5 (i : Nat) (d : D) (e : Sl) (k : Int) : six5 i d e (.int k) = oB e[i]? (sixS i d k e) := id rfl
def six4 (i : Nat) (d : D) (r : RV) (e : Sl) : Res Flo := oB (rdat e r) (six5 i d e)
@[simp] theorem v_six4 (i : Nat) (d : D) (r : RV) (e : Sl) : six4 i d r e = oB (rdat e r) (six5 i d e) := id rfl
def six3 (i : Nat) (fx : M RV) (d : D) (e : Sl) : Slot → Res Flo
  | .own _ (.lst _) => (fx e).bnd (six4 i d)
  | _ => .bad
@[simp] theorem v_six3 (i : Nat) (fx : M RV) (d : D) (e : Sl) (b : Bool) (xs : List D) : six3 i fx d e (.own b (.lst xs)) = (fx e).bnd (six4 i d) := id rfl
def six2 (i : Nat) (fx : M RV) (d : D) (e : Sl) : Res Flo := oB e[i]? (six3 i fx d e)
@[simp] theorem v_six2 (i : Nat) (fx : M RV) (d : D) (e : Sl) : six2 i fx d e = oB e[i]? (six3 i fx d e) := id rfl
def six1 (i : Nat) (fx : M RV) (r : RV) (e : Sl) : Res Flo := (frz r e).bnd (six2 i fx)
@[simp] theorem v_six1 (i : Nat) (fx : M RV) (r : RV) (e : Sl) : six1 i fx r e = (frz r e).bnd (six2 i fx) := id rfl
@[simp] theorem v_sSetIx (i : Nat) (fv fx : M RV) (e : Sl) : sSetIx i fv fx e = (fv e).bnd (six1 i fx) := by
  unfold sSetIx M.bind
  cases fv e with
  | bad => rfl
  | ex x e' => rfl
  | ok r e' =>
    show _ = (frz r e').bnd (six2 i fx)
    dsimp only
    cases frz r e' with
    | bad => rfl
    | ex x e2 => rfl
    | ok d e2 =>
      show _ = oB e2[i]? (six3 i fx d e2)
      dsimp only
      cases e2[i]? with
      | none => rfl
      | some s => cases s with
        | no => rfl
        | val d => rfl
        | own b c => cases c with
          | ins _ _ => rfl
          | dK _ => rfl
          | dT _ => rfl
          | lst xs =>
            show _ = (fx e2).bnd (six4 i d)
            dsimp only
            cases fx e2 with
            | bad => rfl
            | ex x e3 => rfl
            | ok r3 e3 =>
              show _ = oB (rdat e3 r3) (six5 i d e3)
              dsimp only
              cases rdat e3 r3 with
              | none => cases e3[i]? <;> rfl
              | some d3 =>
                cases d3 with
                | int k =>
                  show _ = oB e3[i]? (sixS i d k e3)
                  cases e3[i]? with
                  | none => rfl
                  | some s => cases s with
                    | no => rfl
                    | val d => rfl
                    | own b c => cases c with
                      | ins _ _ => rfl
                      | dK _ => rfl
                      | dT _ => rfl
                      | lst ys =>
                        show _ = oB (ixN ys.length k) (sixL i b ys d e3)
                        dsimp only
                        cases ixN ys.length k <;> rfl
                | _ => cases e3[i]? <;> rfl
@[simp] theorem v_tName (i : Nat) (d : D) (e : Sl) : tName i d e = gB (sto e i) (.ok () (e.set i (.val d))) := gB_iff _ _
@[simp] theorem v_tTup (n : Nat) (t : List D → M Unit) (ds : List D) (e : Sl) : tTupD n t (.tup ds) e = gB (decide (ds.length = n)) (t ds e) := gB_if _ _
@[simp] theorem v_tsN (e : Sl) : tsNil [] e = .ok () e := id rfl
def tsC (ts : List D → M Unit) (ds : List D) (_u : Unit) (e : Sl) : Res Unit := ts ds e
@[simp] theorem v_tsCc (ts : List D → M Unit) (ds : List D) (u : Unit) (e : Sl) : tsC ts ds u e = ts ds e := id rfl
@[simp] theorem v_tsC (t : D → M Unit) (ts : List D → M Unit) (d : D) (ds : List D) (e : Sl) : tsCons t ts (d :: ds) e = (t d e).bnd (tsC ts ds) := by
  unfold tsCons
  dsimp only
  cases t d e <;> rfl
def nxU (_u : Unit) (e : Sl) : Res Flo := .ok .nx e
@[simp] theorem v_nxU (u : Unit) (e : Sl) : nxU u e = .ok .nx e := id rfl
def noEx {α : Type} (r : Res α) : Res α := match r with
  | .ok a e => .ok a e
  | _ => .bad
@[simp] theorem noEx_ok {α : Type} (a : α) (e : Sl) : noEx (.ok a e) = .ok a e := id rfl
@[simp] theorem noEx_bad {α : Type} : noEx (.bad : Res α) = .bad := id rfl
@[simp] theorem noEx_ex {α : Type} (x : Xn) (e : Sl) : noEx (.ex x e : Res α) = .bad := id rfl
def asg2 (t : D → M Unit) (d : D) (e : Sl) : Res Flo := (noEx (t d e)).bnd nxU
@[simp] theorem v_asg2 (t : D → M Unit) (d : D) (e : Sl) : asg2 t d e = (noEx (t d e)).bnd nxU := id rfl
def asg1 (t : D → M Unit) (r : RV) (e : Sl) : Res Flo := (frz r e).bnd (asg2 t)
@[simp] theorem v_asg1 (t : D → M Unit) (r : RV) (e : Sl) : asg1 t r e = (frz r e).bnd (asg2 t) := id rfl
@[simp] theorem v_sAsg (f : M RV) (t : D → M Unit) (e : Sl) : sAsg f t e = (f e).bnd (asg1 t) := by
  unfold sAsg M.bind
  cases f e with
  | bad => rfl
  | ex x e' => rfl
  | ok r e' =>
    show _ = (frz r e').bnd (asg2 t)
    dsimp only
    cases frz r e' with
    | bad => rfl
    | ex x e2 => rfl
    | ok d e2 =>
      show _ = (noEx (t d e2)).bnd nxU
      dsimp only
      cases t d e2 <;> rfl
def itC : D → Sl → Res (List D)
  | .lst ds, e => .ok ds e
  | .tup ds, e => .ok ds e
  | _, _ => .bad
@[simp] theorem v_itCl (ds : List D) (e : Sl) : itC (.lst ds) e = .ok ds e := id rfl
@[simp] theorem v_itCt (ds : List D) (e : Sl) : itC (.tup ds) e = .ok ds e := id rfl
def itF (r : RV) (e : Sl) : Res (List D) := (frz r e).bnd itC
@[simp] theorem v_itF (r : RV) (e : Sl) : itF r e = (frz r e).bnd itC := id rfl
@[simp] theorem v_itSeq (f : M RV) (e : Sl) : itSeq f e = (f e).bnd itF := by
  unfold itSeq M.bind
  cases f e with
  | bad => rfl
  | ex x e' => rfl
  | ok r e' =>
    show _ = (frz r e').bnd itC
    dsimp only
    cases frz r e' with
    | ok d e1 => cases d <;> rfl
    | ex x e1 => rfl
    | bad => rfl
def itRd (e : Sl) : D → Res (List D)
  | .int j => gB (decide (-(2 ^ 62) ≤ j ∧ j < 2 ^ 62)) (.ok (rangeD 0 j.toNat) e)
  | _ => .bad
theorem p62 : (2 : Int) ^ 62 = 4611686018427387904 := by decide +kernel
@[simp] theorem v_itRd (e : Sl) (j : Int) : itRd e (.int j) = gB (decide (-4611686018427387904 ≤ j ∧ j < 4611686018427387904)) (.ok (rangeD 0 j.toNat) e) := by
  unfold itRd
  dsimp only
  rw [p62]
def itRc (r : RV) (e : Sl) : Res (List D) := oB (rdat e r) (itRd e)
@[simp] theorem v_itRc (r : RV) (e : Sl) : itRc r e = oB (rdat e r) (itRd e) := id rfl
@[simp] theorem v_itR1 (f : M RV) (e : Sl) : itR1 f e = (f e).bnd itRc := by
  unfold itR1 M.bind
  cases f e with
  | bad => rfl
  | ex x e' => rfl
  | ok r e' =>
    show _ = oB (rdat e' r) (itRd e')
    dsimp only
    cases rdat e' r with
    | none => rfl
    | some d => cases d with
      | int j => exact gB_if _ _
      | _ => rfl
def itR4 (e : Sl) (i : Int) : D → Res (List D)
  | .int j => gB (decide (-(2 ^ 62) ≤ i ∧ i < 2 ^ 62 ∧ -(2 ^ 62) ≤ j ∧ j < 2 ^ 62)) (.ok (rangeD i (j - i).toNat) e)
  | _ => .bad
@[simp] theorem v_itR4 (e : Sl) (i j : Int) : itR4 e i (.int j) = gB (decide (-4611686018427387904 ≤ i ∧ i < 4611686018427387904 ∧ -4611686018427387904 ≤ j ∧ j < 4611686018427387904)) (.ok (rangeD i (j - i).toNat) e) := by
  unfold itR4
  dsimp only
  rw [p62]
def itR5 (r' : RV) (e : Sl) : D → Res (List D)
  | .int i => oB (rdat e r') (itR4 e i)
  | _ => .bad
@[simp] theorem v_itR5 (r' : RV) (e : Sl) (i : Int) : itR5 r' e (.int i) = oB (rdat e r') (itR4 e i) := id rfl
def itR6 (r r' : RV) (e : Sl) : Res (List D) := oB (rdat e r) (itR5 r' e)
@[simp] theorem v_itR6 (r r' : RV) (e : Sl) : itR6 r r' e = oB (rdat e r) (itR5 r' e) := id rfl
def itR7 (g : M RV) (r : RV) (e : Sl) : Res (List D) := (g e).bnd (itR6 r)
@[simp] theorem v_itR7 (g : M RV) (r : RV) (e : Sl) : itR7 g r e = (g e).bnd (itR6 r) := id rfl
@[simp] theorem v_itR2 (f g : M RV) (e : Sl) : itR2 f g e = (f e).bnd (itR7 g) := by
  unfold itR2 M.bind
  cases f e with
  | bad => rfl
  | ex x e' => rfl
  | ok r e' =>
    show _ = (g e').bnd (itR6 r)
    dsimp only
    cases g e' with
    | bad => rfl
    | ex x e2 => rfl
    | ok r' e2 =>
      show _ = oB (rdat e2 r) (itR5 r' e2)
      dsimp only
      cases rdat e2 r with
      | none => cases rdat e2 r' <;> rfl
      | some d =>
        cases d with
        | int i =>
          show _ = oB (rdat e2 r') (itR4 e2 i)
          cases rdat e2 r' with
          | none => rfl
          | some d' => cases d' with
            | int j => exact gB_if _ _
            | _ => rfl
        | _ => cases rdat e2 r' <;> rfl
def enC (ds : List D) (e : Sl) : Res (List D) := .ok (enumD 0 ds) e
@[simp] theorem v_enC (ds : List D) (e : Sl) : enC ds e = .ok (enumD 0 ds) e := id rfl
@[simp] theorem v_itEnum (f : M RV) (e : Sl) : itEnum f e = (itSeq f e).bnd enC := id rfl
@[simp] theorem v_sFor (it : M (List D)) (t : D → M Unit) (b : M Flo) (e : Sl) : sFor it t b e = (it e).bnd (forRun t b) := id rfl
def for2 (t : D → M Unit) (b : M Flo) (ds : List D) : Flo → Sl → Res Flo
  | .nx, e => forRun t b ds e
  | .ct, e => forRun t b ds e
  | .bk, e => .ok .nx e
  | .rt v, e => .ok (.rt v) e
@[simp] theorem v_for2n (t : D → M Unit) (b : M Flo) (ds : List D) (e : Sl) : for2 t b ds .nx e = forRun t b ds e := id rfl
@[simp] theorem v_for2c (t : D → M Unit) (b : M Flo) (ds : List D) (e : Sl) : for2 t b ds .ct e = forRun t b ds e := id rfl
@[simp] theorem v_for2b (t : D → M Unit) (b : M Flo) (ds : List D) (e : Sl) : for2 t b ds .bk e = .ok .nx e := id rfl
@[simp] theorem v_for2r (t : D → M Unit) (b : M Flo) (ds : List D) (v : RV) (e : Sl) : for2 t b ds (.rt v) e = .ok (.rt v) e := id rfl
def for1 (t : D → M Unit) (b : M Flo) (ds : List D) (_u : Unit) (e : Sl) : Res Flo := (b e).bnd (for2 t b ds)
@[simp] theorem v_for1 (t : D → M Unit) (b : M Flo) (ds : List D) (u : Unit) (e : Sl) : for1 t b ds u e = (b e).bnd (for2 t b ds) := id rfl
theorem v_forN (t : D → M Unit) (b : M Flo) (e : Sl) : forRun t b [] e = .ok .nx e := id rfl
theorem v_forC (t : D → M Unit) (b : M Flo) (d : D) (ds : List D) (e : Sl) : forRun t b (d :: ds) e = (noEx (t d e)).bnd (for1 t b ds) := by
  show (match t d e with
    | .ok _ e1 => (match b e1 with
      | .ok .nx e2 => forRun t b ds e2
      | .ok .ct e2 => forRun t b ds e2
      | .ok .bk e2 => .ok .nx e2
      | .ok (.rt v) e2 => .ok (.rt v) e2
      | .ex x e2 => .ex x e2
      | .bad => .bad)
    | _ => .bad) = _
  cases t d e with
  | bad => rfl
  | ex x e' => rfl
  | ok u e' =>
    show _ = (b e').bnd (for2 t b ds)
    dsimp only
    cases b e' with
    | bad => rfl
    | ex x e2 => rfl
    | ok fl e2 => cases fl <;> rfl
def lcC (e0 : Sl) (vs : List Nat) (acc : List D) (e : Sl) : Res RV := .ok (.own (.lst acc)) (unw e0 e vs)
@[simp] theorem v_lcC0 (e0 : Sl) (vs : List Nat) (acc : List D) (e : Sl) : lcC e0 vs acc e = .ok (.own (.lst acc)) (unw e0 e vs) := id rfl
def lcB (t : D → M Unit) (p : M Bool) (f : M RV) (vs : List Nat) (ds : List D) (e : Sl) : Res RV := gB (noOwn e vs) ((noEx (lcRun t p f vs ds [] (wip e vs))).bnd (lcC e vs))
@[simp] theorem v_lcB (t : D → M Unit) (p : M Bool) (f : M RV) (vs : List Nat) (ds : List D) (e : Sl) : lcB t p f vs ds e = gB (noOwn e vs) ((noEx (lcRun t p f vs ds [] (wip e vs))).bnd (lcC e vs)) := id rfl
@[simp] theorem v_eLc (it : M (List D)) (t : D → M Unit) (p : M Bool) (f : M RV) (vs : List Nat) (e : Sl) : eLc it t p f vs e = (it e).bnd (lcB t p f vs) := by
  unfold eLc M.bind
  cases it e with
  | bad => rfl
  | ex x e' => rfl
  | ok ds e' =>
    show _ = gB (noOwn e' vs) ((noEx (lcRun t p f vs ds [] (wip e' vs))).bnd (lcC e' vs))
    dsimp only
    rw [← gB_iff]
    cases noOwn e' vs with
    | false => rfl
    | true =>
      cases lcRun t p f vs ds [] (wip e' vs) <;> rfl
@[simp] theorem v_wipN (e : Sl) : wip e [] = e := id rfl
@[simp] theorem v_wipC (e : Sl) (v : Nat) (vs : List Nat) : wip e (v :: vs) = (wip e vs).set v .no := id rfl
@[simp] theorem v_unwN (e0 e : Sl) : unw e0 e [] = e := id rfl
def unwS (l : Sl) (v : Nat) : Option Slot → Sl
  | some s => l.set v s
  | none => l
@[simp] theorem v_unwS (l : Sl) (v : Nat) (s : Slot) : unwS l v (some s) = l.set v s := id rfl
@[simp] theorem v_unwC (e0 e : Sl) (v : Nat) (vs : List Nat) : unw e0 e (v :: vs) = unwS (unw e0 e vs) v e0[v]? := by
  show (match e0[v]? with
    | some s => (unw e0 e vs).set v s
    | none => unw e0 e vs) = _
  cases e0[v]? <;> rfl
@[simp] theorem v_noOwnN (e : Sl) : noOwn e [] = true := id rfl
def noOS : Option Slot → Bool
  | some (.own _ _) => false
  | _ => true
@[simp] theorem v_noOSv (d : D) : noOS (some (.val d)) = true := id rfl
@[simp] theorem v_noOSn : noOS (some .no) = true := id rfl
@[simp] theorem v_noOSo (f : Bool) (c : Cont) : noOS (some (.own f c)) = false := id rfl
@[simp] theorem v_noOwnC (e : Sl) (v : Nat) (vs : List Nat) : noOwn e (v :: vs) = (noOS e[v]? && noOwn e vs) := by
  show ((match e[v]? with
    | some (.own _ _) => false
    | _ => true) && noOwn e vs) = _
  cases e[v]? with
  | none => rfl
  | some s => cases s <;> rfl
@[simp] theorem v_tYes (e : Sl) : tYesD e = .ok true e := id rfl
theorem v_lcN (t : D → M Unit) (p : M Bool) (f : M RV) (vs : List Nat) (acc : List D) (e : Sl) : lcRun t p f vs [] acc e = .ok acc e := id rfl
/-- one turn of a comprehension whose parts come out -/
theorem lc_keep {t : D → M Unit} {p : M Bool} {f : M RV} {vs : List Nat} {d y : D} {r acc : List D} {e e1 e2 e3 : Sl} {u : Unit} (h1 : t d e = .ok u e1) (h2 : p e1 = .ok true e2) (h3 : M.bind f frz e2 = .ok y e3) (h4 : acc.length < sizeLine) :
    lcRun t p f vs (d :: r) acc e = lcRun t p f vs r (acc ++ [y]) (wip e3 vs) := by
  conv => lhs; unfold lcRun
  rw [h1]
  dsimp only
  rw [h2]
  dsimp only
  rw [h3]
  dsimp only
  rw [if_pos h4]
theorem lc_skip {t : D → M Unit} {p : M Bool} {f : M RV} {vs : List Nat} {d : D} {r acc : List D} {e e1 e2 : Sl} {u : Unit} (h1 : t d e = .ok u e1) (h2 : p e1 = .ok false e2) :
    lcRun t p f vs (d :: r) acc e = lcRun t p f vs r acc (wip e2 vs) := by
  conv => lhs; unfold lcRun
  rw [h1]
  dsimp only
  rw [h2]
/-- a comprehension that leaves the slots as they are -/
theorem lc_pure {t : D → M Unit} {p : M Bool} {f : M RV} {vs : List Nat} {e : Sl} (q : D → Bool) (g : D → D) : ∀ (ds acc : List D), acc.length + ds.length ≤ sizeLine →
    (∀ d ∈ ds, ∃ u e1 e2, t d e = .ok u e1 ∧ p e1 = .ok (q d) e2 ∧ (q d = false → wip e2 vs = e) ∧ (q d = true → ∃ e3, M.bind f frz e2 = .ok (g d) e3 ∧ wip e3 vs = e)) →
    lcRun t p f vs ds acc e = .ok (acc ++ (ds.filter q).map g) e
  | [], acc, _, _ => by
    rw [v_lcN, List.filter_nil, List.map_nil, List.append_nil]
  | d :: r, acc, hl, h => by
    obtain ⟨u, e1, e2, h1, h2, h3, h4⟩ := h d List.mem_cons_self
    have ih := fun acc hl => lc_pure (t := t) (p := p) (f := f) (vs := vs) (e := e) q g r acc hl fun d hd => h d (List.mem_cons_of_mem _ hd)
    rw [List.length_cons] at hl
    cases hq : q d with
    | false =>
      rw [hq] at h2
      rw [lc_skip h1 h2, h3 hq, ih acc (by omega), List.filter_cons_of_neg (by rw [hq]; exact Bool.false_ne_true)]
    | true =>
      rw [hq] at h2
      obtain ⟨e3, h5, h6⟩ := h4 hq
      rw [lc_keep h1 h2 h5 (by omega), h6, ih _ (by rw [List.length_append]; simp only [List.length_cons, List.length_nil]; omega), List.filter_cons_of_pos hq, List.map_cons, List.append_assoc]
      rfl
/-! calls -/
def fnX (args : Sl) : Res Flo → Res RV
  | .ok (.rt (.val d)) e => .ok (.val d) (outs args e)
  | .ok (.rt (.own c)) e => .ok (.own c) (outs args e)
  | .ok .nx e => .ok (.val .non) (outs args e)
  | .ex x e => .ex x (outs args e)
  | _ => .bad
@[simp] theorem v_fnXv (args : Sl) (d : D) (e : Sl) : fnX args (.ok (.rt (.val d)) e) = .ok (.val d) (outs args e) := id rfl
@[simp] theorem v_fnXo (args : Sl) (c : Cont) (e : Sl) : fnX args (.ok (.rt (.own c)) e) = .ok (.own c) (outs args e) := id rfl
@[simp] theorem v_fnXn (args : Sl) (e : Sl) : fnX args (.ok .nx e) = .ok (.val .non) (outs args e) := id rfl
@[simp] theorem v_fnXx (args : Sl) (x : Xn) (e : Sl) : fnX args (.ex x e) = .ex x (outs args e) := id rfl
@[simp] theorem v_fnXb (args : Sl) : fnX args .bad = .bad := id rfl
@[simp] theorem v_fnD (np n : Nat) (b : M Flo) (args : Sl) : fnD np n b args = gB (decide (args.length = np)) (fnX args (b (args ++ List.replicate (n - np) .no))) := by
  unfold fnD
  rw [← gB_if]
  split
  · cases b (args ++ List.replicate (n - np) .no) with
    | bad => rfl
    | ex x e => rfl
    | ok fl e => cases fl with
      | rt r => cases r <;> rfl
      | _ => rfl
  · rfl
@[simp] theorem v_outsO (f : Bool) (c : Cont) (r : Sl) (s : Slot) (t : Sl) : outs (.own f c :: r) (s :: t) = s :: outs r t := id rfl
@[simp] theorem v_outsV (d : D) (r : Sl) (s : Slot) (t : Sl) : outs (.val d :: r) (s :: t) = .val d :: outs r t := id rfl
@[simp] theorem v_outsN (t : Sl) : outs [] t = [] := by cases t <;> rfl
def callX (e : Sl) (rs : List RV) : Res RV → Res RV
  | .ok (.val d) sl' => .ok (.val d) (back e rs sl')
  | .ok (.own c) sl' => .ok (.own c) (back e rs sl')
  | .ex x sl' => .ex x (back e rs sl')
  | _ => .bad
@[simp] theorem v_callXv (e : Sl) (rs : List RV) (d : D) (sl : Sl) : callX e rs (.ok (.val d) sl) = .ok (.val d) (back e rs sl) := id rfl
@[simp] theorem v_callXo (e : Sl) (rs : List RV) (c : Cont) (sl : Sl) : callX e rs (.ok (.own c) sl) = .ok (.own c) (back e rs sl) := id rfl
@[simp] theorem v_callXx (e : Sl) (rs : List RV) (x : Xn) (sl : Sl) : callX e rs (.ex x sl) = .ex x (back e rs sl) := id rfl
def callS (fn : Fn) (rs : List RV) (e sl : Sl) : Res RV := callX e rs (fn sl)
@[simp] theorem v_callS (fn : Fn) (rs : List RV) (e sl : Sl) : callS fn rs e sl = callX e rs (fn sl) := id rfl
@[simp] theorem v_eCall (fn : Fn) (as : M (List RV)) (e : Sl) : eCall fn as e = (as e).bnd (callK fn) := id rfl
@[simp] theorem v_callK (fn : Fn) (rs : List RV) (e : Sl) : callK fn rs e = gB (pkOk rs) (oB (argSl e rs) (callS fn rs e)) := by
  unfold callK
  rw [← gB_iff]
  split
  · cases argSl e rs with
    | none => rfl
    | some sl =>
      show _ = callX e rs (fn sl)
      dsimp only
      cases fn sl with
      | bad => rfl
      | ex x s => rfl
      | ok r s => cases r <;> rfl
  · rfl
@[simp] theorem v_pkN : pkOk [] = true := id rfl
@[simp] theorem v_pkP (i : Nat) (rs : List RV) : pkOk (.pk i :: rs) = (!(pks rs).contains i && pkOk rs) := id rfl
@[simp] theorem v_pkV (d : D) (rs : List RV) : pkOk (.val d :: rs) = pkOk rs := id rfl
@[simp] theorem v_pksN : pks [] = [] := id rfl
@[simp] theorem v_pksP (i : Nat) (rs : List RV) : pks (.pk i :: rs) = i :: pks rs := id rfl
@[simp] theorem v_pksV (d : D) (rs : List RV) : pks (.val d :: rs) = pks rs := id rfl
@[simp] theorem v_argN (e : Sl) : argSl e [] = some [] := id rfl
@[simp] theorem v_argV (e : Sl) (d : D) (rs : List RV) : argSl e (.val d :: rs) = (argSl e rs).map (.val d :: ·) := id rfl
def argS (t : Option Sl) : Option Slot → Option Sl
  | some (.own _ c) => t.map (.own true c :: ·)
  | _ => none
@[simp] theorem v_argS (t : Option Sl) (f : Bool) (c : Cont) : argS t (some (.own f c)) = t.map (.own true c :: ·) := id rfl
@[simp] theorem v_argP (e : Sl) (i : Nat) (rs : List RV) : argSl e (.pk i :: rs) = argS (argSl e rs) e[i]? := by
  show (match e[i]? with
    | some (Slot.own _ c) => (argSl e rs).map (fun l => Slot.own true c :: l)
    | _ => none) = _
  cases e[i]? with
  | none => rfl
  | some s => cases s <;> rfl
@[simp] theorem v_backN (e sl : Sl) : back e [] sl = e := by unfold back; rfl
@[simp] theorem v_backP (e : Sl) (i : Nat) (rs : List RV) (f : Bool) (c : Cont) (sl : Sl) : back e (.pk i :: rs) (.own f c :: sl) = back (chg e i c) rs sl := id rfl
@[simp] theorem v_backV (e : Sl) (d : D) (rs : List RV) (s : Slot) (sl : Sl) : back e (.val d :: rs) (s :: sl) = back e rs sl := id rfl
def chgS (e : Sl) (i : Nat) (c : Cont) : Option Slot → Sl
  | some (.own f _) => e.set i (.own f c)
  | _ => e
@[simp] theorem v_chgS (e : Sl) (i : Nat) (c : Cont) (f : Bool) (c0 : Cont) : chgS e i c (some (.own f c0)) = e.set i (.own f c) := id rfl
@[simp] theorem v_chg (e : Sl) (i : Nat) (c : Cont) : chg e i c = chgS e i c e[i]? := by
  unfold chg
  cases e[i]? with
  | none => rfl
  | some s => cases s <;> rfl
def augB (k : D → D → M RV) (d : D) (i : Nat) (e : Sl) (d' : D) : Res Flo := (k d d' e).bnd (stor i)
@[simp] theorem v_augB (k : D → D → M RV) (d : D) (i : Nat) (e : Sl) (d' : D) : augB k d i e d' = (k d d' e).bnd (stor i) := id rfl
@[simp] theorem v_augK (k : D → D → M RV) (d : D) (i : Nat) (r : RV) (e : Sl) : augK k d i r e = oB (rdat e r) (augB k d i e) := by
  unfold augK
  cases rdat e r <;> rfl
def augS (f : M RV) (k : D → D → M RV) (i : Nat) (e : Sl) : Slot → Res Flo
  | .val d => (f e).bnd (augK k d i)
  | _ => .bad
@[simp] theorem v_augS (f : M RV) (k : D → D → M RV) (i : Nat) (e : Sl) (d : D) : augS f k i e (.val d) = (f e).bnd (augK k d i) := id rfl
@[simp] theorem v_augI (i : Nat) (f : M RV) (k : D → D → M RV) (e : Sl) : sAugI i f k e = oB e[i]? (augS f k i e) := by
  unfold sAugI
  cases e[i]? with
  | none => rfl
  | some s => cases s <;> rfl
@[simp] theorem v_kI2 (g : Int → Int → Option D) (i j : Int) (e : Sl) : kI2 g (.int i) (.int j) e = oB (g i j) (okV e) := by
  unfold kI2
  dsimp only
  cases g i j <;> rfl
/-! equality -/
theorem eq_int (i j : Int) : eqD (.int i) (.int j) = some (decide (i = j)) := by
  have s : ∀ k : Int, SeqAt.shaped (.int k) = true := fun k => rfl
  show (if SeqAt.shaped (.int i) = true ∧ SeqAt.shaped (.int j) = true then some (PyData.eqv (.int i) (.int j)) else none) = _
  rw [if_pos ⟨s i, s j⟩]
  show some (i == j) = _
  by_cases h : i = j
  · subst h; simp
  · simp [h]
theorem eq_in (i : Int) : eqD (.int i) .non = some false := rfl
theorem eq_ni (i : Int) : eqD .non (.int i) = some false := rfl
theorem eq_nn : eqD .non .non = some true := rfl
theorem eq_bl (i j : Bool) : eqD (.bl i) (.bl j) = some (i == j) := by cases i <;> cases j <;> rfl
def okB (e : Sl) (c : Bool) : Res RV := .ok (.val (.bl c)) e
@[simp] theorem v_okB (e : Sl) (c : Bool) : okB e c = .ok (.val (.bl c)) e := id rfl
@[simp] theorem v_eqK (a b : D) (e : Sl) : eqK a b e = oB (eqD a b) (okB e) := by
  unfold eqK kOB
  cases eqD a b <;> rfl
@[simp] theorem v_neK (a b : D) (e : Sl) : neK a b e = oB ((eqD a b).map not) (okB e) := by
  unfold neK kOB
  dsimp only
  cases eqD a b <;> rfl
@[simp] theorem v_inK (a b : D) (e : Sl) : inK a b e = oB (inL a b) (okB e) := by
  unfold inK kOB
  cases inL a b <;> rfl
@[simp] theorem v_ninK (a b : D) (e : Sl) : ninK a b e = oB ((inL a b).map not) (okB e) := by
  unfold ninK kOB
  dsimp only
  cases inL a b <;> rfl
theorem atI_ofNat {α : Type} (xs : List α) (j : Nat) : atI xs (j : Int) = xs[j]? := by
  cases h : xs[j]? with
  | some v => exact atI_nat h
  | none =>
    have hl := List.getElem?_eq_none_iff.mp h
    unfold atI ixN
    rw [if_pos (by omega), if_neg (by omega)]
    rfl
@[simp] theorem at0 {α : Type} (x : α) (r : List α) : atI (x :: r) 0 = some x := atI_ofNat _ 0
@[simp] theorem at1 {α : Type} (x y : α) (r : List α) : atI (x :: y :: r) 1 = some y := atI_ofNat _ 1
@[simp] theorem at2 {α : Type} (x y z : α) (r : List α) : atI (x :: y :: z :: r) 2 = some z := atI_ofNat _ 2
@[simp] theorem at3 {α : Type} (x y z w : α) (r : List α) : atI (x :: y :: z :: w :: r) 3 = some w := atI_ofNat _ 3
theorem small_line {n : Nat} (h : n ≤ 10000) : n < sizeLine := Nat.lt_of_le_of_lt h (by decide)
/-! new instances -/
def mkS (e : Sl) : Sl → Res RV
  | .own _ (.ins c' fs) :: _ => .ok (.own (.ins c' fs)) e
  | _ => .bad
@[simp] theorem v_mkS (e : Sl) (f : Bool) (c : Str) (fs : List (Str × D)) (r : Sl) : mkS e (.own f (.ins c fs) :: r) = .ok (.own (.ins c fs)) e := id rfl
def mkX (e : Sl) : Res RV → Res RV
  | .ok (.val .non) sl => mkS e sl
  | .ex x _ => .ex x e
  | _ => .bad
@[simp] theorem v_mkXn (e sl : Sl) : mkX e (.ok (.val .non) sl) = mkS e sl := id rfl
@[simp] theorem v_mkXx (e sl : Sl) (x : Xn) : mkX e (.ex x sl) = .ex x e := id rfl
def mk4 (fn : Fn) (c : Str) (nn mm : Nat) (g : List D → List D → List D) (ds : List D) (e : Sl) (dk : List D) : Res RV := gB (decide (ds.length = nn ∧ dk.length = mm)) (mkX e (fn (.own true (.ins c []) :: (g ds dk).map Slot.val)))
@[simp] theorem v_mk4 (fn : Fn) (c : Str) (nn mm : Nat) (g : List D → List D → List D) (ds : List D) (e : Sl) (dk : List D) : mk4 fn c nn mm g ds e dk = gB (decide (ds.length = nn ∧ dk.length = mm)) (mkX e (fn (.own true (.ins c []) :: (g ds dk).map Slot.val))) := id rfl
def mk3 (fn : Fn) (c : Str) (nn mm : Nat) (g : List D → List D → List D) (rk : List RV) (e : Sl) (ds : List D) : Res RV := oB (valsOf rk) (mk4 fn c nn mm g ds e)
@[simp] theorem v_mk3 (fn : Fn) (c : Str) (nn mm : Nat) (g : List D → List D → List D) (rk : List RV) (e : Sl) (ds : List D) : mk3 fn c nn mm g rk e ds = oB (valsOf rk) (mk4 fn c nn mm g ds e) := id rfl
@[simp] theorem v_mkK (fn : Fn) (c : Str) (nn mm : Nat) (g : List D → List D → List D) (rs rk : List RV) (e : Sl) : mkK fn c nn mm g rs rk e = oB (valsOf rs) (mk3 fn c nn mm g rk e) := by
  unfold mkK
  cases valsOf rs with
  | none => cases valsOf rk <;> rfl
  | some ds =>
    rw [oB_some]
    unfold mk3
    cases valsOf rk with
    | none => rfl
    | some dk =>
      rw [oB_some]
      unfold mk4
      rw [← gB_if]
      dsimp only
      congr 1
      generalize fn _ = r
      cases r with
      | bad => rfl
      | ex x s => rfl
      | ok v s => cases v with
        | own _ => rfl
        | pk _ => rfl
        | val d => cases d with
          | non => cases s with
            | nil => rfl
            | cons h t => cases h with
              | no => rfl
              | val _ => rfl
              | own f c => cases c <;> rfl
          | _ => rfl
def mk1 (fn : Fn) (c : Str) (nn mm : Nat) (g : List D → List D → List D) (ks : M (List RV)) (rs : List RV) (e : Sl) : Res RV := (ks e).bnd (mkK fn c nn mm g rs)
@[simp] theorem v_mk1 (fn : Fn) (c : Str) (nn mm : Nat) (g : List D → List D → List D) (ks : M (List RV)) (rs : List RV) (e : Sl) : mk1 fn c nn mm g ks rs e = (ks e).bnd (mkK fn c nn mm g rs) := id rfl
@[simp] theorem v_eMake (fn : Fn) (c : Str) (nn mm : Nat) (g : List D → List D → List D) (as ks : M (List RV)) (e : Sl) : eMake fn c nn mm g as ks e = (as e).bnd (mk1 fn c nn mm g ks) := by kernel_rfl
def fsS (i : Nat) (c n : Str) (d : D) (e : Sl) : Slot → Res Flo
  | .own fx (.ins c' fs) => gB (decide (c' = c ∧ fs.length < 1000)) (.ok .nx (e.set i (.own fx (.ins c' (putD n d fs)))))
  | _ => .bad
@[simp] theorem v_fsS (i : Nat) (c n : Str) (d : D) (e : Sl) (fx : Bool) (c' : Str) (fs : List (Str × D)) : fsS i c n d e (.own fx (.ins c' fs)) = gB (decide (c' = c ∧ fs.length < 1000)) (.ok .nx (e.set i (.own fx (.ins c' (putD n d fs))))) := id rfl
def fs2 (i : Nat) (c n : Str) (d : D) (e : Sl) : Res Flo := oB e[i]? (fsS i c n d e)
@[simp] theorem v_fs2 (i : Nat) (c n : Str) (d : D) (e : Sl) : fs2 i c n d e = oB e[i]? (fsS i c n d e) := id rfl
def fs1 (i : Nat) (c n : Str) (r : RV) (e : Sl) : Res Flo := (frz r e).bnd (fs2 i c n)
@[simp] theorem v_fs1 (i : Nat) (c n : Str) (r : RV) (e : Sl) : fs1 i c n r e = (frz r e).bnd (fs2 i c n) := id rfl
@[simp] theorem v_sFldSet (i : Nat) (c n : Str) (f : M RV) (e : Sl) : sFldSet i c n f e = (f e).bnd (fs1 i c n) := by
  unfold sFldSet
  rw [v_bind]
  cases f e with
  | bad => rfl
  | ex x e' => rfl
  | ok r e' =>
    rw [bnd_ok, bnd_ok, v_bind, v_fs1]
    cases frz r e' with
    | bad => rfl
    | ex x e' => rfl
    | ok d e2 =>
      rw [bnd_ok, bnd_ok, v_fs2]
      cases e2[i]? with
      | none => rfl
      | some s => cases s with
        | no => rfl
        | val _ => rfl
        | own f c => cases c with
          | lst _ => rfl
          | dK _ => rfl
          | dT _ => rfl
          | ins c' fs => exact gB_if _ _
@[simp] theorem v_isiCi (c : Str) (fs : List (Str × D)) (e : Sl) : isiC c (.ins c fs) e = .ok (.val (.bl true)) e := by
  unfold isiC
  dsimp only
  rw [if_pos rfl]
def wh2 (p : M Bool) (b : M Flo) (n : Nat) : Flo → Sl → Res Flo
  | .nx, e => whRun p b n e
  | .ct, e => whRun p b n e
  | .bk, e => .ok .nx e
  | .rt v, e => .ok (.rt v) e
@[simp] theorem v_wh2n (p : M Bool) (b : M Flo) (n : Nat) (e : Sl) : wh2 p b n .nx e = whRun p b n e := id rfl
@[simp] theorem v_wh2c (p : M Bool) (b : M Flo) (n : Nat) (e : Sl) : wh2 p b n .ct e = whRun p b n e := id rfl
@[simp] theorem v_wh2b (p : M Bool) (b : M Flo) (n : Nat) (e : Sl) : wh2 p b n .bk e = .ok .nx e := id rfl
@[simp] theorem v_wh2r (p : M Bool) (b : M Flo) (n : Nat) (v : RV) (e : Sl) : wh2 p b n (.rt v) e = .ok (.rt v) e := id rfl
def wh1 (p : M Bool) (b : M Flo) (n : Nat) (c : Bool) (e : Sl) : Res Flo := match c with
  | true => (b e).bnd (wh2 p b n)
  | false => .ok .nx e
@[simp] theorem v_wh1t (p : M Bool) (b : M Flo) (n : Nat) (e : Sl) : wh1 p b n true e = (b e).bnd (wh2 p b n) := id rfl
@[simp] theorem v_wh1f (p : M Bool) (b : M Flo) (n : Nat) (e : Sl) : wh1 p b n false e = .ok .nx e := id rfl
theorem v_wh (p : M Bool) (b : M Flo) (n : Nat) (e : Sl) : whRun p b (n + 1) e = (p e).bnd (wh1 p b n) := by
  conv => lhs; unfold whRun
  cases p e with
  | bad => rfl
  | ex x e' => rfl
  | ok c e' => cases c with
    | false => rfl
    | true =>
      rw [bnd_ok, v_wh1t]
      dsimp only
      cases b e' with
      | bad => rfl
      | ex x e' => rfl
      | ok f e' => cases f <;> rfl
@[simp] theorem v_tTupL (n : Nat) (t : List D → M Unit) (ds : List D) (e : Sl) : tTupL n t (.lst ds) e = gB (decide (ds.length = n)) (t ds e) := gB_if _ _
@[simp] theorem v_repK (b : Bool) (e : Sl) : repK (.bl b) e = .ok (.val (.str (repS b))) e := id rfl
theorem eq_rep (a b : Bool) : eqD (.str (repS a)) (.str (repS b)) = some (a == b) := by
  cases a <;> cases b <;> decide +kernel
end Y

set_option Elab.async false
set_option linter.all false
set_option maxRecDepth 100000
set_option maxHeartbeats 4000000
namespace Y
open PySem PySem.Spec PySem.W L2
set_option autoImplicit false
variable [TB]
/-! ### == by a class's own __eq__ -/
def ownEqK (c : Str) (fn : Fn) : D → D → M RV := fun d d' e => match d with
  | .ins c' fs => if c' = c then (match d' with
    | .non => (match fn [.val (.ins c' fs), .val d'] with
      | .ok (.val (.bl b)) _ => .ok (.val (.bl b)) e
      | _ => .bad)
    | .tup _ => (match fn [.val (.ins c' fs), .val d'] with
      | .ok (.val (.bl b)) _ => .ok (.val (.bl b)) e
      | _ => .bad)
    | .ins c2 _ => if c2 = c then (match fn [.val (.ins c' fs), .val d'] with
      | .ok (.val (.bl b)) _ => .ok (.val (.bl b)) e
      | _ => .bad) else .bad
    | _ => .bad) else .bad
  | _ => .bad
/-- all but the tables stay -/
structure SmT (H H' : Hp) : Prop where
  kp : ∀ b o, H b = some o → NoTbl o → H' b = some o
  tb : TabOk H'
  dm : ∀ b, H' b = none → H b = none
/-- what == with an own __eq__ wants, and gives -/
def rOwnEq (K : PySem.W.Frag) (mg : Mg) (C : Addr) (fn : Fn) : R2 := fun x y H Q => ∃ a dx gs d d', x = .ref a ∧ H a = some (.ins C dx gs) ∧ Rep K mg H x d ∧ Rep K mg H y d' ∧
  (d' = .non ∨ (∃ ds, d' = .tup ds) ∨ ∃ b dy hs, y = .ref b ∧ H b = some (.ins C dy hs)) ∧ TabOk H ∧ ∃ b sl, fn [.val d, .val d'] = .ok (.val (.bl b)) sl ∧ ∀ H', SmT H H' → Q (.bl b) H'
theorem Rel.ext {K : PySem.W.Frag} {mg : Mg} {F H H' : Hp} {e : Sl} {σ : St} (R : Rel K mg F e σ H) (s : SmT H H') : Rel K mg F e σ H' where
  sub := fun b o q => s.kp b o (R.sub b o q) (R.ftb b o q)
  len := R.len
  ok := fun i sl o h1 h2 => by
    have := R.ok i sl o h1 h2
    cases sl with
    | no => trivial
    | val d => exact this
    | own f c =>
      obtain ⟨a, h, e1, e2, e3, e4⟩ := this
      exact ⟨a, h, e1, e2, s.kp _ _ e3 e4.notbl, e4⟩
  inj := R.inj
  tab := s.tb
  ftb := R.ftb
theorem Stp.ext {K : PySem.W.Frag} {mg : Mg} {F H H' : Hp} {e : Sl} {σ : St} (R : Rel K mg F e σ H) (s : SmT H H') : Stp F H e σ F H' e σ where
  fro := Same.refl _
  kept := fun b o h _ m => s.kp b o h m
  dom := s.dm
  newF := fun _ h h' => absurd h h'
  newO := fun _ h => .inr h
  fix := fun i c h => ⟨⟨c, h⟩, rfl⟩
  len := rfl
theorem k2_ownEq {K : PySem.W.Frag} {mg : Mg} {W : WX} {c : Str} {C : Addr} {fn : Fn} (hC : mg c = some (.ref C)) : K2 K mg W (rOwnEq K mg C fn) (ownEqK c fn) := by
  intro F H e σ x y d d' Q R rx ry h
  have px := rx.rep R.sub
  have py := ry.rep R.sub
  have fin : ∀ (b : Bool), post K mg W (rV K mg) F H e σ (.ok (.val (.bl b)) e) Q → ∀ H', SmT H H' → Q (.bl b) H' := fun b h H' s => h _ F H' (Stp.ext R s) (R.ext s) (.bl b)
  unfold ownEqK at h
  split at h
  · rename_i c' fs
    split at h
    · rename_i hc
      subst hc
      obtain ⟨a, C', dx, gs, rfl, m, q, p⟩ := rx
      rw [hC] at m
      cases m
      split at h
      · split at h
        · rename_i b sl w
          exact ⟨a, dx, gs, _, _, rfl, q, px, py, .inl rfl, R.tab, b, sl, w, fin b h⟩
        · exact h.elim
      · split at h
        · rename_i b sl w
          exact ⟨a, dx, gs, _, _, rfl, q, px, py, .inr (.inl ⟨_, rfl⟩), R.tab, b, sl, w, fin b h⟩
        · exact h.elim
      · rename_i c2 fs2
        split at h
        · rename_i hc
          subst hc
          split at h
          · rename_i b sl w
            obtain ⟨a2, C2, dx2, gs2, rfl, m, q2, p2⟩ := ry
            rw [hC] at m
            cases m
            exact ⟨a, dx, gs, _, _, rfl, q, px, py, .inr (.inr ⟨a2, dx2, gs2, rfl, q2⟩), R.tab, b, sl, w, fin b h⟩
          · exact h.elim
        · exact h.elim
      · exact h.elim
    · exact h.elim
  · exact h.elim
/-- a class whose own __eq__ stands at f -/
structure EqF (K : PySem.W.Frag) (C f : Addr) : Prop where
  hs : PySem.W.findIn K (.ref C) "__eq__" = some (some (.ref f))
  hf : PySem.W.isFn K (.ref f) = true
  n0 : PySem.W.subIn K (.type "NoneType") (.ref C) = some false
  n5 : PySem.W.subIn K (.type "tuple") (.ref C) = some false
section
variable {X : Cx} {W : WX} {C f : Addr} {fd : FuncData} {ps : List Str} {k : Nat} {fn : Fn}
theorem rel_two {K : PySem.W.Frag} {mg : Mg} {H : Hp} {x y : V} {d d' : D} (p : Rep K mg H x d) (q : Rep K mg H y d') (t : TabOk H) : Rel K mg (strip H) [.val d, .val d'] ([x, y].map some) H where
  tab := t
  ftb := fun b o h => (strip_some h).2
  sub := strip_same H
  len := rfl
  ok := fun i s o h1 h2 => by
    match i, h1, h2 with
    | 0, h1, h2 => cases h1; cases h2; exact ⟨_, rfl, p.strip⟩
    | 1, h1, h2 => cases h1; cases h2; exact ⟨_, rfl, q.strip⟩
    | i + 2, h1, h2 => cases h1
  inj := fun i j f g c d a h1 h2 h3 h4 => by
    match i, h1 with
    | 0, h1 => cases h1
    | 1, h1 => cases h1
    | i + 2, h1 => cases h1
theorem own_run {pins : List (Addr × Obj)} {s : Shared} {σ : St} {H : Hp} {a : Addr} {y : V} {u : Value} {d d' : D} {b : Bool} {sl : Sl} {A : Around} (tk : Takes X W) (G : FnOk X.prog X.w X.K X.mg X.base (L2.CX X.prog X.w) k f fd ps (cSp X.K X.mg fn)) (hb : BA fd ps) (hr : Room k A) (hA : A.frames = X.A.frames)
    (I : Inv X pins σ H s) (ry : RelV y u) (p : Rep X.K X.mg H (.ref a) d) (q : Rep X.K X.mg H y d') (w : fn [.val d, .val d'] = .ok (.val (.bl b)) sl) (tH : TabOk H) :
    wpAny (model X.prog X.w) A (call (.ref f) [.ref a, u]) (fun v s' => v = .bool b ∧ ∃ H', Inv X pins σ H' s' ∧ SmT H H') X.xe s := by
  have hsp : cSp X.K X.mg fn [.ref a, y] H (fun v H' => v = .bl b ∧ SmT H H') (fun _ _ _ => False) := by
    refine ⟨[.val d, .val d'], strip H, rel_two p q tH, rfl, ?_⟩
    rw [w]
    intro v F' H' st R' rv
    cases rv
    exact ⟨rfl, ⟨fun b o h n => R'.sub b o (st.fro b o (strip_of h n)), R'.tab, st.dom⟩⟩
  have hl := G.len _ _ _ _ hsp
  have r2 : Vals [V.ref a, y] [Value.ref a, u] := .cons rfl (.cons ry .nil)
  have e0 : Env0 X.prog X.w X.K X.mg X.base A X.stack s H := by
    have e := I.env0
    exact ⟨hA.trans e.frames, e.mod, e.bs, e.bsz, e.funs, e.frf, e.hok, e.bare⟩
  refine wpAny_call (codeAny_mono (G.run A X.stack s H ⟨[.ref a, u], []⟩ [.ref a, u] [.ref a, y] _ _ hr e0 (by
    exact BindsTo.of_looks fun M => Looks.of_pure (hb [.ref a, u] (by simpa using hl))) r2 hsp) fun r s' hq => ?_)
  cases r with
  | error e => exact passes_call tk (fun _ _ _ _ z => z.elim) pins σ H s e s' I hq
  | ok fl =>
    cases fl with
    | ret w =>
      obtain ⟨z, H', I', rz, ez, ex⟩ := I.after hq
      subst ez
      cases rz
      exact ⟨rfl, H', I', ex⟩
    | next => exact False.elim hq
    | brk => exact False.elim hq
    | cont => exact False.elim hq
theorem own_ty {pins : List (Addr × Obj)} {s : Shared} {σ : St} {H : Hp} {y : V} {u : Value} {d' : D} (E : EqF X.K C f) (I : Inv X pins σ H s) (ry : RelV y u) (q : Rep X.K X.mg H y d') (hy : d' = .non ∨ (∃ ds, d' = .tup ds) ∨ ∃ b dy hs, y = .ref b ∧ H b = some (.ins C dy hs)) :
    ∃ tb, Looks (model X.prog X.w) s.heap (typeOf u) tb ∧ PySem.W.notFirst X.K C tb = true := by
  rcases hy with rfl | ⟨ds, rfl⟩ | ⟨b, dy, hs, rfl, hb⟩
  · cases q
    cases ry
    exact ⟨.type "NoneType", .of_pure rfl, by unfold PySem.W.notFirst; rw [E.n0]; simp⟩
  · cases q with
    | tup q r =>
      cases ry
      obtain ⟨its, r, e, z⟩ := I.tuple q
      obtain ⟨o, ho, hc, _⟩ := e
      refine ⟨.type "tuple", ?_, by unfold PySem.W.notFirst; rw [E.n5]; simp⟩
      rw [← hc]
      exact (Looks.ld (part := none) ho).andThen .now
  · cases ry
    obtain ⟨mB, J', _⟩ := ins_get I.hok hb
    obtain ⟨od', J', _⟩ := J'.look
    exact ⟨.ref C, J'.type, by simp [PySem.W.notFirst]⟩
theorem op_ownEq (tk : Takes X W) (G : FnOk X.prog X.w X.K X.mg X.base (L2.CX X.prog X.w) k f fd ps (cSp X.K X.mg fn)) (E : EqF X.K C f) (hb : BA fd ps) (hr : Room k X.A) : OpR X (compareOp .Eq) (rOwnEq X.K X.mg C fn) := by
  intro pins s σ H x y v u Q I rx ry h
  obtain ⟨a, dx, gs, d, d', rfl, ha, p, q, hy, tH, b, sl, w, hQ⟩ := h
  cases rx
  obtain ⟨mA, J, _⟩ := ins_get I.hok ha
  obtain ⟨od, J, _⟩ := J.look
  obtain ⟨m, hF⟩ := I.fr
  obtain ⟨tb, ht, hn⟩ := own_ty E I ry q hy
  show wpAny (model X.prog X.w) X.A (richCompare .Eq (.ref a) u) (EP X pins σ Q) X.xe s
  refine PySem.W.cmp_K (op := .Eq) hr.units0 hF I.ok.mod.kin J ht hn E.hs E.hf (wpAny_mono (own_run tk G hb hr rfl I ry p q w tH) (fun v s' z => ?_) fun _ _ z => z)
  obtain ⟨rfl, H', I', sm⟩ := z
  exact ⟨.bl b, H', I', rfl, hQ H' sm⟩
end
section
variable {prog : Program} {w : World} {A : Around} {E : Value → Shared → Prop} {s : Shared} {K : PySem.W.Frag} {x C L f : Addr} {h₀ : Heap} {m : Str → Option Value} {ox : Obj} {od : Option Obj} {b tb : Value}
/-- a special that a builtin gives -/
theorem ifBound_B {M : Model} {id : String} {name : Str} {T : String} {args : List Value} {Q : Option Value → Shared → Prop} (X : K.In s.heap) (I : InstAt s.heap x ox C od) (hs : findIn K (.ref C) name = some (some (.builtin id))) (S : PySem.Slot T name id)
    (h : wpAny M A (call (.builtin id) (.ref x :: args)) (fun v => Q (some v)) E s) : wpAny M A (callSpecialIfBound? (.ref x) name args) Q E s := by
  simp only [callSpecialIfBound?, bindSpecialIfBound?]
  refine wpAny_holding (wpAny_bind (wpAny_bind (wpAny_bind (I.type.here ((looks_findIn X hs).here ?_)))))
  simp only [S.bind]
  refine wpAny_bind (wpAny_askSetting (wpAny_ite ?_))
  have last : wpAny M A (call (.builtin id) ([.ref x] ++ args) >>= fun v => pure (some v)) Q E s := wpAny_bind (wpAny_mono h (fun v s' z => wpAny_pure z) fun _ _ z => z)
  split
  · exact wpAny_bind (wpAny_pure (wpAny_pure last))
  · exact wpAny_tryCatch (wpAny_bind (wpAny_pure (wpAny_pure last)))
theorem objNe_in {Q : Fin → Shared → Prop} (X : K.In s.heap) (I : InstAt s.heap x ox C od) (hs : findIn K (.ref C) "__eq__" = some (some (.ref f))) (hf : isFn K (.ref f) = true) (hu : A.units < cLine)
    (h : wpAny (model prog w) A (call (.ref f) [.ref x, b]) (fun v s' => ∃ c, v = .bool c ∧ Q (.done (.ret (.bool (!c)))) s') E s) : wpAny (model prog w) A (Builtin.«object.__ne__» ⟨[.ref x, b], []⟩) Q E s := by
  obtain ⟨hp, g, dr, t, os⟩ := s
  unfold Builtin.«object.__ne__»
  repeat (first
    | with_reducible refine wpAny_cRoomFor hu ?_
    | (refine wpAny_bind (m := callSpecialIfBound? (.ref x) (Str.ofString "__eq__") [b]) (ifBound_K X I hs hf (wpAny_mono h (fun r s' hr => by
          obtain ⟨c, rfl, hq⟩ := hr
          repeat (first | exact hq | exact wpAny_pure hq | exact wpAny_truthy_bool hq | (refine wpAny_bind (m := truthy (.bool _)) (wpAny_truthy_bool ?_)) | wp_step)) fun _ _ z => z)))
    | wp_step)
theorem ne_own {oy : Obj} {y : Addr} {od' : Option Obj} {Q : Value → Shared → Prop} (hu : A.units + 1 < cLine) (X : K.In s.heap) (I : InstAt s.heap x ox C od) (I' : InstAt s.heap y oy C od') (hn : findIn K (.ref C) "__ne__" = some (some (.builtin "object.__ne__"))) (hm : mroIn K C (.type "object") = some true)
    (hs : findIn K (.ref C) "__eq__" = some (some (.ref f))) (hf : isFn K (.ref f) = true)
    (h : wpAny (model prog w) A.in1 (call (.ref f) [.ref x, .ref y]) (fun v s' => ∃ c, v = .bool c ∧ Q (.bool (!c)) s') E s) : wpAny (model prog w) A (richCompare .NotEq (.ref x) (.ref y)) Q E s := by
  have one : wpAny (model prog w) A (tryCompare (.ref x) (cmpInfo .NotEq).2.1 (.ref y)) (fun r s' => ∃ v, r = some v ∧ Q v s') E s := by
    unfold tryCompare
    refine wpAny_bind (ifBound_B (id := "object.__ne__") (T := "object") X I hn PySem.F.cmp_object.ne (wpAny_call (codeAny_call_builtin PySem.F.cmp_object.ne.plain PySem.F.cmpEntry_ne
      (check_slot (i := "object.__ne__") (owner := "object") (n := "__ne__") PySem.F.cmpKind_ne PySem.F.cmpSplit_ne (I.type.andThen (looks_mroIn X hm)) (PySem.F.cmpArgs_ne _ _) (objNe_in (A := A.in1) X I hs hf hu (wpAny_mono h (fun v s' z => ?_) fun _ _ z => z))))))
    obtain ⟨c, rfl, hq⟩ := z
    exact ⟨c, rfl, wpAny_pure ⟨_, rfl, hq⟩⟩
  unfold richCompare
  simp only [oneThing_ref]
  refine wpAny_holding (wpAny_bind (wpAny_cRoomFor (Nat.lt_of_succ_lt hu) ?_))
  refine wpAny_bind (I.type.here (wpAny_bind (I'.type.here ?_)))
  rw [show (Value.ref C != Value.ref C) = false by simp]
  simp only [Bool.false_eq_true, if_false]
  refine wpAny_bind (wpAny_pure ?_)
  simp only [Bool.false_eq_true, if_false]
  refine wpAny_bind (wpAny_mono one (fun r s' z => ?_) fun _ _ z => z)
  obtain ⟨v, rfl, hq⟩ := z
  exact wpAny_pure hq
end
def ownNeK (c : Str) (fn : Fn) : D → D → M RV := fun d d' e => match d, d' with
  | .ins c' fs, .ins c2 gs => if c' = c ∧ c2 = c then (match fn [.val (.ins c' fs), .val (.ins c2 gs)] with
      | .ok (.val (.bl b)) _ => .ok (.val (.bl (!b))) e
      | _ => .bad) else .bad
  | _, _ => .bad
def rOwnNe (K : PySem.W.Frag) (mg : Mg) (C : Addr) (fn : Fn) : R2 := fun x y H Q => ∃ a dx gs a2 dx2 gs2 d d', x = .ref a ∧ H a = some (.ins C dx gs) ∧ y = .ref a2 ∧ H a2 = some (.ins C dx2 gs2) ∧ Rep K mg H x d ∧ Rep K mg H y d' ∧
  TabOk H ∧ ∃ b sl, fn [.val d, .val d'] = .ok (.val (.bl b)) sl ∧ ∀ H', SmT H H' → Q (.bl (!b)) H'
theorem k2_ownNe {K : PySem.W.Frag} {mg : Mg} {W : WX} {c : Str} {C : Addr} {fn : Fn} (hC : mg c = some (.ref C)) : K2 K mg W (rOwnNe K mg C fn) (ownNeK c fn) := by
  intro F H e σ x y d d' Q R rx ry h
  have px := rx.rep R.sub
  have py := ry.rep R.sub
  unfold ownNeK at h
  split at h
  · rename_i c' fs c2 fs2
    split at h
    · rename_i hc
      obtain ⟨rfl, rfl⟩ := hc
      obtain ⟨a, C', dx, gs, rfl, m, q, p⟩ := rx
      rw [hC] at m
      cases m
      obtain ⟨a2, C2, dx2, gs2, rfl, m, q2, p2⟩ := ry
      rw [hC] at m
      cases m
      split at h
      · rename_i b sl w
        exact ⟨a, dx, gs, a2, dx2, gs2, _, _, rfl, q, rfl, q2, px, py, R.tab, b, sl, w, fun H' s => h _ F H' (Stp.ext R s) (R.ext s) (.bl _)⟩
      · exact h.elim
    · exact h.elim
  · exact h.elim
structure NeF (K : PySem.W.Frag) (C : Addr) : Prop where
  hn : PySem.W.findIn K (.ref C) "__ne__" = some (some (.builtin "object.__ne__"))
  hm : PySem.W.mroIn K C (.type "object") = some true
section
variable {X : Cx} {W : WX} {C f : Addr} {fd : FuncData} {ps : List Str} {k : Nat} {fn : Fn}
theorem op_ownNe (tk : Takes X W) (G : FnOk X.prog X.w X.K X.mg X.base (L2.CX X.prog X.w) k f fd ps (cSp X.K X.mg fn)) (E : EqF X.K C f) (N : NeF X.K C) (hb : BA fd ps) (hr : Room (k + 1) X.A) : OpR X (compareOp .NotEq) (rOwnNe X.K X.mg C fn) := by
  intro pins s σ H x y v u Q I rx ry h
  obtain ⟨a, dx, gs, a2, dx2, gs2, d, d', rfl, ha, rfl, ha2, p, q, tH, b, sl, w, hQ⟩ := h
  cases rx
  cases ry
  obtain ⟨mA, J, _⟩ := ins_get I.hok ha
  obtain ⟨od, J, _⟩ := J.look
  obtain ⟨mB, J', _⟩ := ins_get I.hok ha2
  obtain ⟨od', J', _⟩ := J'.look
  show wpAny (model X.prog X.w) X.A (richCompare .NotEq (.ref a) (.ref a2)) (EP X pins σ Q) X.xe s
  refine ne_own (by have := hr.un; omega) I.kIn J J' N.hn N.hm E.hs E.hf (wpAny_mono (own_run (A := X.A.in1) (y := .ref a2) tk G hb hr.in1 rfl I (show RelV (.ref a2) (.ref a2) from rfl) p q w tH) (fun v s' z => ?_) fun _ _ z => z)
  obtain ⟨rfl, H', I', sm⟩ := z
  exact ⟨b, rfl, .bl (!b), H', I', rfl, hQ H' sm⟩
variable {a b : Expr} {g h : M RV} {pos : Pos} {c : Str}
/-- a class's own == by name -/
def EqOk (P : Program) (w : World) (K : PySem.W.Frag) (mg : Mg) (c : Str) (k : Nat) (ps : List Str) (fn : Fn) : Prop :=
  ∃ C f fd, mg c = some (.ref C) ∧ EqF K C f ∧ NeF K C ∧ (∀ base, BaseOk mg base → FnOk P w K mg base (L2.CX P w) k f fd ps (cSp K mg fn)) ∧ BA fd ps
theorem de_ownEq (O : EqOk X.prog X.w X.K X.mg c k ps fn) (hB : BaseOk X.mg X.base) (hr : Room k X.A) (tk : Takes X W) (ha : DE X W a g) (hb : DE X W b h) : DE X W (.Compare a [.Eq] [b] pos) (rd2 g h (ownEqK c fn)) := by
  obtain ⟨C, f, fd, m, E, N, G, B⟩ := O
  exact de_cmp (op_ownEq tk (G X.base hB) E B hr) (k2_ownEq m) ha hb (nomark _)
theorem dt_ownEq (O : EqOk X.prog X.w X.K X.mg c k ps fn) (hB : BaseOk X.mg X.base) (hr : Room k X.A) (tk : Takes X W) (ha : DE X W a g) (hb : DE X W b h) : DT X W (.Compare a [.Eq] [b] pos) (asB (rd2 g h (ownEqK c fn))) := by
  obtain ⟨C, f, fd, m, E, N, G, B⟩ := O
  exact dt_cmp (op_ownEq tk (G X.base hB) E B hr) (k2_ownEq m) ha hb (nomark _)
theorem dt_ownNe (O : EqOk X.prog X.w X.K X.mg c k ps fn) (hB : BaseOk X.mg X.base) (hr : Room (k + 1) X.A) (tk : Takes X W) (ha : DE X W a g) (hb : DE X W b h) : DT X W (.Compare a [.NotEq] [b] pos) (asB (rd2 g h (ownNeK c fn))) := by
  obtain ⟨C, f, fd, m, E, N, G, B⟩ := O
  exact dt_cmp (op_ownNe tk (G X.base hB) E N B hr) (k2_ownNe m) ha hb (nomark _)
end
/-! ### a fresh list times an int; a tuple times an int -/
def eRepL (f g : M RV) : M RV := M.bind f fun r => M.bind g fun r' => fun e => match r, rdat e r' with
  | .own (.lst xs), some (.int k) => if -(2 ^ 63) ≤ k ∧ k < 2 ^ 63 ∧ xs.length * k.toNat ≤ sizeLine then .ok (.own (.lst (List.replicate k.toNat xs).flatten)) e else .bad
  | _, _ => .bad
def repT : D → D → M RV
  | .tup xs, .int k => fun e => if xs ≠ [] ∧ 2 ≤ k ∧ k ≤ 1000 ∧ xs.length ≤ 1000 then .ok (.val (.tup (List.replicate k.toNat xs).flatten)) e else .bad
  | _, _ => M.bad
theorem reps_app {K : PySem.W.Frag} {mg : Mg} {F : Hp} : ∀ {vs ws : List V} {ds es : List D}, Reps K mg F vs ds → Reps K mg F ws es → Reps K mg F (vs ++ ws) (ds ++ es)
  | _, _, _, _, .nil, h => h
  | _, _, _, _, .cons a b, h => .cons a (reps_app b h)
theorem reps_rep {K : PySem.W.Frag} {mg : Mg} {F : Hp} {vs : List V} {ds : List D} (r : Reps K mg F vs ds) : ∀ n, Reps K mg F (List.replicate n vs).flatten (List.replicate n ds).flatten
  | 0 => .nil
  | n + 1 => by
    rw [List.replicate_succ, List.replicate_succ, List.flatten_cons, List.flatten_cons]
    exact reps_app r (reps_rep r n)
section
variable {X : Cx} {W : WX} {a b : Expr} {f g : M RV} {pos : Pos} {K : PySem.W.Frag} {mg : Mg} {σ : St} {H : Hp} {Q : VK}
theorem eRepL_ok (h : cE K mg W (eRepL f g) σ H Q) : cE K mg W f σ H fun x H1 => cE K mg W g σ H1 fun y H2 => rRep x y H2 Q := by
  obtain ⟨e, F, R, h⟩ := h
  refine ⟨e, F, R, post_imp (post_seq up_V h) ?_⟩
  rintro x H1 ⟨r1, e1, F1, q1, R1, s1, h1⟩
  refine ⟨e1, F1, R1, post_imp (post_seq up_V h1) ?_⟩
  rintro y H2 ⟨r2, e2, F2, q2, R2, s2, h2⟩
  have q1 := q1.step s2
  cases r1 with
  | val _ => exact h2.elim
  | pk _ => exact h2.elim
  | own c => cases c with
    | ins _ _ => exact h2.elim
    | dK _ => exact h2.elim
    | dT _ => exact h2.elim
    | lst xs =>
      cases w : rdat e2 r2 with
      | none => rw [w] at h2; exact h2.elim
      | some d => cases d with
        | int k =>
          rw [w] at h2
          dsimp only at h2
          split at h2
          · rename_i hk
            have ry := R2.rd q2 w
            cases ry
            obtain ⟨a, o, rfl, hF, hH, hc, _⟩ := q1
            obtain ⟨vs, rfl, r⟩ := hc
            exact ⟨a, k, vs, rfl, rfl, hH, hk.1, hk.2.1, by rw [r.length]; exact hk.2.2, fun p hp => post_newL R2 h2 (reps_rep r _) hp⟩
          · exact h2.elim
        | _ => rw [w] at h2; exact h2.elim
theorem de_repL (ha : DE X W a f) (hb : DE X W b g) : DE X W (.BinOp a .Mult b pos) (eRepL f g) := peW (pe_op op_rep ha hb) fun σ H Q h => eRepL_ok h
theorem k2_repT : K2 K mg W (rRepT K) repT := by
  intro F H e σ x y d d' Q R rx ry h
  unfold repT at h
  split at h
  · split at h
    · rename_i xs k hk
      cases ry
      obtain ⟨a, vs, rfl, q, r⟩ := rx
      exact ⟨a, k, vs, rfl, rfl, sqT_mono R.sub q, fun z => hk.1 (by rw [z] at r; cases r; rfl), hk.2.1, hk.2.2.1, by rw [r.length]; exact hk.2.2.2, fun p hp => post_newT R h (reps_rep r _) hp⟩
    · exact h.elim
  · exact h.elim
theorem de_repT (ha : DE X W a f) (hb : DE X W b g) : DE X W (.BinOp a .Mult b pos) (rd2 f g repT) := de_bin op_repT k2_repT ha hb
end
/-! ### C(k = v, ..), by keywords alone -/
section
variable {X : Cx} {W : WX} {ks : M (List RV)} {fn : Fn} {pos p : Pos} {k : Nat} {ps nms : List Str} {c : Str} {kws : List Keyword} {gD : List D → List D → List D}
theorem de_makeN0 (G : MakeOk X.prog X.w X.K X.mg c k ps fn 0 nms gD) (hB : BaseOk X.mg X.base) (hr : Room (k + 1) X.A) (tk : Takes X W) (hW : ∀ c d σ σ' H, W c d σ H → W c d σ' H) (hg : Gl X c) (hk : DK X W kws ks)
    (hall : (backToKw pos (keywordEach kws X.env)).all (·.1.isSome) = true := by rfl) (hks : (backToKw pos (keywordEach kws X.env)).filterMap (·.1) = nms := by rfl) (hdb : (c == ("__debug__" : Str)) = false := by decide)
    (hpl : ((backTo pos (starEach [] X.env)).any (·.1) || (backToKw pos (keywordEach kws X.env)).any (·.1.isNone)) = false := by rfl) :
    DE X W (.Call (.Name c p) [] kws pos) (eMake fn c 0 nms.length gD aNil ks) := by
  obtain ⟨C, f, fd, m, mkd, G, gu, gV, kb, hgD⟩ := G
  refine peW (pe_makeK0 (E := fun c d H => ∃ σ, W c d σ H) mkd (G X.base hB) hr hg m kb (passes_call tk fun c d σ H ⟨σ', z⟩ => hW c d σ' σ H z) hk hall hks hdb hpl) fun σ H Q ⟨e, F, R, h⟩ => ?_
  change post X.K X.mg W (rV X.K X.mg) F H e σ (M.bind ks (fun rk => mkK fn c 0 nms.length gD [] rk) e) Q at h
  refine ⟨e, F, R, post_imp (post_seq up_V h) ?_⟩
  rintro zs H2 ⟨rk, e2, F2, q2, R2, s2, h2⟩
  unfold mkK at h2
  cases w2 : valsOf rk with
  | none => rw [w2] at h2; exact h2.elim
  | some dk =>
    rw [w2] at h2
    dsimp only [valsOf] at h2
    split at h2
    · rename_i hl
      have r2 := q2.reps w2
      refine ⟨rfl, by rw [r2.length]; exact hl.2, fun x dx hx hdx hne => ?_⟩
      obtain ⟨ws, e1, e2⟩ := hgD F2 (.ref x) [] zs [] dk .nil r2 rfl hl.2
      rw [e1]
      obtain ⟨args, F3, R3, a3, p3⟩ := mkK_ok (W := W) R2 m e2 hx hdx hne rfl h2
      refine ⟨args, F3, R3, a3, ?_⟩
      revert p3
      cases fn args with
      | bad => exact id
      | ok r s => exact id
      | ex y s => exact fun p3 cls d F' H' s' R' z => ⟨σ, p3 cls d F' H' s' R' z⟩
    · exact h2.elim
end
/-- an own __eq__, by the fragment -/
theorem eq_mk {K : PySem.W.Frag} {h : Heap} {mg : Mg} {c qual : Str} {st : Stmt} {ps : List Str} {C f : Addr} {oc kV dc pm cd ct : Value} {od an : Option Addr} {sl : Array (Option Value)} (X : K.In h) (G : h.Ns mainGlobals mg) (a : PySem.W.nsIn K mainGlobals c = some (some (.ref C)))
    (hs : PySem.W.findIn K (.ref C) "__eq__" = some (some (.ref f))) (hf : PySem.W.isFn K (.ref f) = true) (n0 : PySem.W.subIn K (.type "NoneType") (.ref C) = some false) (n5 : PySem.W.subIn K (.type "tuple") (.ref C) = some false)
    (hn : PySem.W.findIn K (.ref C) "__ne__" = some (some (.builtin "object.__ne__"))) (hm : PySem.W.mroIn K C (.type "object") = some true)
    (l : K.lookup f = some ⟨oc, od, .func (PySem.W.fnOf "__eq__" qual (defArgs st) (defBody st) (defScope st) .none kV dc pm an cd ct), sl⟩) (ci : PySem.W.codeIn K cd qual = true) (k : PySem.W.keepIn K (.ref f) = true)
    (hb : ∀ (kV doc pm : Value) (an : Option Addr) (cdv ct : Value) (us : List Value), us.length = ps.length → bindArgs (PySem.W.fnOf "__eq__" qual (defArgs st) (defBody st) (defScope st) .none kV doc pm an cdv ct) ⟨us, []⟩ = pure (ps.zip us)) :
    ∃ C f fd, mg c = some (.ref C) ∧ EqF K C f ∧ NeF K C ∧ FunD K "__eq__" qual (defArgs st) (defBody st) (defScope st) [] [] f fd ∧ BA fd ps :=
  ⟨C, f, _, PySem.W.mg_of X G a, ⟨hs, hf, n0, n5⟩, ⟨hn, hm⟩, ⟨⟨oc, od, .none, kV, dc, pm, an, cd, ct, sl, rfl, l, ci, .inl ⟨rfl, rfl⟩, .inl rfl⟩, k⟩, fun us hl => hb kV dc pm an cd ct us hl⟩
/-- two keywords the other way round -/
def swap2 {α : Type} : List α → List α
  | [a, b] => [b, a]
  | l => l
theorem vals_swap2 {zs : List V} {ws : List Value} (r : Vals zs ws) : Vals (swap2 zs) (swap2 ws) := by
  cases r with
  | nil => exact .nil
  | cons a r => cases r with
    | nil => exact .cons a .nil
    | cons b r => cases r with
      | nil => exact .cons b (.cons a .nil)
      | cons c r => exact .cons a (.cons b (.cons c r))
end Y

set_option Elab.async false
set_option linter.all false
set_option maxRecDepth 100000
set_option maxHeartbeats 4000000
namespace Y
open PySem L2
set_option autoImplicit false
variable [TB]
def eqB (e : Sl) : Res RV → Res RV
  | .ok (.val (.bl b)) _ => .ok (.val (.bl b)) e
  | _ => .bad
@[simp] theorem v_eqB (e sl : Sl) (b : Bool) : eqB e (.ok (.val (.bl b)) sl) = .ok (.val (.bl b)) e := id rfl
def neB (e : Sl) : Res RV → Res RV
  | .ok (.val (.bl b)) _ => .ok (.val (.bl (!b))) e
  | _ => .bad
@[simp] theorem v_neB (e sl : Sl) (b : Bool) : neB e (.ok (.val (.bl b)) sl) = .ok (.val (.bl (!b))) e := id rfl
theorem v_ownEqI (c : Str) (fn : Fn) (fs gs : List (Str × D)) (e : Sl) : ownEqK c fn (.ins c fs) (.ins c gs) e = eqB e (fn [.val (.ins c fs), .val (.ins c gs)]) := by
  unfold ownEqK
  dsimp only
  rw [if_pos rfl, if_pos rfl]
  cases fn [.val (.ins c fs), .val (.ins c gs)] with
  | ok r s => cases r with
    | val d => cases d <;> rfl
    | _ => rfl
  | _ => rfl
theorem v_ownEqT (c : Str) (fn : Fn) (fs : List (Str × D)) (ds : List D) (e : Sl) : ownEqK c fn (.ins c fs) (.tup ds) e = eqB e (fn [.val (.ins c fs), .val (.tup ds)]) := by
  unfold ownEqK
  dsimp only
  rw [if_pos rfl]
  cases fn [.val (.ins c fs), .val (.tup ds)] with
  | ok r s => cases r with
    | val d => cases d <;> rfl
    | _ => rfl
  | _ => rfl
theorem v_ownEqN (c : Str) (fn : Fn) (fs : List (Str × D)) (e : Sl) : ownEqK c fn (.ins c fs) .non e = eqB e (fn [.val (.ins c fs), .val .non]) := by
  unfold ownEqK
  dsimp only
  rw [if_pos rfl]
  cases fn [.val (.ins c fs), .val .non] with
  | ok r s => cases r with
    | val d => cases d <;> rfl
    | _ => rfl
  | _ => rfl
theorem v_ownNe (c : Str) (fn : Fn) (fs gs : List (Str × D)) (e : Sl) : ownNeK c fn (.ins c fs) (.ins c gs) e = neB e (fn [.val (.ins c fs), .val (.ins c gs)]) := by
  unfold ownNeK
  dsimp only
  rw [if_pos ⟨rfl, rfl⟩]
  cases fn [.val (.ins c fs), .val (.ins c gs)] with
  | ok r s => cases r with
    | val d => cases d <;> rfl
    | _ => rfl
  | _ => rfl
@[simp] theorem v_repT (xs : List D) (k : Int) (e : Sl) : repT (.tup xs) (.int k) e = gB (decide (xs ≠ [] ∧ 2 ≤ k ∧ k ≤ 1000 ∧ xs.length ≤ 1000)) (.ok (.val (.tup (List.replicate k.toNat xs).flatten)) e) := gB_if _ _
theorem p63 : (2 : Int) ^ 63 = 9223372036854775808 := by decide +kernel
def rep3 (xs : List D) (e : Sl) : D → Res RV
  | .int k => gB (decide (-9223372036854775808 ≤ k ∧ k < 9223372036854775808 ∧ xs.length * k.toNat ≤ sizeLine)) (.ok (.own (.lst (List.replicate k.toNat xs).flatten)) e)
  | _ => .bad
@[simp] theorem v_rep3 (xs : List D) (e : Sl) (k : Int) : rep3 xs e (.int k) = gB (decide (-9223372036854775808 ≤ k ∧ k < 9223372036854775808 ∧ xs.length * k.toNat ≤ sizeLine)) (.ok (.own (.lst (List.replicate k.toNat xs).flatten)) e) := id rfl
def rep2 (xs : List D) (r' : RV) (e : Sl) : Res RV := oB (rdat e r') (rep3 xs e)
@[simp] theorem v_rep2 (xs : List D) (r' : RV) (e : Sl) : rep2 xs r' e = oB (rdat e r') (rep3 xs e) := id rfl
def rep1 (g : M RV) : RV → Sl → Res RV
  | .own (.lst xs), e => (g e).bnd (rep2 xs)
  | _, e => (g e).bnd fun _ _ => .bad
@[simp] theorem v_rep1 (g : M RV) (xs : List D) (e : Sl) : rep1 g (.own (.lst xs)) e = (g e).bnd (rep2 xs) := id rfl
@[simp] theorem v_eRepL (f g : M RV) (e : Sl) : eRepL f g e = (f e).bnd (rep1 g) := by
  unfold eRepL
  rw [v_bind]
  cases f e with
  | bad => rfl
  | ex x e' => rfl
  | ok r e' =>
    rw [bnd_ok, bnd_ok, v_bind]
    cases r with
    | val d => rfl
    | pk i => rfl
    | own c => cases c with
      | ins _ _ => rfl
      | dK _ => rfl
      | dT _ => rfl
      | lst xs =>
        rw [v_rep1]
        cases g e' with
        | bad => rfl
        | ex x e' => rfl
        | ok r e2 =>
          rw [bnd_ok, bnd_ok, v_rep2]
          cases rdat e2 r with
          | none => rfl
          | some d => cases d with
            | int k =>
              rw [oB_some, v_rep3, ← gB_if]
              dsimp only
              rw [p63]
            | _ => rfl
end Y

set_option Elab.async false
set_option linter.all false
set_option maxRecDepth 100000
set_option maxHeartbeats 4000000
namespace Y
open PySem PySem.Spec L2
set_option autoImplicit false
variable [TB]
def absK : D → M RV
  | .int i => fun e => .ok (.val (.int (if i < 0 then -i else i))) e
  | _ => M.bad
def blsOf : List D → Option (List Bool)
  | [] => some []
  | .bl b :: r => (blsOf r).map (b :: ·)
  | _ => none
theorem Reps.bls {K : PySem.W.Frag} {mg : Mg} {F : Hp} : ∀ {vs : List V} {ds : List D} {ns : List Bool}, Reps K mg F vs ds → blsOf ds = some ns → vs = ns.map V.bl
  | _, _, _, .nil, e => by cases e; rfl
  | _, _, _, .cons (.bl i) b, e => by
    unfold blsOf at e
    obtain ⟨zs, q, e⟩ := Option.map_eq_some_iff.mp e
    subst e
    rw [Reps.bls b q]
    rfl
  | _, _, _, .cons .non _, e => by cases e
  | _, _, _, .cons (.int _) _, e => by cases e
  | _, _, _, .cons (.str _) _, e => by cases e
  | _, _, _, .cons (.raw _) _, e => by cases e
  | _, _, _, .cons (.lst _ _) _, e => by cases e
  | _, _, _, .cons (.tup _ _) _, e => by cases e
  | _, _, _, .cons (.ins _ _ _) _, e => by cases e
def anyK : D → M RV
  | .lst xs => fun e => match blsOf xs with
    | some bs => .ok (.val (.bl (bs.any id))) e
    | none => .bad
  | _ => M.bad
def allK : D → M RV
  | .lst xs => fun e => match blsOf xs with
    | some bs => .ok (.val (.bl (bs.all id))) e
    | none => .bad
  | _ => M.bad
section
variable {X : Cx} {W : WX} {a : Expr} {f : M RV} {pos p : Pos}
theorem de_abs (hg : Gl X "abs") (hm : X.mg "abs" = none) (ha : DE X W a f) (he : starEach [a] X.env = (false, eval a X.env) :: starEach [] X.env := by rfl) (hpl : (backTo pos (starEach [] X.env)).any (·.1) = false := by rfl) :
    DE X W (.Call (.Name "abs" p) [a] [] pos) (rd1 f absK) := de_b1 call_abs (fun F H e σ x d Q R rx h => by
  unfold absK at h
  split at h
  · cases rx
    exact ⟨_, rfl, post_val R h (.int _)⟩
  · exact h.elim) hg hm (by decide +kernel) ha (he := he) (hpl := hpl)
theorem de_any (hc : X.calm = true) (hg : Gl X "any") (hm : X.mg "any" = none) (ha : DE X W a f) (he : starEach [a] X.env = (false, eval a X.env) :: starEach [] X.env := by rfl) (hpl : (backTo pos (starEach [] X.env)).any (·.1) = false := by rfl) :
    DE X W (.Call (.Name "any" p) [a] [] pos) (rd1 f anyK) := de_b1 (cr_any hc) (fun F H e σ x d Q R rx h => by
  unfold anyK at h
  split at h
  · obtain ⟨l, vs, rfl, q, r⟩ := rx
    split at h
    · rename_i bs w
      rw [Reps.bls r w] at q
      exact ⟨l, bs, rfl, q, post_val R h (.bl _)⟩
    · exact h.elim
  · exact h.elim) hg hm (by decide +kernel) ha (he := he) (hpl := hpl)
theorem de_all (hc : X.calm = true) (hg : Gl X "all") (hm : X.mg "all" = none) (ha : DE X W a f) (he : starEach [a] X.env = (false, eval a X.env) :: starEach [] X.env := by rfl) (hpl : (backTo pos (starEach [] X.env)).any (·.1) = false := by rfl) :
    DE X W (.Call (.Name "all" p) [a] [] pos) (rd1 f allK) := de_b1 (cr_all hc) (fun F H e σ x d Q R rx h => by
  unfold allK at h
  split at h
  · obtain ⟨l, vs, rfl, q, r⟩ := rx
    split at h
    · rename_i bs w
      rw [Reps.bls r w] at q
      exact ⟨l, bs, rfl, q, post_val R h (.bl _)⟩
    · exact h.elim
  · exact h.elim) hg hm (by decide +kernel) ha (he := he) (hpl := hpl)
/-- the greatest, the least of a list -/
def maxL : D → M RV
  | .lst xs => fun e => match intsOf xs with
    | some ns => if ns = [] then .bad else .ok (.val (.int (ns.foldl max (ns.headD 0)))) e
    | none => .bad
  | _ => M.bad
def minL : D → M RV
  | .lst xs => fun e => match intsOf xs with
    | some ns => if ns = [] then .bad else .ok (.val (.int (ns.foldl min (ns.headD 0)))) e
    | none => .bad
  | _ => M.bad
theorem fold_max : ∀ (ns : List Int) (i : Int), i ≤ ns.foldl max i ∧ (∀ x ∈ ns, x ≤ ns.foldl max i) ∧ (ns.foldl max i = i ∨ ns.foldl max i ∈ ns)
  | [], i => ⟨Int.le_refl _, fun x h => (by cases h), .inl rfl⟩
  | a :: r, i => by
    obtain ⟨h1, h2, h3⟩ := fold_max r (max i a)
    have e1 : i ≤ max i a := Int.le_max_left ..
    have e2 : a ≤ max i a := Int.le_max_right ..
    refine ⟨Int.le_trans e1 h1, fun x hx => ?_, ?_⟩
    · rcases List.mem_cons.mp hx with rfl | hx
      · exact Int.le_trans e2 h1
      · exact h2 x hx
    · show r.foldl max (max i a) = i ∨ r.foldl max (max i a) ∈ a :: r
      rcases h3 with h3 | h3
      · rcases (show max i a = i ∨ max i a = a by omega) with q | q
        · exact .inl (h3.trans q)
        · exact .inr (by rw [h3, q]; exact List.mem_cons_self)
      · exact .inr (List.mem_cons_of_mem _ h3)
theorem fold_min : ∀ (ns : List Int) (i : Int), ns.foldl min i ≤ i ∧ (∀ x ∈ ns, ns.foldl min i ≤ x) ∧ (ns.foldl min i = i ∨ ns.foldl min i ∈ ns)
  | [], i => ⟨Int.le_refl _, fun x h => (by cases h), .inl rfl⟩
  | a :: r, i => by
    obtain ⟨h1, h2, h3⟩ := fold_min r (min i a)
    have e1 : min i a ≤ i := Int.min_le_left ..
    have e2 : min i a ≤ a := Int.min_le_right ..
    refine ⟨Int.le_trans h1 e1, fun x hx => ?_, ?_⟩
    · rcases List.mem_cons.mp hx with rfl | hx
      · exact Int.le_trans h1 e2
      · exact h2 x hx
    · show r.foldl min (min i a) = i ∨ r.foldl min (min i a) ∈ a :: r
      rcases h3 with h3 | h3
      · rcases (show min i a = i ∨ min i a = a by omega) with q | q
        · exact .inl (h3.trans q)
        · exact .inr (by rw [h3, q]; exact List.mem_cons_self)
      · exact .inr (List.mem_cons_of_mem _ h3)
theorem de_maxL (hc : X.calm = true) (hg : Gl X "max") (hm : X.mg "max" = none) (ha : DE X W a f) (he : starEach [a] X.env = (false, eval a X.env) :: starEach [] X.env := by rfl) (hpl : (backTo pos (starEach [] X.env)).any (·.1) = false := by rfl) :
    DE X W (.Call (.Name "max" p) [a] [] pos) (rd1 f maxL) := de_b1 (cr_max hc) (fun F H e σ x d Q R rx h => by
  unfold maxL at h
  split at h
  · obtain ⟨l, vs, rfl, q, r⟩ := rx
    split at h
    · rename_i ns w
      rw [Reps.ints r w] at q
      split at h
      · exact h.elim
      · rename_i hne
        cases ns with
        | nil => exact absurd rfl hne
        | cons n ns =>
          obtain ⟨h1, h2, h3⟩ := fold_max (n :: ns) n
          refine ⟨l, n :: ns, rfl, q, by simp, fun m hm hy => ?_⟩
          have e1 : m = (n :: ns).foldl max n := by
            have a1 := h2 m hm
            have a2 : (n :: ns).foldl max n ≤ m := hy _ (h3.elim (fun z => by rw [z]; exact List.mem_cons_self) id)
            omega
          rw [e1]
          exact post_val R h (.int _)
    · exact h.elim
  · exact h.elim) hg hm (by decide +kernel) ha (he := he) (hpl := hpl)
theorem srt_uniq : ∀ {a b : List Int}, a.Perm b → a.Pairwise (· ≤ ·) → b.Pairwise (· ≤ ·) → a = b
  | [], b, p, _, _ => (List.Perm.nil_eq p)
  | x :: a, [], p, _, _ => absurd p.length_eq (by simp)
  | x :: a, y :: b, p, ha, hb => by
    rw [List.pairwise_cons] at ha hb
    have hx : x ∈ y :: b := p.subset List.mem_cons_self
    have hy : y ∈ x :: a := p.symm.subset List.mem_cons_self
    have e : x = y := by
      rcases List.mem_cons.mp hx with q | q
      · exact q
      · rcases List.mem_cons.mp hy with q2 | q2
        · exact q2.symm
        · have := ha.1 y q2; have := hb.1 x q; omega
    subst e
    rw [srt_uniq (List.Perm.cons_inv p) ha.2 hb.2]
def srt (ns : List Int) : List Int := ns.mergeSort fun i j => decide (i ≤ j)
theorem srt_ok (ns : List Int) : (srt ns).Perm ns ∧ (srt ns).Pairwise (· ≤ ·) := by
  refine ⟨List.mergeSort_perm _ _, ?_⟩
  have := List.pairwise_mergeSort (le := fun i j : Int => decide (i ≤ j)) (fun a b c h1 h2 => by simp at h1 h2 ⊢; omega) (fun a b => by simp; omega) ns
  exact this.imp fun h => by simpa using h
def sortedK : D → M RV
  | .lst xs => fun e => match intsOf xs with
    | some ns => .ok (.own (.lst ((srt ns).map D.int))) e
    | none => .bad
  | _ => M.bad
theorem reps_int {K : PySem.W.Frag} {mg : Mg} {F : Hp} : ∀ ns : List Int, Reps K mg F (ns.map V.int) (ns.map D.int)
  | [] => .nil
  | n :: r => .cons (.int n) (reps_int r)
theorem de_sorted (hg : Gl X "sorted") (hm : X.mg "sorted" = none) (ha : DE X W a f) (he : starEach [a] X.env = (false, eval a X.env) :: starEach [] X.env := by rfl) (hpl : (backTo pos (starEach [] X.env)).any (·.1) = false := by rfl) :
    DE X W (.Call (.Name "sorted" p) [a] [] pos) (rd1 f sortedK) := de_b1 cr_sortedI (fun F H e σ x d Q R rx h => by
  unfold sortedK at h
  split at h
  · obtain ⟨l, vs, rfl, q, r⟩ := rx
    split at h
    · rename_i ns w
      rw [Reps.ints r w] at q
      refine ⟨l, ns, rfl, q, fun ns' p pe so hp => ?_⟩
      have e1 : ns' = srt ns := srt_uniq (pe.trans (srt_ok ns).1.symm) so (srt_ok ns).2
      rw [e1]
      exact post_newL R h (reps_int _) hp
    · exact h.elim
  · exact h.elim) hg hm (by decide +kernel) ha (he := he) (hpl := hpl)
end
end Y

set_option Elab.async false
set_option linter.all false
set_option maxRecDepth 100000
set_option maxHeartbeats 4000000
namespace Y
open PySem PySem.Spec L2 PyProof.Rows
set_option autoImplicit false
variable [TB]
/-! ### tuple * 1, products of both kinds, list(range ..), ranges of any size -/
theorem tuple_mul1 (l : Addr) (items : Array Value) (n : Nat) (sl : Array (Option Value)) (dd : Option Addr) (x : Int) (u : Tok) (c0 : (decide (x < -(2 ^ 63)) || decide (x ≥ 2 ^ 63)) = false) (c1 : (items.isEmpty || x == 1) = true) :
    Meets (Builtin.«tuple.__mul__» ⟨[.ref l, .int x u], []⟩) (fun _ R s => s.heap.get? l = some { cls := .type "tuple", dict := dd, data := .seq items n, slots := sl } ∧
      R (.ok (.ret (Value.ref l))) s) :=
  .of_wp fun prog w A R s h => by
    obtain ⟨hp, g, d, tk, os⟩ := s
    obtain ⟨hl, h⟩ := h
    have f1 := AutoSeq1.idx_int
    wp_walk using wpAny_loadPart' hl
    repeat (first
      | (refine wpAny_ite_false (decide_eq_false (by rw [c0]; exact Bool.false_ne_true)) ?_; wp_walk using wpAny_loadPart' hl)
      | (refine wpAny_ite_true (decide_eq_true c1) ?_; wp_walk using wpAny_loadPart' hl))
    exact ⟨_, rfl, h⟩
def rRepT1 (K : PySem.W.Frag) : R2 := fun x y H Q => ∃ l k xs, x = .ref l ∧ y = .int k ∧ SqT K H l xs ∧ (xs = [] ∨ k = 1) ∧ -1000 ≤ k ∧ k ≤ 1000 ∧ Q (.ref l) H
theorem op_repT1 {X : Cx} : OpR X (binaryOp .Mult) (rRepT1 X.K) := by
  intro pins s σ H x y v u Q I rx ry h
  obtain ⟨l, k, xs, rfl, rfl, hT, hne, h1, h2, q⟩ := h
  cases rx
  obtain ⟨t, rfl⟩ := ry
  obtain ⟨its, r, ⟨⟨cls, dd, data, sl⟩, ho, hc, n, hd⟩, hs⟩ := I.tuple hT
  simp only at hc hd
  subst hc hd
  have hle : its.length = xs.length := r.length.symm
  have c0 : (decide (k < -(2 ^ 63)) || decide (k ≥ 2 ^ 63)) = false := by
    rw [decide_eq_false (by omega), decide_eq_false (by omega)] <;> rfl
  have c1 : (its.toArray.isEmpty || k == 1) = true := by
    rcases hne with z | z
    · rw [z] at hle
      have : its = [] := List.eq_nil_of_length_eq_zero hle
      subst this
      rfl
    · subst z
      simp
  refine wpAny_binaryOp_repeat_ref (T := "tuple") (U := "int") (by decide) ⟨_, ho, rfl⟩ (fun s' => typeIs_int s' k t) noFill_tuple_mul F.fills_int_mul F.slot_int_rmul repeat_tuple F.slot_int_index.lookup
    (call_meets F.slot_int_rmul (typeIs_int s k t) F.entry_int_rmul (F.args_int_rmul_2 _ _) (int_rmul_tuple k t l its.toArray n dd sl)
      ⟨ho, rfl, ⟨_, ho, rfl⟩, call_meets F.slot_tuple_mul ⟨_, ho, rfl⟩ F.entry_tuple_mul (F.args_tuple_mul_2 _ _) (tuple_mul1 l its.toArray n sl dd k t c0 c1) ⟨ho, ?_⟩⟩)
  exact ⟨.ref l, H, I, rfl, q⟩
def mulK : D → D → M RV
  | .int i, .int j => mulI (.int i) (.int j)
  | .tup xs, .int k => fun e => if xs ≠ [] ∧ 2 ≤ k ∧ k ≤ 1000 ∧ xs.length ≤ 1000 then .ok (.val (.tup (List.replicate k.toNat xs).flatten)) e else if (xs = [] ∨ k = 1) ∧ -1000 ≤ k ∧ k ≤ 1000 then .ok (.val (.tup xs)) e else .bad
  | _, _ => M.bad
section
variable {X : Cx} {W : WX} {a b tg : Expr} {f g : M RV} {pos p p2 pos2 : Pos}
theorem k2_mulK {K : PySem.W.Frag} {mg : Mg} : K2 K mg W (fun x y H Q => rI (fun i j => (-(2 ^ 64) < i ∧ i < 2 ^ 64) ∨ (-(2 ^ 64) < j ∧ j < 2 ^ 64)) (fun i j => .int (i * j)) x y H Q ∨ rRepT K x y H Q ∨ rRepT1 K x y H Q) mulK := by
  intro F H e σ x y d d' Q R rx ry h
  unfold mulK at h
  split at h
  · rename_i i j
    unfold mulI kI2 at h
    dsimp only at h
    by_cases c : (-(2 ^ 64) < i ∧ i < 2 ^ 64) ∨ (-(2 ^ 64) < j ∧ j < 2 ^ 64)
    · rw [if_pos c] at h
      exact .inl ⟨i, j, rx, ry, c, post_val R h (.int _)⟩
    · rw [if_neg c] at h
      exact h.elim
  · rename_i xs k
    obtain ⟨l, vs, rfl, q, r⟩ := rx
    split at h
    · rename_i hk
      cases ry
      exact .inr (.inl ⟨l, k, vs, rfl, rfl, sqT_mono R.sub q, fun z => hk.1 (by rw [z] at r; cases r; rfl), hk.2.1, hk.2.2.1, by rw [r.length]; exact hk.2.2.2, fun p hp => post_newT R h (reps_rep r _) hp⟩)
    · split at h
      · rename_i hk
        cases ry
        refine .inr (.inr ⟨l, k, vs, rfl, rfl, sqT_mono R.sub q, hk.1.imp_left (fun z => ?_), hk.2.1, hk.2.2, post_val R h (.tup q r)⟩)
        rw [z] at r; cases r; rfl
      · exact h.elim
  · exact h.elim
theorem de_mulK (ha : DE X W a f) (hb : DE X W b g) : DE X W (.BinOp a .Mult b pos) (rd2 f g mulK) := de_bin (op_mul.or (op_repT.or op_repT1)) k2_mulK ha hb
/-! list(range(..)) -/
def lrK (i j : Int) : M RV := fun e => if (-(2 ^ 62) ≤ i ∧ i < 2 ^ 62 ∧ -(2 ^ 62) ≤ j ∧ j < 2 ^ 62) ∧ (j - i).toNat ≤ 2 ^ 24 then .ok (.own (.lst (rangeD i (j - i).toNat))) e else .bad
def eLR1 (f : M RV) : M RV := M.bind f fun r => fun e => match rdat e r with
  | some (.int n) => lrK 0 n e
  | _ => .bad
def eLR2 (f g : M RV) : M RV := rd2 f g fun d d' => match d, d' with
  | .int i, .int j => lrK i j
  | _, _ => M.bad
theorem reps_rg {K : PySem.W.Frag} {mg : Mg} {F : Hp} (i j : Int) : Reps K mg F (rgV i j) (rangeD i (j - i).toNat) := by
  unfold rgV rangeD
  generalize List.range (j - i).toNat = l
  induction l with
  | nil => exact .nil
  | cons x r ih => exact .cons (.int _) ih
theorem lrK_ok {K : PySem.W.Frag} {mg : Mg} {F H : Hp} {e : Sl} {σ : L2.St} {Q : VK} {i j : Int} (R : Rel K mg F e σ H) (h : post K mg W (rV K mg) F H e σ (lrK i j e) Q) : RgOk i j ∧ ∀ q, H q = none → Q (.ref q) (upd H q (.lst (rgV i j))) := by
  unfold lrK at h
  split at h
  · rename_i c
    exact ⟨⟨c.1.1, c.1.2.1, c.1.2.2.1, c.1.2.2.2, c.2⟩, fun q hq => post_newL R h (reps_rg i j) hq⟩
  · exact h.elim
theorem de_LR1 (hc : X.calm = true) (hg : Gl X "list") (hm : X.mg "list" = none) (hg2 : Gl X "range") (hm2 : X.mg "range" = none) (ha : DE X W a f)
    (na : starEach [a] X.env = (false, eval a X.env) :: starEach [] X.env := by rfl) (nb : starEach [.Call (.Name "range" p2) [a] [] pos2] X.env = (false, eval (.Call (.Name "range" p2) [a] [] pos2) X.env) :: starEach [] X.env := by rfl) :
    DE X W (.Call (.Name "list" p) [.Call (.Name "range" p2) [a] [] pos2] [] pos) (eLR1 f) := peW (pe_listRg hc hg hm (prg_1 hg2 hm2 ha na) nb) fun σ H Q ⟨e, F, R, h⟩ => by
  refine ⟨e, F, R, post_imp (post_seq up_V h) ?_⟩
  rintro x H1 ⟨r1, e1, F1, q1, R1, s1, h1⟩
  split at h1
  · rename_i n w
    exact ⟨n, R1.rd q1 w, lrK_ok R1 h1⟩
  · exact h1.elim
theorem de_LR2 (hc : X.calm = true) (hg : Gl X "list") (hm : X.mg "list" = none) (hg2 : Gl X "range") (hm2 : X.mg "range" = none) (ha : DE X W a f) (hb : DE X W b g)
    (na : starEach [a, b] X.env = (false, eval a X.env) :: starEach [b] X.env := by rfl) (nb0 : starEach [b] X.env = (false, eval b X.env) :: starEach [] X.env := by rfl) (hp2 : (backTo pos2 (starEach [b] X.env)).any (·.1) = false := by rfl) (nb : starEach [.Call (.Name "range" p2) [a, b] [] pos2] X.env = (false, eval (.Call (.Name "range" p2) [a, b] [] pos2) X.env) :: starEach [] X.env := by rfl) :
    DE X W (.Call (.Name "list" p) [.Call (.Name "range" p2) [a, b] [] pos2] [] pos) (eLR2 f g) := peW (pe_listRg hc hg hm (prg_2 hg2 hm2 ha hb na nb0 hp2) nb) fun σ H Q h =>
  rd2_ok (r := fun x y H Q => ∃ i j, x = .int i ∧ y = .int j ∧ RgOk i j ∧ ∀ q, H q = none → Q (.ref q) (upd H q (.lst (rgV i j)))) (fun F H e σ x y d d' Q R rx ry h => by
    split at h
    · rename_i i j
      exact ⟨i, j, rx, ry, lrK_ok R h⟩
    · exact h.elim) h
end
end Y

set_option Elab.async false
set_option linter.all false
set_option maxRecDepth 100000
set_option maxHeartbeats 4000000
namespace Y
open PySem PySem.Spec L2 PyProof.Rows
set_option autoImplicit false
variable [TB]
/-! ### ranges of any size, walked -/
theorem turn_longrange {P : Program} {w : World} {K : PySem.W.Frag} {tg : Expr} (it : Addr) (lo : Int) (n : Nat) : Turn P w K tg (Itr lo n) [it] it (fun i h => IsLongIter h it (lo + (i : Nat) * 1) ((n : Int) - (i : Nat)) 1) where
  mem := by simp
  obj := fun i h st b hb => by
    have e : b = it := by simpa using hb
    subst e
    exact ⟨_, st, fun v z => by
      have z' : Data.fields _ = Data.cell v := z
      cases z'⟩
  keep := fun i h h' st k => k it (by simp) _ st
  item := by
    intro X hP hw hK hc i pins s σ H E I hf st hg
    subst hP hw hK
    obtain ⟨f0, f1, f2, f3, f4, f5⟩ := hf it (by simp)
    have W := Walks.longrange (prog := X.prog) (w := X.w) (I.ok.hd hc) it lo 1 n
    refine W.item i s _ _ hg st fun v h' tk hv st' kk => ?_
    obtain ⟨t, rfl⟩ := hv
    have I1 : Inv X pins σ H { s with heap := h', toks := tk } := I.turned (fun b o hb e => kk b o (by simpa using hb) e) f0 f1 f3 f4 f5
    refine ⟨_, rfl, go_of (s := { s with heap := h', toks := tk }) (n := "longrange_iterator") st' rfl rfl (by decide) ⟨.int (lo + i), H, I1, ⟨t, ?_⟩, ⟨rfl, rfl⟩, st', fun b hb => (hf b hb).1⟩⟩
    rw [Int.mul_one]
  done := by
    intro X hP hw hK hc i pins s σ H E I hf st hg
    subst hP hw hK
    obtain ⟨f0, f1, f2, f3, f4, f5⟩ := hf it (by simp)
    exact wpAny_pyNext_long_end (I.ok.hd hc) st (by have : n ≤ i := hg; omega) fun h' eb => ⟨rfl, I.turned (t' := s.toks) (fun b o hb e => eb b o hb e) f0 f1 f3 f4 f5⟩
  self := fun _ _ _ _ _ st h => wpAny_pyIter_longiter st h
section
variable {X : Cx} {tg : Expr}
theorem range_itW {pins : List (Addr × Obj)} {σ : L2.St} {H : Hp} {s : Shared} {R : It → Hp → Prop} {E : Value → Shared → Prop} {lo hi : Int} {t u v : Tok} {tk : Nat} (I : Inv X pins σ H s)
    (q : R (Itr lo (hi - lo).toNat) H) : wpAny (model X.prog X.w) X.A (pyIter (.ref s.heap.objs.size)) (PIE X pins σ tg R) E { s with heap := s.heap.push { cls := .type "range", data := .fields #[.int lo t, .int hi u, .int 1 v] }, toks := tk } := by
  have I1 : Inv X pins σ H { s with heap := s.heap.push { cls := .type "range", data := .fields #[.int lo t, .int hi u, .int 1 v] }, toks := tk } := I.kept fun b o e => Heap.get?_push_of_some _ e
  have e1 : lo + ((0 : Nat) : Int) * 1 = lo := by simp
  have e2 : (((hi - lo).toNat : Nat) : Int) - ((0 : Nat) : Int) = Builtin.Range.rangeSize lo hi 1 := by rw [rangeSize_one]; split <;> omega
  have e3 : ∀ b, b ∈ [(s.heap.push { cls := .type "range", data := .fields #[.int lo t, .int hi u, .int 1 v] }).objs.size] → b = (s.heap.push { cls := .type "range", data := .fields #[.int lo t, .int hi u, .int 1 v] }).objs.size := fun b hb => by simpa using hb
  cases sm : Builtin.Range.small lo hi 1 with
  | true =>
    refine wpAny_pyIter_range (IsRange.new ..) sm ?_
    refine ⟨(s.heap.push { cls := .type "range", data := .fields #[.int lo t, .int hi u, .int 1 v] }).objs.size, [(s.heap.push { cls := .type "range", data := .fields #[.int lo t, .int hi u, .int 1 v] }).objs.size], _, _, H, rfl,
      I1.kept (t' := tk) fun b o e => Heap.get?_push_of_some _ e, turn_range _ lo (hi - lo).toNat, ?_, fun b hb => ?_, q⟩
    · show IsRangeIter _ _ (lo + ((0 : Nat) : Int) * 1) ((((hi - lo).toNat : Nat) : Int) - ((0 : Nat) : Int)) 1
      rw [e1, e2]
      exact Heap.get?_push_size _ rfl
    · have e := e3 b hb
      subst e
      exact I1.fpOk (Nat.le_refl _) (I1.hok.fresh (Nat.le_refl _))
  | false =>
    refine wpAny_pyIter_longrange (IsRange.new ..) sm ?_
    refine ⟨(s.heap.push { cls := .type "range", data := .fields #[.int lo t, .int hi u, .int 1 v] }).objs.size, [(s.heap.push { cls := .type "range", data := .fields #[.int lo t, .int hi u, .int 1 v] }).objs.size], _, _, H, rfl,
      I1.kept (t' := tk) fun b o e => Heap.get?_push_of_some _ e, turn_longrange _ lo (hi - lo).toNat, ?_, fun b hb => ?_, q⟩
    · show IsLongIter _ _ (lo + ((0 : Nat) : Int) * 1) ((((hi - lo).toNat : Nat) : Int) - ((0 : Nat) : Int)) 1
      rw [e1, e2]
      exact Heap.get?_push_size _ rfl
    · have e := e3 b hb
      subst e
      exact I1.fpOk (Nat.le_refl _) (I1.hok.fresh (Nat.le_refl _))
def iRngW1 (ta : TA) : TI := fun σ H R => ta σ H fun vs H1 => ∃ j : Int, vs = [.int j] ∧ R (Itr 0 j.toNat) H1
def iRngW2 (ta : TA) : TI := fun σ H R => ta σ H fun vs H1 => ∃ i j : Int, vs = [.int i, .int j] ∧ R (Itr i (j - i).toNat) H1
theorem pi_rangeW1 {a : Expr} {ta : TA} {p pos : Pos} (hg : Gl X "range") (hm : X.mg "range" = none) (ha : PA X [a] ta) (hs : starEach [a] X.env = [(false, eval a X.env)] := by rfl) : PI X tg (.Call (.Name "range" p) [a] [] pos) (iRngW1 ta) := by
  refine ⟨fun pins s σ H R I h => ?_⟩
  refine Call_ (ld_blt I hg hm boot_range (PyProof.Rows.callWith_type1 (thn (ha.run pos pins s σ H _ I h) fun us s1 ⟨vs, H1, I1, r1, q1⟩ => ?_) hs rfl))
  obtain ⟨j, e, q⟩ := q1
  subst e
  cases r1 with
  | cons r rr =>
    cases rr
    obtain ⟨t, rfl⟩ := r
    exact call_range_1 (range_itW I1 (by simpa using q))
theorem pi_rangeW2 {a b : Expr} {ta : TA} {p pos : Pos} (hg : Gl X "range") (hm : X.mg "range" = none) (ha : PA X [a, b] ta) (hs : starEach [a, b] X.env = [(false, eval a X.env), (false, eval b X.env)] := by rfl) (hs2 : starEach [b] X.env = [(false, eval b X.env)] := by rfl) :
    PI X tg (.Call (.Name "range" p) [a, b] [] pos) (iRngW2 ta) := by
  refine ⟨fun pins s σ H R I h => ?_⟩
  refine Call_ (ld_blt I hg hm boot_range (PyProof.Rows.callWith_type1 (thn (ha.run pos pins s σ H _ I h) fun us s1 ⟨vs, H1, I1, r1, q1⟩ => ?_) (by rw [hs, hs2]) (by rw [hs2]; rfl)))
  obtain ⟨i, j, e, q⟩ := q1
  subst e
  cases r1 with
  | cons r rr =>
    cases rr with
    | cons r' rr =>
      cases rr
      obtain ⟨t, rfl⟩ := r
      obtain ⟨t', rfl⟩ := r'
      exact call_range_2 (range_itW I1 q)
end
def itW1 (f : M RV) : M (List D) := M.bind f fun r => fun e => match rdat e r with
  | some (.int j) => .ok (rangeD 0 j.toNat) e
  | _ => .bad
def itW2 (f g : M RV) : M (List D) := M.bind f fun r => M.bind g fun r' => fun e => match rdat e r, rdat e r' with
  | some (.int i), some (.int j) => .ok (rangeD i (j - i).toNat) e
  | _, _ => .bad
section
variable {X : Cx} {W : WX} {a b tg : Expr} {f g : M RV} {pos p : Pos}
theorem di_rangeW1 (hg : Gl X "range") (hm : X.mg "range" = none) (ha : DE X W a f) (hs : starEach [a] X.env = [(false, eval a X.env)] := by rfl) (hs' : starEach [a] X.env = (false, eval a X.env) :: starEach [] X.env := by rfl) :
    DI X W tg (.Call (.Name "range" p) [a] [] pos) (itW1 f) := piW (pi_rangeW1 hg hm (pa_cons ha pa_nil hs') hs) fun σ H Q ⟨e, F, R, h⟩ => by
  refine ⟨e, F, R, ?_⟩
  unfold itW1 M.bind at h
  cases w : f e with
  | bad => rw [w] at h; exact h.elim
  | ex x e' => rw [w] at h; exact h
  | ok r e1 =>
    rw [w] at h
    dsimp only at h
    intro x F1 H1 s1 R1 q1
    split at h
    · rename_i ds e2 w2
      split at w2
      · rename_i j wj
        cases w2
        exact ⟨j, congrArg (· :: []) (R1.rd q1 wj), h _ F1 H1 s1 R1 (walkD_range 0 j.toNat)⟩
      · cases w2
    · rename_i x e2 w2
      split at w2 <;> cases w2
    · exact h.elim
theorem di_rangeW2 (hg : Gl X "range") (hm : X.mg "range" = none) (ha : DE X W a f) (hb : DE X W b g) (hs : starEach [a, b] X.env = [(false, eval a X.env), (false, eval b X.env)] := by rfl) (hs2 : starEach [b] X.env = [(false, eval b X.env)] := by rfl)
    (he : starEach [a, b] X.env = (false, eval a X.env) :: starEach [b] X.env := by rfl) (he2 : starEach [b] X.env = (false, eval b X.env) :: starEach [] X.env := by rfl) :
    DI X W tg (.Call (.Name "range" p) [a, b] [] pos) (itW2 f g) := piW (pi_rangeW2 hg hm (pa_cons ha (pa_cons hb pa_nil he2) he) hs hs2) fun σ H Q ⟨e, F, R, h⟩ => by
  refine ⟨e, F, R, ?_⟩
  unfold itW2 M.bind at h
  cases w : f e with
  | bad => rw [w] at h; exact h.elim
  | ex x e' => rw [w] at h; exact h
  | ok r e1 =>
    rw [w] at h
    dsimp only at h
    intro x F1 H1 s1 R1 q1
    refine ⟨e1, F1, R1, ?_⟩
    cases w' : g e1 with
    | bad => rw [w'] at h; exact h.elim
    | ex x e' => rw [w'] at h; exact fun cls d F' H' s q z => h cls d F' H' (s1.trans s) q z
    | ok r' e2 =>
      rw [w'] at h
      dsimp only at h
      intro y F2 H2 s2 R2 q2
      have q1 := q1.step s2
      split at h
      · rename_i ds e3 w2
        split at w2
        · rename_i i j wi wj
          cases w2
          have e1 := R2.rd q1 wi
          have e2 := R2.rd q2 wj
          exact ⟨i, j, by rw [e1, e2], h _ F2 H2 (s1.trans s2) R2 (walkD_range i (j - i).toNat)⟩
        · cases w2
      · rename_i x e3 w2
        split at w2 <;> cases w2
      · exact h.elim
end
end Y

set_option Elab.async false
set_option linter.all false
set_option maxRecDepth 100000
set_option maxHeartbeats 1000000
namespace Y
open PySem L2
set_option autoImplicit false
/-! ### equality of plain data, told over D -/
mutual
def okD : D → Bool
  | .non => true
  | .bl _ => true
  | .int _ => true
  | .str x => PyData.strOk x
  | .lst xs => okDs xs
  | .tup xs => okDs xs
  | .ins _ _ => false
  | .raw _ => false
  | .dK _ => false
  | .dT _ => false
  | .exc _ _ => false
  | .clo _ _ => false
  | .fnv _ => false
def okDs : List D → Bool
  | [] => true
  | x :: xs => okD x && okDs xs
end
mutual
def dpD : D → Nat
  | .lst xs => dpDs xs + 1
  | .tup xs => dpDs xs + 1
  | .non => 0
  | .bl _ => 0
  | .int _ => 0
  | .str _ => 0
  | .ins _ _ => 0
  | .raw _ => 0
  | .dK _ => 0
  | .dT _ => 0
  | .exc _ _ => 0
  | .clo _ _ => 0
  | .fnv _ => 0
def dpDs : List D → Nat
  | [] => 0
  | x :: xs => max (dpD x) (dpDs xs)
end
mutual
def eqd : D → D → Bool
  | .non, .non => true
  | .bl a, .bl b => a == b
  | .bl a, .int j => (if a then 1 else 0) == j
  | .int i, .bl b => i == (if b then 1 else 0)
  | .int i, .int j => decide (i = j)
  | .str x, .str y => x == y
  | .lst xs, .lst ys => eqds xs ys
  | .tup xs, .tup ys => eqds xs ys
  | _, _ => false
def eqds : List D → List D → Bool
  | [], [] => true
  | x :: xs, y :: ys => eqd x y && eqds xs ys
  | [], _ :: _ => false
  | _ :: _, [] => false
end
mutual
theorem okD_py : ∀ (d : D), okD d = true → ∃ p, toPy d = some p ∧ PyData.canLay0 p = true ∧ PyData.depth p = dpD d
  | .non, _ => ⟨_, rfl, by simp [PyData.canLay0], by simp [PyData.depth, dpD]⟩
  | .bl _, _ => ⟨_, rfl, by simp [PyData.canLay0], by simp [PyData.depth, dpD]⟩
  | .int _, _ => ⟨_, rfl, by simp [PyData.canLay0], by simp [PyData.depth, dpD]⟩
  | .str x, h => ⟨_, rfl, by simp only [PyData.canLay0]; simpa [okD] using h, by simp [PyData.depth, dpD]⟩
  | .lst xs, h => by
    obtain ⟨ps, h1, h2, h3⟩ := okDs_py xs (by simpa [okD] using h)
    exact ⟨.list ps, by unfold toPy; rw [h1]; rfl, by simpa [PyData.canLay0] using h2, by simp [PyData.depth, dpD, h3]⟩
  | .tup xs, h => by
    obtain ⟨ps, h1, h2, h3⟩ := okDs_py xs (by simpa [okD] using h)
    exact ⟨.tuple ps, by unfold toPy; rw [h1]; rfl, by simpa [PyData.canLay0] using h2, by simp [PyData.depth, dpD, h3]⟩
  | .ins _ _, h => by simp [okD] at h
  | .raw _, h => by simp [okD] at h
  | .dK _, h => by simp [okD] at h
  | .dT _, h => by simp [okD] at h
  | .exc _ _, h => by simp [okD] at h
  | .clo _ _, h => by simp [okD] at h
  | .fnv _, h => by simp [okD] at h
theorem okDs_py : ∀ (ds : List D), okDs ds = true → ∃ ps, toPys ds = some ps ∧ PyData.canLayAll0 ps = true ∧ PyData.depthAll ps = dpDs ds
  | [], _ => ⟨[], rfl, by simp [PyData.canLayAll0], by simp [PyData.depthAll, dpDs]⟩
  | d :: ds, h => by
    simp only [okDs, Bool.and_eq_true] at h
    obtain ⟨p, h1, h2, h3⟩ := okD_py d h.1
    obtain ⟨ps, g1, g2, g3⟩ := okDs_py ds h.2
    exact ⟨p :: ps, by unfold toPys; rw [h1, g1], by simp [PyData.canLayAll0, h2, g2], by simp [PyData.depthAll, dpDs, h3, g3]⟩
end
mutual
theorem eqd_py : ∀ (a b : D) (p q : PyData), toPy a = some p → toPy b = some q → PyData.eqv p q = eqd a b
  | a, b, p, q, ha, hb => by
    cases a <;> cases b <;> simp only [toPy, Option.map_eq_some_iff, Option.some.injEq, reduceCtorEq] at ha hb
    all_goals (try obtain ⟨ps, e1, rfl⟩ := ha)
    all_goals (try obtain ⟨qs, e2, rfl⟩ := hb)
    all_goals (try subst ha)
    all_goals (try subst hb)
    all_goals (try simp only [PyData.eqv, eqd])
    all_goals (try rfl)
    · exact eqds_py _ _ _ _ e1 e2
    · exact eqds_py _ _ _ _ e1 e2
theorem eqds_py : ∀ (a b : List D) (p q : List PyData), toPys a = some p → toPys b = some q → PyData.eqvAll p q = eqds a b
  | [], [], p, q, ha, hb => by cases ha; cases hb; simp [PyData.eqvAll, eqds]
  | x :: xs, [], p, q, ha, hb => by
    cases hb
    unfold toPys at ha
    split at ha
    · cases ha; simp [PyData.eqvAll, eqds]
    · cases ha
  | [], y :: ys, p, q, ha, hb => by
    cases ha
    unfold toPys at hb
    split at hb
    · cases hb; simp [PyData.eqvAll, eqds]
    · cases hb
  | x :: xs, y :: ys, p, q, ha, hb => by
    unfold toPys at ha hb
    split at ha
    · rename_i a1 a2 w1 w2
      cases ha
      split at hb
      · rename_i b1 b2 z1 z2
        cases hb
        simp only [PyData.eqvAll, eqds]
        rw [eqd_py x y _ _ w1 z1, eqds_py xs ys _ _ w2 z2]
      · cases hb
    · cases ha
end
theorem eqD_of {a b : D} (ha : okD a = true) (hb : okD b = true) (da : dpD a ≤ 64) (db : dpD b ≤ 64) : eqD a b = some (eqd a b) := by
  obtain ⟨p, a1, a2, a3⟩ := okD_py a ha
  obtain ⟨q, b1, b2, b3⟩ := okD_py b hb
  unfold eqD
  rw [a1, b1]
  dsimp only
  rw [if_pos ⟨by simp [SeqAt.shaped, a2, a3, da], by simp [SeqAt.shaped, b2, b3, db]⟩, eqd_py a b p q a1 b1]
theorem any_py (a : D) (p : PyData) (hp : toPy a = some p) : ∀ (xs : List D) (qs : List PyData), toPys xs = some qs → (qs.any fun z => PyData.eqv z p) = xs.any fun z => eqd z a
  | [], qs, h => by cases h; rfl
  | x :: xs, qs, h => by
    unfold toPys at h
    split at h
    · rename_i q qs' w1 w2
      cases h
      rw [List.any_cons, List.any_cons, eqd_py x a q p w1 hp, any_py a p hp xs qs' w2]
    · cases h
theorem inL_lst {a : D} {xs : List D} (ha : okD a = true) (hb : okDs xs = true) (da : dpD a ≤ 64) (db : dpDs xs ≤ 63) : inL a (.lst xs) = some (xs.any fun z => eqd z a) := by
  obtain ⟨p, a1, a2, a3⟩ := okD_py a ha
  obtain ⟨qs, b1, b2, b3⟩ := okDs_py xs hb
  unfold inL
  have b4 : toPy (.lst xs) = some (.list qs) := by unfold toPy; rw [b1]; rfl
  rw [a1, b4]
  dsimp only
  rw [if_pos ⟨by simp [SeqAt.shaped, a2, a3, da], by simp [SeqAt.shaped, PyData.canLay0, PyData.depth, b2, b3]; omega⟩, any_py a p a1 xs qs b1]
theorem inL_tup {a : D} {xs : List D} (ha : okD a = true) (hb : okDs xs = true) (da : dpD a ≤ 64) (db : dpDs xs ≤ 63) : inL a (.tup xs) = some (xs.any fun z => eqd z a) := by
  obtain ⟨p, a1, a2, a3⟩ := okD_py a ha
  obtain ⟨qs, b1, b2, b3⟩ := okDs_py xs hb
  unfold inL
  have b4 : toPy (.tup xs) = some (.tuple qs) := by unfold toPy; rw [b1]; rfl
  rw [a1, b4]
  dsimp only
  rw [if_pos ⟨by simp [SeqAt.shaped, a2, a3, da], by simp [SeqAt.shaped, PyData.canLay0, PyData.depth, b2, b3]; omega⟩, any_py a p a1 xs qs b1]
/-! typed lists -/
section
variable {α : Type} {f : α → D}
theorem okDs_map (h : ∀ a, okD (f a) = true) : ∀ xs : List α, okDs (xs.map f) = true
  | [] => by simp [okDs]
  | x :: xs => by simp [okDs, h x, okDs_map h xs]
theorem dpDs_map {n : Nat} (h : ∀ a, dpD (f a) ≤ n) : ∀ xs : List α, dpDs (xs.map f) ≤ n
  | [] => by simp [dpDs]
  | x :: xs => by
    have h1 := h x
    have h2 := dpDs_map h xs
    simp only [List.map_cons, dpDs]
    omega
theorem eqds_map [DecidableEq α] (h : ∀ a b, eqd (f a) (f b) = decide (a = b)) : ∀ xs ys : List α, eqds (xs.map f) (ys.map f) = decide (xs = ys)
  | [], [] => by simp [eqds]
  | x :: xs, [] => by simp [eqds]
  | [], y :: ys => by simp [eqds]
  | x :: xs, y :: ys => by
    simp only [List.map_cons, eqds, h x y, eqds_map h xs ys]
    by_cases h1 : x = y <;> by_cases h2 : xs = ys <;> simp [h1, h2]
theorem any_map [DecidableEq α] (h : ∀ a b, eqd (f a) (f b) = decide (a = b)) (x : α) : ∀ ys : List α, ((ys.map f).any fun z => eqd z (f x)) = decide (x ∈ ys)
  | [] => by simp
  | y :: ys => by
    rw [List.map_cons, List.any_cons, h y x, any_map h x ys]
    by_cases h1 : y = x
    · subst h1; simp
    · have h2 : ¬ x = y := fun z => h1 z.symm
      simp [h1, h2]
end
end Y

set_option Elab.async false
set_option linter.all false
set_option maxRecDepth 100000
set_option maxHeartbeats 4000000
namespace Y
open PySem L2
set_option autoImplicit false
variable [TB]
/-! ### reckoning with the later words -/
@[simp] theorem v_abs (i : Int) (e : Sl) : absK (.int i) e = .ok (.val (.int (if i < 0 then -i else i))) e := id rfl
def anyC (e : Sl) (bs : List Bool) : Res RV := .ok (.val (.bl (bs.any id))) e
@[simp] theorem v_anyC (e : Sl) (bs : List Bool) : anyC e bs = .ok (.val (.bl (bs.any id))) e := id rfl
@[simp] theorem v_any (xs : List D) (e : Sl) : anyK (.lst xs) e = oB (blsOf xs) (anyC e) := by
  unfold anyK
  dsimp only
  cases blsOf xs <;> rfl
def allC (e : Sl) (bs : List Bool) : Res RV := .ok (.val (.bl (bs.all id))) e
@[simp] theorem v_allC (e : Sl) (bs : List Bool) : allC e bs = .ok (.val (.bl (bs.all id))) e := id rfl
@[simp] theorem v_all (xs : List D) (e : Sl) : allK (.lst xs) e = oB (blsOf xs) (allC e) := by
  unfold allK
  dsimp only
  cases blsOf xs <;> rfl
def maxC (e : Sl) (ns : List Int) : Res RV := gB (decide (ns ≠ [])) (.ok (.val (.int (ns.foldl max (ns.headD 0)))) e)
@[simp] theorem v_maxC (e : Sl) (ns : List Int) : maxC e ns = gB (decide (ns ≠ [])) (.ok (.val (.int (ns.foldl max (ns.headD 0)))) e) := id rfl
@[simp] theorem v_maxL (xs : List D) (e : Sl) : maxL (.lst xs) e = oB (intsOf xs) (maxC e) := by
  unfold maxL
  dsimp only
  cases intsOf xs with
  | none => rfl
  | some ns =>
    show _ = gB (decide (ns ≠ [])) _
    cases ns with
    | nil => rfl
    | cons a b => rfl
def srtC (e : Sl) (ns : List Int) : Res RV := .ok (.own (.lst ((srt ns).map D.int))) e
@[simp] theorem v_srtC (e : Sl) (ns : List Int) : srtC e ns = .ok (.own (.lst ((srt ns).map D.int))) e := id rfl
@[simp] theorem v_sorted (xs : List D) (e : Sl) : sortedK (.lst xs) e = oB (intsOf xs) (srtC e) := by
  unfold sortedK
  dsimp only
  cases intsOf xs <;> rfl
@[simp] theorem v_mulKI (i j : Int) (e : Sl) : mulK (.int i) (.int j) e = gB (decide ((-(2 ^ 64) < i ∧ i < 2 ^ 64) ∨ (-(2 ^ 64) < j ∧ j < 2 ^ 64))) (.ok (.val (.int (i * j))) e) := v_mul i j e
theorem v_mulKT (xs : List D) (k : Nat) (e : Sl) (hk : k ≤ 1000) (hx : xs.length ≤ 1000) (h1 : 1 ≤ k) : mulK (.tup xs) (.int k) e = .ok (.val (.tup (List.replicate k xs).flatten)) e := by
  unfold mulK
  dsimp only
  by_cases c : xs ≠ [] ∧ (2 : Int) ≤ k ∧ (k : Int) ≤ 1000 ∧ xs.length ≤ 1000
  · rw [if_pos c]
    rfl
  · rw [if_neg c, if_pos]
    · by_cases z : xs = []
      · subst z; simp
      · have : k = 1 := by
          have : ¬ (2 : Int) ≤ k := fun w => c ⟨z, w, by omega, hx⟩
          omega
        subst this
        simp
    · refine ⟨?_, by omega, by omega⟩
      by_cases z : xs = []
      · exact .inl z
      · refine .inr ?_
        have : ¬ (2 : Int) ≤ k := fun w => c ⟨z, w, by omega, hx⟩
        omega
@[simp] theorem v_lrK (i j : Int) (e : Sl) : lrK i j e = gB (decide ((-4611686018427387904 ≤ i ∧ i < 4611686018427387904 ∧ -4611686018427387904 ≤ j ∧ j < 4611686018427387904) ∧ (j - i).toNat ≤ 16777216)) (.ok (.own (.lst (rangeD i (j - i).toNat))) e) := gB_if _ _
def lr1d (e : Sl) : D → Res RV
  | .int n => lrK 0 n e
  | _ => .bad
@[simp] theorem v_lr1d (e : Sl) (n : Int) : lr1d e (.int n) = lrK 0 n e := id rfl
def lr1c (r : RV) (e : Sl) : Res RV := oB (rdat e r) (lr1d e)
@[simp] theorem v_lr1c (r : RV) (e : Sl) : lr1c r e = oB (rdat e r) (lr1d e) := id rfl
@[simp] theorem v_eLR1 (f : M RV) (e : Sl) : eLR1 f e = (f e).bnd lr1c := by
  unfold eLR1
  rw [v_bind]
  cases f e with
  | bad => rfl
  | ex x e' => rfl
  | ok r e' =>
    rw [bnd_ok, bnd_ok, v_lr1c]
    cases rdat e' r with
    | none => rfl
    | some d => cases d <;> rfl
def lr2k : D → D → M RV
  | .int i, .int j => lrK i j
  | _, _ => M.bad
@[simp] theorem v_lr2k (i j : Int) (e : Sl) : lr2k (.int i) (.int j) e = lrK i j e := id rfl
@[simp] theorem v_eLR2 (f g : M RV) (e : Sl) : eLR2 f g e = rd2 f g lr2k e := by
  unfold eLR2
  congr 1
def itWd (e : Sl) : D → Res (List D)
  | .int j => .ok (rangeD 0 j.toNat) e
  | _ => .bad
@[simp] theorem v_itWd (e : Sl) (j : Int) : itWd e (.int j) = .ok (rangeD 0 j.toNat) e := id rfl
def itWc (r : RV) (e : Sl) : Res (List D) := oB (rdat e r) (itWd e)
@[simp] theorem v_itWc (r : RV) (e : Sl) : itWc r e = oB (rdat e r) (itWd e) := id rfl
@[simp] theorem v_itW1 (f : M RV) (e : Sl) : itW1 f e = (f e).bnd itWc := by
  unfold itW1
  rw [v_bind]
  cases f e with
  | bad => rfl
  | ex x e' => rfl
  | ok r e' =>
    rw [bnd_ok, bnd_ok, v_itWc]
    cases rdat e' r with
    | none => rfl
    | some d => cases d <;> rfl
def itW4 (e : Sl) (i : Int) : D → Res (List D)
  | .int j => .ok (rangeD i (j - i).toNat) e
  | _ => .bad
@[simp] theorem v_itW4 (e : Sl) (i j : Int) : itW4 e i (.int j) = .ok (rangeD i (j - i).toNat) e := id rfl
def itW5 (r' : RV) (e : Sl) : D → Res (List D)
  | .int i => oB (rdat e r') (itW4 e i)
  | _ => .bad
@[simp] theorem v_itW5 (r' : RV) (e : Sl) (i : Int) : itW5 r' e (.int i) = oB (rdat e r') (itW4 e i) := id rfl
def itW6 (r r' : RV) (e : Sl) : Res (List D) := oB (rdat e r) (itW5 r' e)
@[simp] theorem v_itW6 (r r' : RV) (e : Sl) : itW6 r r' e = oB (rdat e r) (itW5 r' e) := id rfl
def itW7 (g : M RV) (r : RV) (e : Sl) : Res (List D) := (g e).bnd (itW6 r)
@[simp] theorem v_itW7 (g : M RV) (r : RV) (e : Sl) : itW7 g r e = (g e).bnd (itW6 r) := id rfl
@[simp] theorem v_itW2 (f g : M RV) (e : Sl) : itW2 f g e = (f e).bnd (itW7 g) := by
  unfold itW2
  rw [v_bind]
  cases f e with
  | bad => rfl
  | ex x e' => rfl
  | ok r e' =>
    rw [bnd_ok, bnd_ok, v_itW7, v_bind]
    cases g e' with
    | bad => rfl
    | ex x e2 => rfl
    | ok r' e2 =>
      rw [bnd_ok, bnd_ok, v_itW6]
      cases rdat e2 r with
      | none => rfl
      | some d =>
        rw [oB_some]
        cases d with
        | int i =>
          rw [v_itW5]
          cases rdat e2 r' with
          | none => rfl
          | some d' => cases d' <;> rfl
        | _ => cases rdat e2 r' <;> rfl
/-! ### what holds behind a run -/
def wp {α : Type} (r : Res α) (Q : α → Sl → Prop) : Prop := match r with
  | .ok a e => Q a e
  | _ => False
section
variable {α β : Type} {r : Res α} {k : α → Sl → Res β} {Q Q' : α → Sl → Prop} {Z : β → Sl → Prop}
@[simp] theorem wp_ok (a : α) (e : Sl) : wp (.ok a e) Q = Q a e := rfl
@[simp] theorem wp_bad : wp (.bad : Res α) Q = False := rfl
@[simp] theorem wp_ex (x : Xn) (e : Sl) : wp (.ex x e : Res α) Q = False := rfl
theorem wp_bnd : wp (r.bnd k) Z = wp r (fun a e => wp (k a e) Z) := by cases r <;> rfl
theorem wp_imp (h : wp r Q) (i : ∀ a e, Q a e → Q' a e) : wp r Q' := by
  cases r with
  | ok a e => exact i a e h
  | _ => exact h
theorem wp_get (h : wp r Q) : ∃ a e, r = .ok a e ∧ Q a e := by
  cases r with
  | ok a e => exact ⟨a, e, rfl, h⟩
  | _ => exact h.elim
theorem wp_of {a : α} {e : Sl} (h : r = .ok a e) (q : Q a e) : wp r Q := by rw [h]; exact q
theorem wp_noEx : wp (noEx r) Q = wp r Q := by cases r <;> rfl
end
def floQ (I : Sl → Prop) (Q : Flo → Sl → Prop) : Flo → Sl → Prop
  | .nx, e => I e
  | .ct, e => I e
  | .bk, e => Q .nx e
  | .rt r, e => Q (.rt r) e
@[simp] theorem floQ_nx (I : Sl → Prop) (Q : Flo → Sl → Prop) (e : Sl) : floQ I Q .nx e = I e := rfl
@[simp] theorem floQ_ct (I : Sl → Prop) (Q : Flo → Sl → Prop) (e : Sl) : floQ I Q .ct e = I e := rfl
@[simp] theorem floQ_bk (I : Sl → Prop) (Q : Flo → Sl → Prop) (e : Sl) : floQ I Q .bk e = Q .nx e := rfl
@[simp] theorem floQ_rt (I : Sl → Prop) (Q : Flo → Sl → Prop) (r : RV) (e : Sl) : floQ I Q (.rt r) e = Q (.rt r) e := rfl
def runB (b : M Flo) (_u : Unit) (e : Sl) : Res Flo := b e
@[simp] theorem v_runB (b : M Flo) (u : Unit) (e : Sl) : runB b u e = b e := id rfl
/-- a loop by its invariant: what is left to walk, and the slots -/
theorem wp_for {t : D → M Unit} {b : M Flo} {Q : Flo → Sl → Prop} (I : List D → Sl → Prop) (step : ∀ d ds e, I (d :: ds) e → wp ((noEx (t d e)).bnd (runB b)) (floQ (I ds) Q)) (fin : ∀ e, I [] e → Q .nx e) : ∀ ds e, I ds e → wp (forRun t b ds e) Q
  | [], e, h => by rw [v_forN]; exact fin e h
  | d :: ds, e, h => by
    rw [v_forC]
    have s := step d ds e h
    cases q : noEx (t d e) with
    | bad => rw [q] at s; exact s
    | ex x e' => rw [q] at s; exact s
    | ok u e' =>
      rw [q, bnd_ok, v_runB] at s
      rw [bnd_ok, v_for1, wp_bnd]
      refine wp_imp s fun fl e2 h2 => ?_
      cases fl with
      | nx => rw [v_for2n]; exact wp_for I step fin ds e2 h2
      | ct => rw [v_for2c]; exact wp_for I step fin ds e2 h2
      | bk => rw [v_for2b]; exact h2
      | rt r => rw [v_for2r]; exact h2
end Y

set_option Elab.async false
set_option linter.all false
set_option maxRecDepth 100000
set_option maxHeartbeats 4000000
namespace Y
open PySem L2
set_option autoImplicit false
variable [TB]
/-! ### comprehensions and loops over typed lists -/
def lcS3 (vs : List Nat) (y : D) (e : Sl) : Res (Option D) := .ok (some y) (wip e vs)
@[simp] theorem v_lcS3 (vs : List Nat) (y : D) (e : Sl) : lcS3 vs y e = .ok (some y) (wip e vs) := id rfl
def lcF (r : RV) (e : Sl) : Res D := frz r e
@[simp] theorem v_lcF (r : RV) (e : Sl) : lcF r e = frz r e := id rfl
def lcS2 (f : M RV) (vs : List Nat) (c : Bool) (e : Sl) : Res (Option D) := match c with
  | true => ((f e).bnd lcF).bnd (lcS3 vs)
  | false => .ok none (wip e vs)
@[simp] theorem v_lcS2t (f : M RV) (vs : List Nat) (e : Sl) : lcS2 f vs true e = ((f e).bnd lcF).bnd (lcS3 vs) := id rfl
@[simp] theorem v_lcS2f (f : M RV) (vs : List Nat) (e : Sl) : lcS2 f vs false e = .ok none (wip e vs) := id rfl
def lcS1 (p : M Bool) (f : M RV) (vs : List Nat) (_u : Unit) (e : Sl) : Res (Option D) := (p e).bnd (lcS2 f vs)
@[simp] theorem v_lcS1 (p : M Bool) (f : M RV) (vs : List Nat) (u : Unit) (e : Sl) : lcS1 p f vs u e = (p e).bnd (lcS2 f vs) := id rfl
def lcStep (t : D → M Unit) (p : M Bool) (f : M RV) (vs : List Nat) (d : D) (e : Sl) : Res (Option D) := (t d e).bnd (lcS1 p f vs)
@[simp] theorem v_lcStep (t : D → M Unit) (p : M Bool) (f : M RV) (vs : List Nat) (d : D) (e : Sl) : lcStep t p f vs d e = (t d e).bnd (lcS1 p f vs) := id rfl
section
variable {α : Type} {enc : α → D} {t : D → M Unit} {p : M Bool} {f : M RV} {vs : List Nat} {e : Sl}
theorem lc_step {d : D} {e' : Sl} {o : Option D} {r acc : List D} (hl : acc.length < sizeLine) (h : lcStep t p f vs d e = .ok o e') : lcRun t p f vs (d :: r) acc e = lcRun t p f vs r (acc ++ o.toList) e' := by
  rw [v_lcStep] at h
  cases h1 : t d e with
  | bad => rw [h1] at h; cases h
  | ex x e1 => rw [h1] at h; cases h
  | ok u e1 =>
    rw [h1, bnd_ok, v_lcS1] at h
    cases h2 : p e1 with
    | bad => rw [h2] at h; cases h
    | ex x e2 => rw [h2] at h; cases h
    | ok c e2 =>
      rw [h2, bnd_ok] at h
      cases c with
      | false =>
        rw [v_lcS2f] at h
        cases h
        rw [lc_skip h1 h2, Option.toList_none, List.append_nil]
      | true =>
        rw [v_lcS2t] at h
        cases h3 : (f e2).bnd lcF with
        | bad => rw [h3] at h; cases h
        | ex x e3 => rw [h3] at h; cases h
        | ok y e3 =>
          rw [h3, bnd_ok, v_lcS3] at h
          cases h
          rw [lc_keep h1 h2 h3 hl]
          rfl
theorem lc_opt (r : α → Option D) : ∀ (xs : List α) (acc : List D), acc.length + xs.length ≤ 10000 → (∀ a ∈ xs, lcStep t p f vs (enc a) e = .ok (r a) e) → lcRun t p f vs (xs.map enc) acc e = .ok (acc ++ xs.filterMap r) e
  | [], acc, _, _ => by rw [List.map_nil, v_lcN, List.filterMap_nil, List.append_nil]
  | a :: xs, acc, hl, h => by
    rw [List.length_cons] at hl
    rw [List.map_cons, lc_step (small_line (by omega)) (h a List.mem_cons_self), lc_opt r xs _ (by
      rw [List.length_append]
      have : (r a).toList.length ≤ 1 := by cases r a <;> simp
      omega) fun b hb => h b (List.mem_cons_of_mem _ hb), List.append_assoc]
    congr 2
    cases q : r a with
    | none => rw [List.filterMap_cons_none q]; rfl
    | some y => rw [List.filterMap_cons_some q]; rfl
/-- [g a for a in xs] -/
theorem lc_map (g : α → D) (xs : List α) (hl : xs.length ≤ 10000) (h : ∀ a ∈ xs, lcStep t p f vs (enc a) e = .ok (some (g a)) e) : lcRun t p f vs (xs.map enc) [] e = .ok (xs.map g) e := by
  rw [lc_opt (fun a => some (g a)) xs [] (by simpa using hl) h, List.nil_append]
  congr 1
  clear hl h
  induction xs with
  | nil => rfl
  | cons a r ih => rw [List.filterMap_cons, ih]; rfl
/-- [g a for a in xs if q a] -/
theorem lc_filter (q : α → Bool) (g : α → D) (xs : List α) (hl : xs.length ≤ 10000) (h : ∀ a ∈ xs, lcStep t p f vs (enc a) e = .ok (if q a then some (g a) else none) e) : lcRun t p f vs (xs.map enc) [] e = .ok ((xs.filter q).map g) e := by
  rw [lc_opt (fun a => if q a then some (g a) else none) xs [] (by simpa using hl) h, List.nil_append]
  congr 1
  clear hl h
  induction xs with
  | nil => rfl
  | cons a r ih =>
    cases w : q a with
    | true => rw [List.filterMap_cons_some (by rw [w]; rfl), List.filter_cons_of_pos w, ih]; rfl
    | false => rw [List.filterMap_cons_none (by rw [w]; rfl), List.filter_cons_of_neg (by simp [w]), ih]
end
section
variable {α σ : Type} {ea : α → D} {t : D → M Unit} {b : M Flo}
theorem for_step {d : D} {ds : List D} {e e' : Sl} (h : (noEx (t d e)).bnd (runB b) = .ok .nx e') : forRun t b (d :: ds) e = forRun t b ds e' := by
  rw [v_forC]
  cases q : noEx (t d e) with
  | bad => rw [q] at h; cases h
  | ex x e1 => rw [q] at h; cases h
  | ok u e1 =>
    rw [q, bnd_ok, v_runB] at h
    rw [bnd_ok, v_for1, h, bnd_ok, v_for2n]
theorem for_stepC {d : D} {ds : List D} {e e' : Sl} (h : (noEx (t d e)).bnd (runB b) = .ok .ct e') : forRun t b (d :: ds) e = forRun t b ds e' := by
  rw [v_forC]
  cases q : noEx (t d e) with
  | bad => rw [q] at h; cases h
  | ex x e1 => rw [q] at h; cases h
  | ok u e1 =>
    rw [q, bnd_ok, v_runB] at h
    rw [bnd_ok, v_for1, h, bnd_ok, v_for2c]
theorem for_ret {d : D} {ds : List D} {e e' : Sl} {r : RV} (h : (noEx (t d e)).bnd (runB b) = .ok (.rt r) e') : forRun t b (d :: ds) e = .ok (.rt r) e' := by
  rw [v_forC]
  cases q : noEx (t d e) with
  | bad => rw [q] at h; cases h
  | ex x e1 => rw [q] at h; cases h
  | ok u e1 =>
    rw [q, bnd_ok, v_runB] at h
    rw [bnd_ok, v_for1, h, bnd_ok, v_for2r]
/-- a loop that changes a state -/
theorem for_fold (E : σ → Sl) (f : σ → α → σ) : ∀ (xs : List α) (s : σ), (∀ s a, a ∈ xs → (noEx (t (ea a) (E s))).bnd (runB b) = .ok .nx (E (f s a))) → forRun t b (xs.map ea) (E s) = .ok .nx (E (xs.foldl f s))
  | [], s, _ => by rw [List.map_nil, v_forN]; rfl
  | a :: xs, s, h => by
    rw [List.map_cons, for_step (h s a List.mem_cons_self), for_fold E f xs _ fun s b hb => h s b (List.mem_cons_of_mem _ hb)]
    rfl
def fndF {α : Type} (R : α → RV) : Option α → Flo
  | some a => .rt (R a)
  | none => .nx
@[simp] theorem fndF_s {α : Type} (R : α → RV) (a : α) : fndF R (some a) = .rt (R a) := id rfl
@[simp] theorem fndF_n {α : Type} (R : α → RV) : fndF R none = .nx := id rfl
/-- a loop that looks for something -/
theorem for_find (E : Slot → Sl) (P : α → Bool) (R : α → RV) : ∀ (xs : List α) (s : Slot), stoS (some s) = true → (∀ s a, a ∈ xs → stoS (some s) = true → (noEx (t (ea a) (E s))).bnd (runB b) = .ok (if P a then .rt (R a) else .nx) (E (.val (ea a)))) →
    ∃ s', stoS (some s') = true ∧ forRun t b (xs.map ea) (E s) = .ok (fndF R (xs.find? P)) (E s')
  | [], s, hs, _ => ⟨s, hs, by rw [List.map_nil, v_forN]; rfl⟩
  | a :: xs, s, hs, h => by
    have h1 := h s a List.mem_cons_self hs
    cases q : P a with
    | true =>
      rw [q] at h1
      refine ⟨.val (ea a), rfl, ?_⟩
      rw [List.map_cons, for_ret h1, List.find?_cons_of_pos q, fndF_s]
    | false =>
      rw [q] at h1
      obtain ⟨s', hs', e⟩ := for_find E P R xs (.val (ea a)) rfl fun s b hb => h s b (List.mem_cons_of_mem _ hb)
      refine ⟨s', hs', ?_⟩
      rw [List.map_cons, for_step h1, List.find?_cons_of_neg (by simp [q]), e]
end
end Y

set_option Elab.async false
set_option linter.all false
set_option maxRecDepth 100000
set_option maxHeartbeats 4000000
namespace Y
open PySem PySem.Spec L2 PyProof.Rows
set_option autoImplicit false
variable [TB]
/-! ### a lambda that captures nothing: called -/
abbrev lamO (q : Str) (params : Arguments) (body : Expr) (scope : Scope) (pm : Value) (c' : Addr) (ctv : Value) : Obj := PySem.W.kla_obj "<lambda>" q params body scope [] pm c' ctv
theorem lam_run {CX : CXT} {P : Program} {w : World} {K : PySem.W.Frag} {mg : Str → Option Value} {base : Heap} {k : Nat} {f c' : Addr} {q : Str} {params : Arguments} {body : Expr} {scope : Scope} {pm ctv : Value} {N ps : List Str}
    {A : Around} {outer : List Env} {s : Shared} {H : Hp} {us : List Value} {vs : List V} {Q : VK} {E : XK} (hf : s.heap.get? f = some (lamO q params body scope pm c' ctv))
    (hc : ∃ (oc : Obj) (vs : Array Value) (t : Tok), s.heap.get? c' = some oc ∧ oc.data = .fields vs ∧ vs[1]? = some (.str q t)) (S : FnScope N ps scope) (hr : Room (k + 1) A) (e0 : Env0 P w K mg base A outer s H)
    (hb : bindArgs (PySem.W.kla_fn "<lambda>" q params body scope [] pm (.ref c') ctv) ⟨us, []⟩ = pure (ps.zip us)) (r : Vals vs us) (hl : vs.length = ps.length)
    (hbody : Room k (A.deeper (envOfC q scope s.heap.objs.size f (.ref c'))) → ∃ t, PE (cxOf CX P w K mg base N q scope f (.ref c') A outer s H E) body t ∧ t (L2.start N vs) H Q) :
    codeAny (model P w) A (.call (.ref f) ⟨us, []⟩) (CR CX outer P w H s Q E) s := by
  have lim : s.heap.NoLimit := e0.mod.nolimit.keeps fun b o e => (e0.bs b o e).1
  have hkind : ∀ y ∈ ps.zip us, scope.names.lookup y.1 = some .local ∨ (scope.names.lookup y.1 = some .cell ∧ ((cellsFrom (s.heap.objs.size + 1) scope.names []).lookup y.1).isSome = true) := fun ⟨n, v⟩ hy => by
    rcases S.par n (List.of_mem_zip hy).1 with q | q
    · exact .inl q
    · exact .inr ⟨q, PySem.W.cellsFrom_some _ _ _ (.inl q)⟩
  obtain ⟨oc, vs0, t0, h1, h2, h3⟩ := hc
  refine PySem.W.kla_callFunE hr.depth hf rfl S.co S.gen rfl ⟨c', oc, vs0, t0, rfl, h1, h2, h3⟩ ?_
  rw [hb]
  refine wpAny_pure ?_
  refine wpAny_newFunctionEnv_cells S.kind hkind fun env he s1 x => ?_
  subst he
  refine ⟨lim.keeps x.toInCall.keep, ?_⟩
  obtain ⟨t, ht, hq⟩ := hbody (hr.deeper _)
  have I : Inv (cxOf CX P w K mg base N q scope f (.ref c') A outer s H E) [] (L2.start N vs) H s1 := inv_start S hr.hd e0 hl r x
  refine PySem.W.kla_codeExpr (wpAny_mono (ht.run [] s1 (L2.start N vs) H _ I hq) (fun u s' hs => ?_) fun e s' hs => hs)
  obtain ⟨v, H', J, rv, q⟩ := hs
  exact ⟨v, H', J.os, J.bare, J.base, J.hok, rv, q⟩
end Y
namespace Y
open PySem PySem.Spec L2 PyProof.Rows
set_option autoImplicit false
variable [TB]
/-- (len(x), x) -/
abbrev lenB (x : Str) (p1 p2 p3 p4 p5 : Pos) (j : Nat) : Expr := .Tuple [.Call (.Name "len" p1) [.Name x p2] [] p3, .Name x p4] j p5
theorem key_len {P : Program} {w : World} {K : PySem.W.Frag} {mg : Str → Option Value} {base : Heap} {k : Nat} {f c' t : Addr} {q x : Str} {params : Arguments} {scope : Scope} {pm ctv : Value} {p1 p2 p3 p4 p5 : Pos} {j : Nat}
    {A : Around} {outer : List Env} {s : Shared} {H : Hp} {its : List Value} {d : PyData} (hf : s.heap.get? f = some (lamO q params (lenB x p1 p2 p3 p4 p5 j) scope pm c' ctv))
    (hc : ∃ (oc : Obj) (vs : Array Value) (t : Tok), s.heap.get? c' = some oc ∧ oc.data = .fields vs ∧ vs[1]? = some (.str q t)) (S : FnScope [x] [x] scope) (hx : scope.names.lookup x = some .local) (hl : scope.names.lookup ("len" : Str) = some .globalImplicit) (hxd : (x == ("__debug__" : Str)) = false)
    (hxc : (x == ("__classdict__" : Str)) = false) (hr : Room (k + 1) A) (e0 : Env0 P w K mg base A outer s H) (hm : mg "len" = none) (hb : bindArgs (PySem.W.kla_fn "<lambda>" q params (lenB x p1 p2 p3 p4 p5 j) scope [] pm (.ref c') ctv) ⟨[.ref t], []⟩ = pure [(x, .ref t)])
    (ht : IsTup s.heap t its.toArray) (hz : its.length ≤ sizeLine) (rd : Reads s.heap (.ref t) d []) :
    wpAny (model P w) A (call (.ref f) [.ref t]) (PySem.W.KeyPure (.tuple [.int its.length, d]) s) (fun _ _ => False) s := by
  have lim : s.heap.NoLimit := e0.mod.nolimit.keeps fun b o e => (e0.bs b o e).1
  obtain ⟨oc, vs0, t0, h1, h2, h3⟩ := hc
  refine wpAny_call ?_
  refine PySem.W.kla_callFunE hr.depth hf rfl S.co S.gen rfl ⟨c', oc, vs0, t0, rfl, h1, h2, h3⟩ ?_
  rw [hb]
  refine wpAny_pure ?_
  refine wpAny_newFunctionEnv_cells S.kind (fun y hy => ?_) fun env he s1 z => ?_
  · have e : y = (x, Value.ref t) := by simpa using hy
    subst e
    exact .inl hx
  subst he
  refine ⟨lim.keeps z.toInCall.keep, ?_⟩
  have I : Inv (cxOf (L2.CX P w) P w K mg base [x] q scope f (.ref c') A outer s H (fun _ _ _ => False)) [] (L2.start [x] [V.ref t]) H s1 := inv_start (us := [.ref t]) S hr.hd e0 rfl (.cons rfl .nil) z
  obtain ⟨h', tk, es, kp⟩ := z.done
  -- the slot holds the tuple
  have var : ∀ {p : Pos} {E : Value → Shared → Prop} {Q : Value → Shared → Prop} {t' : Nat}, Q (.ref t) { s1 with toks := t' } → wpAny (model P w) (A.deeper (envOfC q scope s.heap.objs.size f (.ref c'))) (eval (.Name x p) (envOfC q scope s.heap.objs.size f (.ref c'))) Q E { s1 with toks := t' } := fun {p E Q t'} h => by
    obtain ⟨m, hn, hlk⟩ := (I.tok t').loc
    obtain ⟨u, ru, l⟩ := hlk 0 x (V.ref t) rfl rfl (.inl hx)
    obtain rfl : u = Value.ref t := ru
    rcases l with ⟨hk, hmx⟩ | ⟨hk, _⟩
    · exact wpAny_Name (wpAny_loadName_local S.kind hx hn hmx h) hxd
    · rcases hk with hk | hk
      · have hk' : scope.names.lookup x = some .cell := hk
        rw [hx] at hk'; cases hk'
      · have hk' : scope.names.lookup x = some .free := hk
        rw [hx] at hk'; cases hk'
  have tup1 : IsTup s1.heap t its.toArray := by
    obtain ⟨o, ho, r⟩ := ht
    exact ⟨o, z.toInCall.keep _ _ ho, r⟩
  have rd1 : ∀ {g : Heap}, (∀ b o, s1.heap.get? b = some o → g.get? b = some o) → Reads g (.ref t) d [] := fun {g} k => PyProof.Rows.Reads.keeps (fun b o e => k b o (z.toInCall.keep b o e)) rd
  refine PySem.W.kla_codeExpr ?_
  refine wpAny_Tuple_spliced ?_
  refine Calls.spliced_cons ?_
  refine wpAny_Call_Name_kw (ld_blt I hl hm PySem.boot_len ?_)
  refine PyProof.Rows.callWith_builtin1 (Calls.spliced_cons (var (t' := s1.toks) ?_)) rfl rfl
  refine Calls.spliced_nil ?_
  have hn := line63
  refine len_tuple tup1 (by simp only [List.size_toArray] <;> omega) ?_
  refine Calls.spliced_cons (var ?_)
  refine Calls.spliced_nil ⟨by show 2 ≤ sizeLine; decide, ?_⟩
  obtain ⟨h0, tk0, e0'⟩ := z.toInCall.same
  show PySem.W.KeyPure (.tuple [.int its.length, d]) s (.ref s1.heap.objs.size) { s1 with heap := s1.heap.push { cls := .type "tuple", data := .seq #[Value.int (its.toArray.size : Nat) (s1.toks + 1), .ref t] }, toks := s1.toks + 1 + 1 }
  refine ⟨s1.heap.push { cls := .type "tuple", data := .seq #[Value.int (its.toArray.size : Nat) (s1.toks + 1), .ref t] }, s1.toks + 1 + 1, by rw [e0'], fun b o e => Heap.get?_push_of_some _ (z.toInCall.keep b o e), ?_⟩
  rw [show (its.length : Int) = ((its.toArray.size : Nat) : Int) by rw [List.size_toArray]]
  exact .tuple (Heap.get?_push_size _ rfl) rfl rfl (.cons (.int _ _) (.cons (rd1 fun b o e => Heap.get?_push_of_some _ e) .nil))
end Y

set_option Elab.async false
set_option linter.all false
set_option maxRecDepth 100000
set_option maxHeartbeats 4000000
namespace Y
open PySem PySem.Spec PyProof.Rows L2 LamX
set_option autoImplicit false
variable [TB]
/-! ### a lambda that captures nothing, made -/
def LamH (f : Addr) (q : Str) (params : Arguments) (body : Expr) (scope : Scope) (c' : Addr) : HO := .ext fun h => ∃ pm ctv, h.get? f = some (lamO q params body scope pm c' ctv)
theorem lamH_ok {P : Program} {w : World} {H : Hp} {h : Heap} {f : Addr} {q : Str} {params : Arguments} {body : Expr} {scope : Scope} {c' : Addr} {pm ctv : Value} (e : h.get? f = some (lamO q params body scope pm c' ctv)) : ObjOk P w H h f (LamH f q params body scope c') :=
  ⟨⟨pm, ctv, e⟩, ⟨_, e⟩, fun h1 h2 z k => by
    obtain ⟨pm, ctv, q⟩ := z
    exact ⟨pm, ctv, k _ q⟩⟩
theorem lamH_at {P : Program} {w : World} {H : Hp} {h : Heap} {f : Addr} {q : Str} {params : Arguments} {body : Expr} {scope : Scope} {c' : Addr} (hok : HOk P w H h) (e : H f = some (LamH f q params body scope c')) : ∃ pm ctv, h.get? f = some (lamO q params body scope pm c' ctv) := by
  have x : ObjOk P w H h f (.ext fun h => ∃ pm ctv, h.get? f = some (lamO q params body scope pm c' ctv)) := hok f _ e
  exact x.1
theorem cloFrom_nofree (cells : List (Str × Addr)) : ∀ (l : List (Str × NameKind)) (acc : List (Str × Addr)), (∀ y ∈ l, y.2 ≠ .free) → cloFrom cells l acc = acc
  | [], acc, _ => rfl
  | (n, k) :: r, acc, h => by
    unfold cloFrom
    rw [if_neg]
    · exact cloFrom_nofree cells r acc fun y hy => h y (List.mem_cons_of_mem _ hy)
    · have := h (n, k) List.mem_cons_self
      simpa using this
section
variable {X : Cx} {pins : List (Addr × Obj)} {σ : L2.St} {H : Hp} {s : Shared}
theorem lam_make3 {c P : Addr} {params : Arguments} {body : Expr} {scope : Scope} {pos : Pos} {E : Value → Shared → Prop} {Q : Value → Shared → Prop} (I : Inv X pins σ H s) (hB : BaseOk X.mg X.base) (hcode : X.env.code = .ref c)
    (hm : (c, P, X.env.qual ++ "<lambda>") ∈ TB.T) (hT : TabOk H) (hdef : defaultsOf params X.env = ([], [])) (hfree : ∀ y ∈ scope.names, y.2 ≠ .free)
    (h : ∀ (f c' : Addr) (H1 : Hp) (s' : Shared), Inv X pins σ H1 s' → ExtN H H1 → TabOk H1 → (∀ b, H1 b = none → H b = none) → H f = none → H1 f = some (LamH f (X.env.qual ++ "<lambda>") params body scope c') → H1 c' = some (CodeO c' (X.env.qual ++ "<lambda>")) → Q (.ref f) s') :
    wpAny (model X.prog X.w) X.A (eval (.Lambda params body scope pos) X.env) Q E s := by
  have TBB := hB _ hm
  have hmem : (P, X.env.qual ++ "<lambda>") ∈ TB.T.map (·.2) := List.mem_map.mpr ⟨_, hm, rfl⟩
  have hu : ∀ p ∈ TB.T.map (·.2), p.1 = P → p.2 = X.env.qual ++ "<lambda>" := fun p hp e => by
    obtain ⟨p', hp', rfl⟩ := List.mem_map.mp hp
    exact TB.uq p' hp' _ hm e
  have hcl : ∀ y ∈ scope.names, y.2 = .free → ∃ c, X.env.cells.lookup y.1 = some c := fun y hy e => absurd e (hfree y hy)
  have ecl := cloFrom_nofree X.env.cells scope.names [] hfree
  obtain ⟨ps, hP, ht, ha⟩ := hT _ hmem
  refine PySem.W.kla_eval hdef ?_
  have bP : s.heap.BuiltinsAt X.mg P := TBB.bm.keeps I.bk
  have hP' : s.heap.get? P = some { cls := .none, data := .fields ps } := I.hok P _ hP
  cases hc : codeAmong pos ps.toList with
  | none =>
    refine PySem.W.kla_makeFunction (mg := X.mg) (c := c) (P := P) (ps := ps) (closure_ok hcl) I.ok.glob (I.mod.glob.keeps I.bk) hcode (TBB.code.keeps I.bk) hP' ht hc TBB.gP bP fun c' ctv h' tk hx hge hlt hrec htb => ?_
    obtain ⟨c2, oc, vs, t, e2, hoc, hd, hv⟩ := hrec
    cases e2
    rw [ecl]
    have nC : H c' = none := I.hok.fresh hge
    have I1 := inv_table (t' := tk) (more := #[rawInt pos.line, rawInt pos.col, .ref c']) (h' := h') I hP hx htb hge ⟨oc, vs, t, hoc, hd, hv⟩
    have hE : ExtN H (upd (upd H P (.tbl (ps ++ #[rawInt pos.line, rawInt pos.col, .ref c']))) c' (CodeO c' (X.env.qual ++ "<lambda>"))) := fun b o e n => by
      rw [upd_ne (ne_of_none e nC), upd_ne (fun z => n ps (Option.some.inj (e.symm.trans (by rw [z]; exact hP))))]
      exact e
    have eL : (ps ++ #[rawInt pos.line, rawInt pos.col, .ref c']).toList = ps.toList ++ [rawInt pos.line, rawInt pos.col, .ref c'] := by simp
    have T1 : TabOk (upd (upd H P (.tbl (ps ++ #[rawInt pos.line, rawInt pos.col, .ref c']))) c' (CodeO c' (X.env.qual ++ "<lambda>"))) := fun p hp => by
      by_cases hb : p.1 = P
      · rw [hu p hp hb, hb]
        refine ⟨_, by rw [upd_ne (ne_of_none hP nC), upd_same], by rw [eL]; exact PySem.TriplesOk_snoc _ _ _ _ ht, fun p' cv hcv => ?_⟩
        rw [eL] at hcv
        rcases among_app _ ht hcv with z | z
        · obtain ⟨c0, e1, e2⟩ := ha p' cv z
          exact ⟨c0, e1, hE _ _ e2 codeO_ne⟩
        · exact ⟨c', z, upd_same⟩
      · obtain ⟨ps', a1, a2, a3⟩ := hT p hp
        refine ⟨ps', by rw [upd_ne (ne_of_none a1 nC), upd_ne hb]; exact a1, a2, fun p' cv hcv => ?_⟩
        obtain ⟨c0, e1, e2⟩ := a3 p' cv hcv
        exact ⟨c0, e1, hE _ _ e2 codeO_ne⟩
    have nf : (upd (upd H P (.tbl (ps ++ #[rawInt pos.line, rawInt pos.col, .ref c']))) c' (CodeO c' (X.env.qual ++ "<lambda>"))) h'.objs.size = none := I1.hok.fresh (Nat.le_refl _)
    have I2 := I1.laid (t' := tk) (a := h'.objs.size) (o := LamH h'.objs.size (X.env.qual ++ "<lambda>") params body scope c') (h' := h'.push (lamO (X.env.qual ++ "<lambda>") params body scope ((X.mg "__name__").getD .none) c' ctv)) (fun b u e => Heap.get?_push_of_some _ e) (Nat.le_refl _) (lamH_ok (Heap.get?_push_size _ rfl))
    have nfH : H h'.objs.size = none := I.hok.fresh (Nat.le_trans hge (Nat.le_of_lt hlt))
    refine h h'.objs.size c' _ _ I2 (hE.trans (ExtN.of fun b o e => by rw [upd_ne (ne_of_none e nf)]; exact e)) (T1.new nf) (fun b z => ?_) nfH upd_same ?_
    · by_cases q : b = h'.objs.size
      · rw [q]; exact nfH
      · rw [upd_ne q] at z
        by_cases q2 : b = c'
        · rw [q2]; exact nC
        · rw [upd_ne q2] at z
          by_cases q3 : b = P
          · rw [q3, upd_same] at z; cases z
          · rw [upd_ne q3] at z; exact z
    · rw [upd_ne (Nat.ne_of_lt hlt), upd_same]
  | some cv =>
    obtain ⟨c', e, hco⟩ := ha pos cv hc
    subst e
    refine PySem.W.kla_makeFunctionHit (mg := X.mg) (c := c) (P := P) (ps := ps) (closure_ok hcl) I.ok.glob (I.mod.glob.keeps I.bk) hcode (TBB.code.keeps I.bk) hP' ht hc bP fun ctv h' tk hx hsz => ?_
    rw [ecl]
    have I1 : Inv X pins σ H { s with heap := h', toks := tk } := I.kept fun b o e => hx b o e
    have nf : H h'.objs.size = none := I.hok.fresh hsz
    have I2 := I1.laid (t' := tk) (a := h'.objs.size) (o := LamH h'.objs.size (X.env.qual ++ "<lambda>") params body scope c') (h' := h'.push (lamO (X.env.qual ++ "<lambda>") params body scope ((X.mg "__name__").getD .none) c' ctv)) (fun b u e => Heap.get?_push_of_some _ e) (Nat.le_refl _) (lamH_ok (Heap.get?_push_size _ rfl))
    refine h h'.objs.size c' _ _ I2 (ExtN.of fun b o e => by rw [upd_ne (ne_of_none e nf)]; exact e) (TabOk.new hT nf) (fun b z => ?_) nf upd_same ?_
    · by_cases q : b = h'.objs.size
      · rw [q]; exact nf
      · rw [upd_ne q] at z; exact z
    · rw [upd_ne (ne_of_none hco nf)]; exact hco
end
/-- what a lambda's making wants, and gives -/
def tLamV (q : Str) (params : Arguments) (body : Expr) (scope : Scope) : TE := fun _ H Q => TabOk H ∧ ∀ (f c' : Addr) (H1 : Hp), ExtN H H1 → TabOk H1 → (∀ b, H1 b = none → H b = none) → H f = none → H1 f = some (LamH f q params body scope c') → H1 c' = some (CodeO c' q) → Q (.ref f) H1
theorem pe_lam {X : Cx} {c P : Addr} {params : Arguments} {body : Expr} {scope : Scope} {pos : Pos} (hB : BaseOk X.mg X.base) (hcode : X.env.code = .ref c) (hm : (c, P, X.env.qual ++ "<lambda>") ∈ TB.T) (hdef : defaultsOf params X.env = ([], []) := by rfl) (hfree : ∀ y ∈ scope.names, y.2 ≠ .free := by decide) :
    PE X (.Lambda params body scope pos) (tLamV (X.env.qual ++ "<lambda>") params body scope) := by
  refine ⟨fun pins s σ H Q I h => ?_⟩
  exact lam_make3 I hB hcode hm h.1 hdef hfree fun f c' H1 s' I' e t dm nf a b => ⟨.ref f, H1, I', rfl, h.2 f c' H1 e t dm nf a b⟩
end Y

set_option Elab.async false
set_option linter.all false
set_option maxRecDepth 100000
set_option maxHeartbeats 4000000
namespace Y
open PySem PySem.Spec PyProof.Rows L2 LamX
set_option autoImplicit false
/-! ### data without lists -/
mutual
def nlD : D → Bool
  | .lst _ => false
  | .tup xs => nlDs xs
  | .ins _ _ => false
  | .raw _ => false
  | .dK _ => false
  | .dT _ => false
  | .exc _ _ => false
  | .clo _ _ => false
  | .fnv _ => false
  | _ => true
def nlDs : List D → Bool
  | [] => true
  | x :: xs => nlD x && nlDs xs
end
mutual
theorem nl_reads {h : Heap} : ∀ (d : D) (p : PyData) (v : Value) (as : List Addr), nlD d = true → toPy d = some p → Reads h v p as → as = []
  | .non, p, v, as, _, e, r => by cases e; cases r; rfl
  | .bl _, p, v, as, _, e, r => by cases e; cases r; rfl
  | .int _, p, v, as, _, e, r => by cases e; cases r; rfl
  | .str _, p, v, as, _, e, r => by cases e; cases r; rfl
  | .lst _, p, v, as, n, e, r => by simp [nlD] at n
  | .ins _ _, p, v, as, n, e, r => by simp [nlD] at n
  | .raw _, p, v, as, n, e, r => by simp [nlD] at n
  | .dK _, p, v, as, n, e, r => by simp [nlD] at n
  | .dT _, p, v, as, n, e, r => by simp [nlD] at n
  | .exc _ _, p, v, as, n, e, r => by simp [nlD] at n
  | .clo _ _, p, v, as, n, e, r => by simp [nlD] at n
  | .fnv _, p, v, as, n, e, r => by simp [nlD] at n
  | .tup ds, p, v, as, n, e, r => by
    unfold toPy at e
    obtain ⟨ps, q, rfl⟩ := Option.map_eq_some_iff.mp e
    cases r with
    | tuple _ _ _ ra => exact nl_readsAll ds ps _ as (by simpa [nlD] using n) q ra
theorem nl_readsAll {h : Heap} : ∀ (ds : List D) (ps : List PyData) (vs : List Value) (as : List Addr), nlDs ds = true → toPys ds = some ps → ReadsAll h vs ps as → as = []
  | [], ps, vs, as, _, e, r => by cases e; cases r; rfl
  | d :: ds, ps, vs, as, n, e, r => by
    simp only [nlDs, Bool.and_eq_true] at n
    unfold toPys at e
    split at e
    · rename_i p ps' w1 w2
      cases e
      cases r with
      | cons r1 r2 => rw [nl_reads d p _ _ n.1 w1 r1, nl_readsAll ds ps' _ _ n.2 w2 r2]; rfl
    · cases e
end
/-! ### sorted by (len(x), x) -/
def lenD : D → Int
  | .tup xs => xs.length
  | _ => 0
def isTupD : D → Bool
  | .tup _ => true
  | _ => false
def pyD (d : D) : PyData := (toPy d).getD .none
def kD (d : D) : PyData := .tuple [.int (lenD d), pyD d]
def leLD (a b : D) : Bool := PySem.W.dataLe false kD a b
def okSort (ds : List D) : Bool := (ds.all fun d => isTupD d && (okD d && (nlD d && decide (dpD d ≤ 60)))) && ds.all fun a => ds.all fun b => PySem.W.alike (kD a) (kD b)
variable [TB]
def sortLK : D → M RV
  | .lst ds => fun e => if okSort ds = true ∧ ds.length ≤ 10000 then .ok (.own (.lst (ds.mergeSort leLD))) e else .bad
  | _ => M.bad
def rSortL (K : PySem.W.Frag) (mg : Mg) (q : Str) (params : Arguments) (body : Expr) (scope : Scope) : List V → List V → Hp → VK → Prop := fun vs zs H Q => ∃ (l f c' : Addr) (bs : List (V × D)), vs = [.ref l] ∧ zs = [.ref f] ∧ H f = some (LamH f q params body scope c') ∧ H c' = some (CodeO c' q) ∧
  SqL K H l (bs.map Prod.fst) ∧ (∀ b ∈ bs, Rep K mg H b.1 b.2) ∧ okSort (bs.map Prod.snd) = true ∧ bs.length ≤ 10000 ∧ ∀ p, H p = none → Q (.ref p) (upd H p (.lst ((bs.mergeSort fun a b => leLD a.2 b.2).map Prod.fst)))
theorem each_vals {R : Value → V × D → Prop} : ∀ {bs : List (V × D)} {us : List Value}, Vals (bs.map Prod.fst) us → (∀ b ∈ bs, ∀ u, RelV b.1 u → R u b) → PySem.W.EachIs R us bs
  | [], us, r, h => by cases r; exact .nil
  | b :: bs, us, r, h => by
    cases r with
    | cons r1 r2 => exact .cons (h b List.mem_cons_self _ r1) (each_vals r2 fun b hb => h b (List.mem_cons_of_mem _ hb))
theorem vals_each {R : Value → V × D → Prop} : ∀ {bs : List (V × D)} {us : List Value}, PySem.W.EachIs R us bs → (∀ b u, R u b → RelV b.1 u) → Vals (bs.map Prod.fst) us
  | [], us, e, h => by cases e; exact .nil
  | b :: bs, us, e, h => by
    cases e with
    | cons r1 r2 => exact .cons (h b _ r1) (vals_each r2 h)
end Y

set_option Elab.async false
set_option linter.all false
set_option maxRecDepth 100000
set_option maxHeartbeats 4000000
namespace Y
open PySem PySem.Spec PyProof.Rows L2 LamX
set_option autoImplicit false
variable [TB]
theorem okD_pyD {d : D} (h : okD d = true) : toPy d = some (pyD d) ∧ PyData.depth (pyD d) = dpD d := by
  obtain ⟨p, h1, h2, h3⟩ := okD_py d h
  unfold pyD
  rw [h1]
  exact ⟨rfl, h3⟩
theorem cr_sortL {X : Cx} {q x : Str} {params : Arguments} {scope : Scope} {p1 p2 p3 p4 p5 : Pos} {j k : Nat} (S : FnScope [x] [x] scope) (hx : scope.names.lookup x = some .local) (hl : scope.names.lookup ("len" : Str) = some .globalImplicit) (hxd : (x == ("__debug__" : Str)) = false)
    (hxc : (x == ("__classdict__" : Str)) = false) (hr : Room (k + 3) X.A) (hm : X.mg "len" = none) (hbd : ∀ (t : Addr) (pm : Value) (c' : Addr) (ctv : Value), bindArgs (PySem.W.kla_fn "<lambda>" q params (lenB x p1 p2 p3 p4 p5 j) scope [] pm (.ref c') ctv) ⟨[.ref t], []⟩ = pure [(x, .ref t)]) :
    CallRK X (.builtin "sorted") [Str.ofString "key"] (rSortL X.K X.mg q params (lenB x p1 p2 p3 p4 p5 j) scope) := by
  intro pins s σ H vs zs us ws Q I r rz h
  obtain ⟨l, f, c', bs, rfl, rfl, hf, hc, hS, hR, hk, hn, hQ⟩ := h
  obtain rfl := Vals.ref1 r
  obtain rfl := Vals.ref1 rz
  obtain ⟨its, rv, hL, hz⟩ := I.list hS
  unfold okSort at hk
  rw [Bool.and_eq_true] at hk
  obtain ⟨hk1, hk2⟩ := hk
  rw [List.all_eq_true] at hk1 hk2
  have each : ∀ b ∈ bs, isTupD b.2 = true ∧ okD b.2 = true ∧ nlD b.2 = true ∧ dpD b.2 ≤ 60 := fun b hb => by
    have := hk1 b.2 (List.mem_map.mpr ⟨b, hb, rfl⟩)
    simp only [Bool.and_eq_true, decide_eq_true_eq] at this
    exact this
  let R : Value → V × D → Prop := fun u b => RelV b.1 u ∧ ∃ (t : Addr) (es : List Value), u = .ref t ∧ IsTup s.heap t es.toArray ∧ es.length ≤ sizeLine ∧ (es.length : Int) = lenD b.2 ∧ Reads s.heap u (pyD b.2) []
  have hE : PySem.W.EachIs R its bs := each_vals rv fun b hb u ru => by
    obtain ⟨h1, h2, h3, h4⟩ := each b hb
    have rp := hR b hb
    obtain ⟨e1, e2⟩ := okD_pyD h2
    obtain ⟨as, rd⟩ := Dp.reads I _ _ _ (rp.dp e1) ru
    have ea := nl_reads b.2 _ _ _ h3 e1 rd
    subst ea
    refine ⟨ru, ?_⟩
    obtain ⟨v, d⟩ := b
    cases d with
    | tup ds =>
      cases rp with
      | tup hT rs =>
        obtain rfl : u = Value.ref _ := ru
        obtain ⟨es, r2, tp, z2⟩ := I.tuple hT
        exact ⟨_, es, rfl, tp, by rw [← r2.length]; exact z2, by show (es.length : Int) = (ds.length : Int); rw [← r2.length, rs.length], rd⟩
    | _ => simp [isTupD] at h1
  have un := hr.un
  refine PySem.W.sorted_key_data (b := false) (fun b : V × D => kD b.2) hL.isList hE ?al ?so ?le ?dp (ksk_s1 _ _) (fun _ => ksk_l1 _ _) (fun _ => ksk_t1 _ _) ?turn ?fin
  case al =>
    intro d hd d' hd'
    obtain ⟨b, hb, rfl⟩ := List.mem_map.mp hd
    obtain ⟨b', hb', rfl⟩ := List.mem_map.mp hd'
    exact (List.all_eq_true.mp (hk2 b.2 (List.mem_map.mpr ⟨b, hb, rfl⟩))) b'.2 (List.mem_map.mpr ⟨b', hb', rfl⟩)
  case so =>
    refine .inl fun d hd => ?_
    obtain ⟨b, hb, rfl⟩ := List.mem_map.mp hd
    exact ⟨_, _, rfl⟩
  case le => exact Nat.le_of_lt (small_line hn)
  case dp =>
    intro b hb
    obtain ⟨h1, h2, h3, h4⟩ := each b hb
    have := (okD_pyD h2).2
    have hd : (kD b.2).depth ≤ 61 := by
      simp [kD, PyData.depth, PyData.depthAll, this]
      omega
    omega
  case turn =>
    intro v b hRb hb hp tk kp
    obtain ⟨ru, t, es, rfl, tp, z, el, rd⟩ := hRb
    have I' : Inv X pins σ H { s with heap := hp, toks := tk } := I.kept fun b o e => kp b o e
    obtain ⟨pm, ctv, hf'⟩ := lamH_at I'.hok hf
    have hc' := I'.hok c' _ hc
    obtain ⟨⟨oc, vs, t0, c1, c2, c3⟩, _, _⟩ := hc'
    have e := I'.env0
    have e0 : Env0 X.prog X.w X.K X.mg X.base X.A.in1.in1 X.stack { s with heap := hp, toks := tk } H := ⟨e.frames, e.mod, e.bs, e.bsz, e.funs, e.frf, e.hok, e.bare⟩
    have tp' : IsTup hp t es.toArray := by
      obtain ⟨o, ho, r⟩ := tp
      exact ⟨o, kp _ _ ho, r⟩
    have := key_len (s := { s with heap := hp, toks := tk }) (d := pyD b.2) hf' ⟨oc, vs, t0, c1, c2, c3⟩ S hx hl hxd hxc hr.in1.in1 e0 hm (hbd t pm c' ctv) tp' z (PyProof.Rows.Reads.keeps (fun b o e => kp b o e) rd)
    unfold kD
    rw [← el]
    exact this
  case fin =>
    intro out c h' tk kp fresh hD hlen eo
    have rv' := vals_each eo fun b u z => z.1
    have np : H (s.heap.objs.size + 1) = none := I.hok.fresh (Nat.le_succ _)
    refine ⟨.ref _, upd H (s.heap.objs.size + 1) (.lst ((bs.mergeSort fun a b => leLD a.2 b.2).map Prod.fst)), I.laid (t' := tk) kp (Nat.le_succ _) ⟨?_, out, c, rv', hD⟩, rfl, hQ _ np⟩
    rw [List.length_map, List.length_mergeSort]
    exact Nat.le_of_lt (small_line hn)
theorem zip_fst {vs : List V} {ds : List D} (h : vs.length = ds.length) : (vs.zip ds).map Prod.fst = vs := by
  rw [List.map_fst_zip]
  omega
theorem zip_snd {vs : List V} {ds : List D} (h : vs.length = ds.length) : (vs.zip ds).map Prod.snd = ds := by
  rw [List.map_snd_zip]
  omega
theorem zip_rep {K : PySem.W.Frag} {mg : Mg} {F : Hp} : ∀ {vs : List V} {ds : List D}, Reps K mg F vs ds → ∀ b ∈ vs.zip ds, Rep K mg F b.1 b.2
  | _, _, .nil, b, hb => by simp at hb
  | _, _, .cons a r, b, hb => by
    rw [List.zip_cons_cons] at hb
    rcases List.mem_cons.mp hb with z | z
    · rw [z]; exact a
    · exact zip_rep r b z
theorem reps_of {K : PySem.W.Frag} {mg : Mg} {F : Hp} : ∀ {bs : List (V × D)}, (∀ b ∈ bs, Rep K mg F b.1 b.2) → Reps K mg F (bs.map Prod.fst) (bs.map Prod.snd)
  | [], _ => .nil
  | b :: bs, h => .cons (h b List.mem_cons_self) (reps_of fun b hb => h b (List.mem_cons_of_mem _ hb))
theorem sqL_smt {K : PySem.W.Frag} {H H' : Hp} (s : SmT H H') {a : Addr} {xs : List V} (h : SqL K H a xs) : SqL K H' a xs := by
  rcases h with (h | ⟨o, h⟩) | h
  · exact .inl (.inl (s.kp _ _ h fun ps z => by cases z))
  · exact .inl (.inr ⟨o, s.kp _ _ h fun ps z => by cases z⟩)
  · exact .inr h
theorem de_sortL {X : Cx} {W : WX} {c P : Addr} {x : Str} {params : Arguments} {scope : Scope} {p1 p2 p3 p4 p5 p lpos kpos pos : Pos} {j k : Nat} {a : Expr} {f : M RV} (hB : BaseOk X.mg X.base) (hcode : X.env.code = .ref c) (hmT : (c, P, X.env.qual ++ "<lambda>") ∈ TB.T)
    (hg : Gl X "sorted") (hms : X.mg "sorted" = none) (hm : X.mg "len" = none) (hr : Room (k + 3) X.A) (ha : DE X W a f)
    (S : FnScope [x] [x] scope := by exact ⟨rfl, rfl, rfl, by decide +kernel, rfl, by decide +kernel, by decide +kernel⟩) (hx : scope.names.lookup x = some .local := by rfl) (hl : scope.names.lookup ("len" : Str) = some .globalImplicit := by rfl) (hxd : (x == ("__debug__" : Str)) = false := by decide)
    (hxc : (x == ("__classdict__" : Str)) = false := by decide) (hbd : ∀ (q : Str) (t : Addr) (pm : Value) (c' : Addr) (ctv : Value), bindArgs (PySem.W.kla_fn "<lambda>" q params (lenB x p1 p2 p3 p4 p5 j) scope [] pm (.ref c') ctv) ⟨[.ref t], []⟩ = pure [(x, .ref t)] := by intros; rfl)
    (hdef : defaultsOf params X.env = ([], []) := by rfl) (hfree : ∀ y ∈ scope.names, y.2 ≠ .free := by decide +kernel)
    (he : starEach [a] X.env = (false, eval a X.env) :: starEach [] X.env := by rfl)
    (he2 : backTo pos (starEach [a] X.env) = (false, eval a X.env) :: backTo pos (starEach [] X.env) := by rfl) (hpl : (backTo pos (starEach [a] X.env)).any (·.1) = false := by rfl)
    (hall : (backToKw pos (keywordEach [⟨some "key", .Lambda params (lenB x p1 p2 p3 p4 p5 j) scope lpos, kpos⟩] X.env)).all (·.1.isSome) = true := by rfl) (hnone : (backToKw pos (keywordEach [⟨some "key", .Lambda params (lenB x p1 p2 p3 p4 p5 j) scope lpos, kpos⟩] X.env)).any (·.1.isNone) = false := by rfl)
    (hks : (backToKw pos (keywordEach [⟨some "key", .Lambda params (lenB x p1 p2 p3 p4 p5 j) scope lpos, kpos⟩] X.env)).filterMap (·.1) = [Str.ofString "key"] := by rfl) :
    DE X W (.Call (.Name "sorted" p) [a] [⟨some "key", .Lambda params (lenB x p1 p2 p3 p4 p5 j) scope lpos, kpos⟩] pos) (rd1 f sortLK) :=
  peW (pe_callBK (cr_sortL S hx hl hxd hxc hr hm (hbd (X.env.qual ++ "<lambda>"))) hg hms (by decide +kernel) (pa_cons ha pa_nil he) (pk_cons (pe_lam hB hcode hmT hdef hfree) pk_nil) (by decide) (by decide) he2 hpl hall hnone hks) fun σ H Q ⟨e, F, R, h⟩ => by
    refine ⟨e, F, R, post_imp (post_seq up_V h) ?_⟩
    rintro y H1 ⟨r1, e1, F1, q1, R1, s1, h1⟩
    refine ⟨R1.tab, fun f c' H2 hE hT hd nf a1 a2 => ?_⟩
    have sm : SmT H1 H2 := ⟨fun b o q n => hE b o q n, hT, hd⟩
    have R2 := R1.ext sm
    have st := Stp.ext R1 sm
    cases w : rdat e1 r1 with
    | none => rw [w] at h1; exact h1.elim
    | some d =>
      rw [w] at h1
      have rd := R1.rd q1 w
      cases d with
      | lst ds =>
        obtain ⟨l, vs, rfl, sq, rs⟩ := rd
        have h2 : post X.K X.mg W (rV X.K X.mg) F1 H2 e1 σ (sortLK (.lst ds) e1) Q := post_from up_V st h1
        unfold sortLK at h2
        dsimp only at h2
        split at h2
        · rename_i hk
          have hlen := rs.length
          have hz := zip_rep rs
          refine ⟨l, f, c', vs.zip ds, rfl, rfl, a1, a2, by rw [zip_fst hlen]; exact sqL_smt sm sq, fun b hb => (hz b hb).mono R2.sub, by rw [zip_snd hlen]; exact hk.1, by rw [List.length_zip]; omega, fun p hp => ?_⟩
          have e3 : ((vs.zip ds).mergeSort fun a b => leLD a.2 b.2).map Prod.snd = ds.mergeSort leLD := by
            rw [PySem.W.sort_maps (s := leLD) Prod.snd fun _ _ _ _ => rfl, zip_snd hlen]
          rw [← e3] at h2
          exact post_newL R2 h2 (reps_of fun b hb => hz b ((List.mergeSort_perm _ _).subset hb)) hp
        · exact h2.elim
      | _ => exact h1.elim
end Y

set_option Elab.async false
set_option linter.all false
set_option maxRecDepth 100000
set_option maxHeartbeats 4000000
/-! an own exception class over ValueError, made with keywords -/
namespace PySem
namespace YEk
open PySem.Spec PySem.W PySem.Calls PyProof.Rows PySem.HandSPX
section
variable {M : Model} {A : Around} {E : Value → Shared → Prop} {h : Heap} {g : Array GenState} {d : Drawn} {t : Nat} {os : OsState}
variable {nm q : Str} {C N : Addr} {bs bm bmB : List Value} {hdct : Bool} {sn : List Str} {sub : List Value} {ab : Bool} {col : Option Bool} {dd : Option Addr} {k0 k1 k2 k3 k5 : Option Value} {B newId initId : String}
theorem check_newK (F : ExcBaseFacts B newId initId bmB) (hT : ∀ X : String, bm.contains (.type X) = bmB.contains (.type X)) {rest : List Value} {kw : List (Str × Value)} {Q : Unit → Shared → Prop}
    (hC : h.get? C = some (excClassObj nm q C N bs bm hdct sn sub ab col dd k0 k1 k2 k3 k5 newId)) (hq : Q () ⟨h, g, d, t, os⟩) : wpAny M A (checkBuiltinCall newId ⟨.ref C :: rest, kw⟩) Q E ⟨h, g, d, t, os⟩ := by
  have hcont : (Value.ref C :: bm).contains (.type B) = true := by rw [List.contains_cons, hT, F.hasB, Bool.or_true]
  have hstar := F.noStar
  simp only [checkBuiltinCall, F.newKind, F.newSplit, F.newRow]
  repeat (first | refine wpAny_loadPart_at hC ?_ | (refine wpAny_isSubtype_exc hC ?_; rw [hcont]) | refine wpAny_staticBase_exc hC ?_ | refine wpAny_madeBy_exc hC ?_ | simp only [bne_self_eq_false, Bool.false_eq_true, if_false] | wp_step)
  exact hq
theorem check_tcK {rest : List Value} {kw : List (Str × Value)} {Q : Unit → Shared → Prop} (hC : h.get? C = some (excClassObj nm q C N bs bm hdct sn sub ab col dd k0 k1 k2 k3 k5 newId))
    (hq : Q () ⟨h, g, d, t, os⟩) : wpAny M A (checkBuiltinCall "type.__call__" ⟨.ref C :: rest, kw⟩) Q E ⟨h, g, d, t, os⟩ := by
  have f3 := tc_sub
  have hT : (⟨h, g, d, t, os⟩ : Shared).TypeIs (.ref C) "type" := ⟨_, hC, rfl⟩
  simp only [checkBuiltinCall, tc_kind, tc_split]
  repeat (any_goals (first | assumption | with_reducible refine wpAny_loadPart_at hC ?_ | with_reducible refine wpAny_onRaise ?_ | with_reducible refine wpAny_map ?_ | wp_step))
end
section
variable {prog : Program} {w : World} {A : Around} {E : Value → Shared → Prop} {R : Result → Shared → Prop} {h : Heap} {g : Array GenState} {d : Drawn} {t : Nat} {os : OsState}
variable {nm q : Str} {C N : Addr} {bs bm bmB : List Value} {hdct : Bool} {sn : List Str} {sub : List Value} {ab : Bool} {col : Option Bool} {dd : Option Addr} {k0 k1 k2 k3 k5 : Option Value} {B newId initId : String}
theorem newK (F : ExcBaseFacts B newId initId bmB) (hT : ∀ X : String, bm.contains (.type X) = bmB.contains (.type X)) {rest : List Value} {kw : List (Str × Value)}
    (hC : h.get? C = some (excClassObj nm q C N bs bm hdct sn sub ab col dd k0 k1 k2 k3 k5 newId))
    (hq : R (.ok (.ret (.ref (h.objs.size + 1)))) ⟨(h.push { cls := .type "tuple", data := .seq rest.toArray }).push
      { cls := .ref C, data := .fields #[.ref h.objs.size, .none, .none, .none, .bool false, .none] }, g, d, t, os⟩) (hrest : rest.length ≤ sizeLine) :
    codeAny (model prog w) A (.builtin newId ⟨.ref C :: rest, kw⟩) R ⟨h, g, d, t, os⟩ := by
  have hends := F.ends
  have hcB : (Value.ref C :: bm).contains (.type B) = true := by rw [List.contains_cons, hT, F.hasB, Bool.or_true]
  have hcA : (Value.ref C :: bm).contains (.type "AttributeError") = false := by rw [List.contains_cons, hT, F.noAttr]; rfl
  have hcN : (Value.ref C :: bm).contains (.type "NameError") = false := by rw [List.contains_cons, hT, F.noName]; rfl
  refine codeAny_builtinAt F.entry ?_
  unfold Builtin.«BaseException.__new__»
  refine wpAt_bind ?_
  show wpAt _ _ _ (stack >>= _) _ _ _
  refine wpAt_bind (wpAt_stack fun p below => wpAt_of_wpAny ?_)
  wp_walk
  refine wpAt_of_wpAny ?_
  rw [F.owner]
  repeat (first | with_reducible refine wpAny_madeHere_exc F.canon hC ?_ | with_reducible refine wpAny_loadPart_at hC ?_ | (with_reducible refine wpAny_isSubtype_exc hC ?_; first | rw [hcB] | rw [hcA] | rw [hcN]) | wp_step)
  show R _ _
  rw [Heap.size_push]
  exact hq
theorem type_callK (F : ExcBaseFacts B newId initId bmB) (hT : ∀ X : String, bm.contains (.type X) = bmB.contains (.type X)) {rest : List Value} {kw : List (Str × Value)} {fI : Addr} {Q : Fin → Shared → Prop}
    (hC : h.get? C = some (excClassObj nm q C N bs bm hdct sn sub ab col dd k0 k1 k2 k3 k5 newId))
    (hi : W.Looks (model prog w) h (typeLookup (.ref C) "__init__") (some (.ref fI))) (hb : ∀ self, W.Looks (model prog w) h (bindSpecial (.ref fI) self) (.ref fI, [self])) (hrest : rest.length ≤ sizeLine)
    (hq : codeAny (model prog w) A (.call (.ref fI) ⟨.ref (h.objs.size + 1) :: rest, kw⟩)
      (fun r s' => match r with | .ok (.ret v) => v = .none ∧ Q (.done (.ret (.ref (h.objs.size + 1)))) s' | .ok _ => False | .error e => E e s')
      ⟨(h.push (W.kdv_tup rest)).push (excO C h.objs.size), g, d, t, os⟩) :
    wpAny (model prog w) A (Builtin.«type.__call__» ⟨.ref C :: rest, kw⟩) Q E ⟨h, g, d, t, os⟩ := by
  repeat (first | with_reducible refine wpAny_loadPart_at hC ?_ | with_reducible refine wpAny_madeBy_exc hC ?_ | wp_step)
  refine codeAny_call_builtin_code (Code.quiet_builtin _ F.quiet) (check_newK F hT hC ?_)
  refine newK F hT hC ?_ hrest
  show wpAny _ _ _ _ _ _
  have k : ∀ b o, h.get? b = some o → ((h.push (W.kdv_tup rest)).push (excO C h.objs.size)).get? b = some o := fun b o e => Heap.get?_push_of_some _ (Heap.get?_push_of_some _ e)
  have hC₁ := k _ _ hC
  have hget : ((h.push (W.kdv_tup rest)).push (excO C h.objs.size)).get? (h.objs.size + 1) = some (excO C h.objs.size) := by heap_get
  have hcC : (Value.ref C :: bm).contains (.ref C) = true := by simp
  have i1 := hi.keeps k
  have b1 := (hb (.ref (h.objs.size + 1))).keeps k
  unfold isInstance
  repeat (first | with_reducible refine wpAny_loadPart_at hget ?_ | (with_reducible refine wpAny_isSubtype_exc hC₁ ?_; rw [hcC]) | wp_step)
  show wpAny _ _ (typeLookup (.ref C) _) _ _ _
  refine i1.at ?_
  refine wpAny_holding (wpAny_bind (b1.at ?_))
  refine wpAny_bind (wpAny_call (codeAny_mono hq fun r s' z => ?_))
  rcases r with e | (v | _ | _ | _) <;> first | exact z | exact z.elim | skip
  obtain ⟨rfl, z⟩ := z
  first
    | exact wpAny_pure (wpAny_pure z)
    | (wp_walk; exact z)
theorem callK (F : ExcBaseFacts B newId initId bmB) (hT : ∀ X : String, bm.contains (.type X) = bmB.contains (.type X)) {rest : List Value} {kw : List (Str × Value)} {fI : Addr}
    (hC : h.get? C = some (excClassObj nm q C N bs bm hdct sn sub ab col dd k0 k1 k2 k3 k5 newId))
    (hi : W.Looks (model prog w) h (typeLookup (.ref C) "__init__") (some (.ref fI))) (hb : ∀ self, W.Looks (model prog w) h (bindSpecial (.ref fI) self) (.ref fI, [self])) (hrest : rest.length ≤ sizeLine)
    (hq : codeAny (model prog w) (A.under (.builtin "type.__call__" ⟨.ref C :: rest, kw⟩)) (.call (.ref fI) ⟨.ref (h.objs.size + 1) :: rest, kw⟩) (W.InitBack (h.objs.size + 1) R)
      ⟨(h.push (W.kdv_tup rest)).push (excO C h.objs.size), g, d, t, os⟩) :
    codeAny (model prog w) A (.call (.ref C) ⟨rest, kw⟩) R ⟨h, g, d, t, os⟩ := by
  have f1 := tc_lookup
  have f2 := tc_bind (.ref C)
  have hTy : (⟨h, g, d, t, os⟩ : Shared).TypeIs (.ref C) "type" := ⟨_, hC, rfl⟩
  refine codeAny_of_tree ?_
  show wpAny _ _ (callAny (.ref C) _) _ _ _
  repeat (any_goals (first | assumption | with_reducible refine wpAny_loadPart_at hC ?_ | wp_step))
  refine ⟨rfl, ?_⟩
  refine codeAny_call_builtin_at (Code.quiet_builtin _ (by decide +kernel)) entry_typeCall (check_tcK hC (type_callK F hT hC hi hb hrest ?_))
  refine codeAny_mono hq fun r s' z => ?_
  rcases r with e | (v | _ | _ | _) <;> exact z
end
end YEk
end PySem

set_option Elab.async false
set_option linter.all false
set_option maxRecDepth 100000
set_option maxHeartbeats 4000000
namespace Y
open PySem PySem.Spec L2
set_option autoImplicit false
variable [TB]
/-! ### own exceptions over ValueError whose __init__ keeps its parameters as fields -/
/-- the base class of the own ones: its __init__ is ValueError's -/
structure CrewC (K : PySem.W.Frag) (B : Addr) : Prop where
  rd : PySem.W.readsIn K B (.type "type") = true
  ga : PySem.W.specialIn K (.ref B) "__getattribute__" = some (some (.builtin "type.__getattribute__"))
  iv : PySem.W.findCls K (.ref B) (.type "type") "__init__" = some (.val (.builtin "ValueError.__init__"))
section
variable {X : Cx} {e : Expr} {es : List Expr} {ta t tk : TA} {p p1 p2 pos : Pos} {B : Addr} {x : Str} {kws : List Keyword}
theorem pe_crew {pl : Sem Bool} (C : CrewC X.K B) (hg : Gl X x) (hm : X.mg x = some (.ref B)) (ha : PA X (e :: es) ta) (hdb : (x == ("__debug__" : Str)) = false := by decide)
    (hc : eval (.Call (.Attribute (.Name x p1) "__init__" p2) (e :: es) [] pos) X.env = (do
      let ov ← eval (.Name x p1) X.env
      standAt p2.atName
      let (f, first) ← holding [ov] (getMethod ov "__init__" pl)
      callWith pos f first (backTo pos (starEach (e :: es) X.env)) (backToKw pos (keywordEach [] X.env))) := by rfl)
    (he : starEach (e :: es) X.env = (false, eval e X.env) :: starEach es X.env := by rfl) (hpl : (backTo pos (starEach es X.env)).any (·.1) = false := by rfl) :
    PE X (.Call (.Attribute (.Name x p1) "__init__" p2) (e :: es) [] pos) (tVeI X.K ta) := by
  refine ⟨fun pins s σ H Q I h => ?_⟩
  refine PySem.W.methodCall_KW (ld_glob I hg hm ?_ hdb) hc
  refine PySem.W.method_cls I.kIn C.ga (PySem.W.cls_value I.kIn C.rd C.iv rfl ?_)
  show wpAny _ _ (callWith pos (Value.builtin "ValueError.__init__") [] (backTo pos (starEach (e :: es) X.env)) []) _ _ _
  refine PyProof.Rows.callWith_method1 (thn (ha.run pos pins _ σ H _ (I.tok _) h) fun us s1 ⟨vs, H1, I1, r1, a, C, ws, ev, hl, T, ea, q⟩ => ?_) he hpl
  subst ev
  cases r1 with
  | @cons _ u0 _ ur ra rw' =>
    obtain rfl : u0 = Value.ref a := ra
    have hlen : ur.length ≤ sizeLine := by
      rw [← Paired.length rw', sizeLine_eq]
      omega
    exact oinit_ok T I1 ea hlen fun s' J => ⟨.non, H1, J, rfl, q⟩
end
/-- the heap when the exception at a has its fields -/
def exH (H : Hp) (a dx C : Addr) (gs : List (Str × V)) : Hp := upd (upd H dx (exd dx gs)) a (exo a C (some dx))
/-- what such an __init__ does -/
def spX (K : PySem.W.Frag) (fs : List Str) : Sp := fun vs H Q _ => ∃ (a C : Addr) (ws : List V), vs = .ref a :: ws ∧ ws.length = fs.length ∧ OexC K C ∧ (∀ f ∈ fs, PySem.W.findIn K (.ref C) f = some none) ∧ H a = some (exo a C none) ∧
  ∀ dx, H dx = none → dx ≠ a → Q .non (exH H a dx C (fs.zip ws).reverse)
def CrewEv (qual : Str) (st : Stmt) (fI : Addr) (p1 p2 p3 p4 p5 : Pos) (m : Str) (j : Nat) : Prop := ∀ (L : Addr) (cdv : Value), ∃ pl : Sem Bool, eval (.Call (.Attribute (.Name "CrewError" p1) "__init__" p2) [.Name "self" p3, .Constant (.str m) j p4] [] p5) (PyProof.Rows.envOfC qual (defScope st) L fI cdv) = (do
      let ov ← eval (.Name "CrewError" p1) (PyProof.Rows.envOfC qual (defScope st) L fI cdv)
      standAt p2.atName
      let (f, first) ← holding [ov] (getMethod ov "__init__" pl)
      callWith p5 f first (backTo p5 (starEach [.Name "self" p3, .Constant (.str m) j p4] (PyProof.Rows.envOfC qual (defScope st) L fI cdv))) (backToKw p5 (keywordEach [] (PyProof.Rows.envOfC qual (defScope st) L fI cdv))))
section
variable {P : Program} {w : World} {K : PySem.W.Frag} {mg : Mg} {base : Heap} {qual : Str} {st : Stmt} {fI B : Addr} {fd : FuncData} {fl gl m : Str} {j : Nat} {p1 p2 p3 p4 p5 p6 p7 p8 p9 p10 p11 p12 p13 p14 : Pos} {dvs : List V} {kws : List (Str × V)} {x : Str}
theorem ex_init1 (Fu : FunD K "__init__" qual (defArgs st) (defBody st) (defScope st) dvs kws fI fd) (S : FnScope ["self", fl] ["self", fl] (defScope st)) (C : CrewC K B) (hm : mg "CrewError" = some (.ref B))
    (hb : defBody st = [.Expr (.Call (.Attribute (.Name "CrewError" p1) "__init__" p2) [.Name "self" p3, .Constant (.str m) j p4] [] p5) p6, .Assign [.Attribute (.Name "self" p7) fl p8] (.Name fl p9) p10])
    (hg : (defScope st).names.lookup ("CrewError" : Str) = some .globalImplicit) (hev : CrewEv qual st fI p1 p2 p3 p4 p5 m j) (hs : Vis (defScope st) "self") (hf : Vis (defScope st) fl) (hd : (fl == ("__debug__" : Str)) = false := by decide) (hcd : (fl == ("__classdict__" : Str)) = false := by decide) :
    FnOk P w K mg base (L2.CX P w) 2 fI fd ["self", fl] (spX K [fl]) := by
  obtain ⟨oc, od, dV, kV, doc, pm, an, cdv, ct, osl, rfl, lk, hcd', _, _⟩ := Fu.ex
  refine fn_of lk hcd' S (fun vs H Q E ⟨a, C, ws, e, l, _⟩ => by rw [e, List.length_cons, l]; rfl) (fun A outer s H vs Q E hr h => ?_)
  rw [hb]
  refine ⟨_, pss_cons (ps_expr (pe_crew (x := "CrewError") C hg hm (pa_cons (pe_var (i := 0) rfl hs) (pa_cons pe_str pa_nil)) (hc := (hev _ _).choose_spec))) (pss_one (ps_ost (pe_var (i := 0) rfl hs) (pe_var (i := 1) rfl hf hd hcd))), ?_⟩
  obtain ⟨a, C, ws, rfl, l, T, nf, ea, q⟩ := h
  obtain ⟨v, rfl⟩ : ∃ v, ws = [v] := by
    match ws, l with
    | [v], _ => exact ⟨v, rfl⟩
  refine ⟨_, rfl, a, C, [.str m], rfl, by simp, T, ea, ?_⟩
  refine ⟨_, rfl, _, rfl, a, C, rfl, T, nf fl (by simp), .inl ⟨ea, fun dx h1 h2 => q dx h1 h2⟩⟩
theorem ex_init2 (Fu : FunD K "__init__" qual (defArgs st) (defBody st) (defScope st) dvs kws fI fd) (S : FnScope ["self", fl, gl] ["self", fl, gl] (defScope st)) (C : CrewC K B) (hm : mg "CrewError" = some (.ref B))
    (hb : defBody st = [.Expr (.Call (.Attribute (.Name "CrewError" p1) "__init__" p2) [.Name "self" p3, .Constant (.str m) j p4] [] p5) p6, .Assign [.Attribute (.Name "self" p7) fl p8] (.Name fl p9) p10, .Assign [.Attribute (.Name "self" p11) gl p12] (.Name gl p13) p14])
    (hg : (defScope st).names.lookup ("CrewError" : Str) = some .globalImplicit) (hev : CrewEv qual st fI p1 p2 p3 p4 p5 m j) (hs : Vis (defScope st) "self") (hf : Vis (defScope st) fl) (hf2 : Vis (defScope st) gl) (hd : (fl == ("__debug__" : Str)) = false := by decide) (hcd : (fl == ("__classdict__" : Str)) = false := by decide)
    (hd2 : (gl == ("__debug__" : Str)) = false := by decide) (hcd2 : (gl == ("__classdict__" : Str)) = false := by decide) :
    FnOk P w K mg base (L2.CX P w) 2 fI fd ["self", fl, gl] (spX K [fl, gl]) := by
  obtain ⟨oc, od, dV, kV, doc, pm, an, cdv, ct, osl, rfl, lk, hcd', _, _⟩ := Fu.ex
  refine fn_of lk hcd' S (fun vs H Q E ⟨a, C, ws, e, l, _⟩ => by rw [e, List.length_cons, l]; rfl) (fun A outer s H vs Q E hr h => ?_)
  rw [hb]
  refine ⟨_, pss_cons (ps_expr (pe_crew (x := "CrewError") C hg hm (pa_cons (pe_var (i := 0) rfl hs) (pa_cons pe_str pa_nil)) (hc := (hev _ _).choose_spec))) (pss_cons (ps_ost (pe_var (i := 0) rfl hs) (pe_var (i := 1) rfl hf hd hcd)) (pss_one (ps_ost (pe_var (i := 0) rfl hs) (pe_var (i := 2) rfl hf2 hd2 hcd2)))), ?_⟩
  obtain ⟨a, C, ws, rfl, l, T, nf, ea, q⟩ := h
  obtain ⟨v, u, rfl⟩ : ∃ v u, ws = [v, u] := by
    match ws, l with
    | [v, u], _ => exact ⟨v, u, rfl⟩
  refine ⟨_, rfl, a, C, [.str m], rfl, by simp, T, ea, ?_⟩
  refine ⟨_, rfl, _, rfl, a, C, rfl, T, nf fl (by simp), .inl ⟨ea, fun dx h1 h2 => ?_⟩⟩
  refine ⟨_, rfl, _, rfl, a, C, rfl, T, nf gl (by simp), .inr ⟨dx, [(fl, v)], upd_same, by rw [upd_ne h2, upd_same], by simp, ?_⟩⟩
  have z := q dx h1 h2
  have e : upd (upd (upd H dx (exd dx [(fl, v)])) a (exo a C (some dx))) dx (exd dx ((gl, u) :: [(fl, v)])) = exH H a dx C (List.zip [fl, gl] [v, u]).reverse := by
    unfold exH
    funext b
    by_cases hb1 : b = dx
    · subst hb1; rw [upd_same, upd_ne h2, upd_same]; rfl
    · rw [upd_ne hb1]
      by_cases hb2 : b = a
      · subst hb2; rw [upd_same, upd_same]
      · rw [upd_ne hb2, upd_ne hb2, upd_ne hb1, upd_ne hb1]
  show Q .non (upd (upd (upd H dx (exd dx [(fl, v)])) a (exo a C (some dx))) dx (exd dx ((gl, u) :: [(fl, v)])))
  rw [e]
  exact z
end
end Y

set_option Elab.async false
set_option linter.all false
set_option maxRecDepth 100000
set_option maxHeartbeats 4000000
namespace Y
open PySem PySem.Spec L2
set_option autoImplicit false
variable [TB]
/-- a class of exceptions, made with the fields fs -/
structure ExcF (K : PySem.W.Frag) (mg : Mg) (c : Str) (C fI : Addr) (fs : List Str) : Prop where
  mgC : mg c = some (.ref C)
  ox : OexC K C
  iC : PySem.W.findIn K (.ref C) "__init__" = some (some (.ref fI))
  tI : PySem.W.typeIn K (.ref fI) = some (.type "function")
  nf : ∀ f ∈ fs, PySem.W.findIn K (.ref C) f = some none
  xf : XfC K C
  ec : ExcC K C
def ExcOk (P : Program) (w : World) (K : PySem.W.Frag) (mg : Mg) (c : Str) (fs : List Str) (n : Nat) (ks : List Str) (gD : List D → List D → List D) : Prop :=
  ∃ C fI fd, ExcF K mg c C fI fs ∧ (∀ base, FnOk P w K mg base (L2.CX P w) 2 fI fd ("self" :: fs) (spX K fs)) ∧ FormOk K mg fd ("self" :: fs) n ks gD
/-! ### made, as a value -/
def tMkV (C : Addr) (n m : Nat) (sp : Sp) (gV : List V → List V → List V) (t tk : TA) : TE := fun σ H Q => t σ H fun vs H1 => tk σ H1 fun zs H2 => vs.length = n ∧ zs.length = m ∧
  ∀ a, H2 a = none → sp (gV (.ref a :: vs) zs) (upd H2 a (exo a C none)) (fun v H3 => v = .non ∧ Q (.ref a) H3) (fun _ _ _ => False)
section
variable {X : Cx} {k n : Nat} {C fI : Addr} {fd : FuncData} {ps ks fs : List Str} {sp : Sp} {x : Str} {p pos : Pos} {e : Expr} {es : List Expr} {kws : List Keyword} {t tk : TA} {g : List Value → List Value → List Value} {gV : List V → List V → List V} {CX : CXT}
theorem run_exV {pins : List (Addr × Obj)} {σ : St} {H : Hp} {s : Shared} {Q : VK} {us ws : List Value} {vs zs : List V} (T : ExcF X.K X.mg x C fI fs) (F : FnOk X.prog X.w X.K X.mg X.base CX k fI fd ps sp) (hr : Room (k + 1) X.A) (hb : KBn X.K fd ps (n + 1) ks g gV)
    (hx : Passes CX X (fun _ _ _ => False)) (I : Inv X pins σ H s) (r : Vals vs us) (rz : Vals zs ws) (l1 : vs.length = n) (l2 : zs.length = ks.length) (hn : n ≤ 1000)
    (h : ∀ a, H a = none → sp (gV (.ref a :: vs) zs) (upd H a (exo a C none)) (fun v H2 => v = .non ∧ Q (.ref a) H2) (fun _ _ _ => False)) :
    wpAny (model X.prog X.w) X.A (call (.ref C) us (ks.zip ws)) (EP X pins σ Q) X.xe s := by
  obtain ⟨nm, q, N, bs, bm, sn, sub, ab, col, dd, k0, k1, k2, k3, k5, hC, hbm⟩ := T.ox.cls
  obtain ⟨hp, g', dr, tk, os⟩ := s
  have hsz : hp.objs.size ≤ hp.objs.size + 1 := Nat.le_succ _
  have hnone : H (hp.objs.size + 1) = none := I.hok.fresh hsz
  have hq := h (hp.objs.size + 1) hnone
  have kk : ∀ b o, hp.get? b = some o → ((hp.push (PySem.W.kdv_tup us)).push (PySem.HandSPX.excO C hp.objs.size)).get? b = some o := fun b o e => Heap.get?_push_of_some _ (Heap.get?_push_of_some _ e)
  have hget : ((hp.push (PySem.W.kdv_tup us)).push (PySem.HandSPX.excO C hp.objs.size)).get? (hp.objs.size + 1) = some (PySem.HandSPX.excO C hp.objs.size) := by heap_get
  have I2 : Inv X pins σ (upd H (hp.objs.size + 1) (exo (hp.objs.size + 1) C none)) ⟨(hp.push (PySem.W.kdv_tup us)).push (PySem.HandSPX.excO C hp.objs.size), g', dr, tk, os⟩ :=
    I.laid (t' := tk) (a := hp.objs.size + 1) (o := exo (hp.objs.size + 1) C none) (h' := (hp.push (PySem.W.kdv_tup us)).push (PySem.HandSPX.excO C hp.objs.size)) kk hsz (exo_ok hget)
  have r1 : Vals (V.ref (hp.objs.size + 1) :: vs) (Value.ref (hp.objs.size + 1) :: us) := .cons rfl r
  have r2 := hb.rel r1 rz
  have e1 : (Value.ref (hp.objs.size + 1) :: us).length = n + 1 := r1.length.symm.trans (congrArg Nat.succ l1)
  have e2 : ws.length = ks.length := rz.length.symm.trans l2
  have hus : us.length ≤ sizeLine := by
    rw [← r.length, l1, sizeLine_eq]
    omega
  refine wpAny_call (PySem.YEk.callK PySem.F.excBase_ValueError (fun Y => PySem.HandSPX.refsVE_contains Y bm hbm) (I.kIn _ _ hC) (PySem.W.looks_findIn I.kIn T.iC) (fun self => PySem.W.bind_fn I.kIn self T.tI) hus
    (codeAny_mono (F.run _ X.stack _ _ ⟨Value.ref (hp.objs.size + 1) :: us, ks.zip ws⟩ (g (Value.ref (hp.objs.size + 1) :: us) ws) _ _ (fun _ _ _ => False) (hr.make C us (ks.zip ws)) (I2.env0.make C us (ks.zip ws)) (hb.to _ (Value.ref (hp.objs.size + 1) :: us) ws I2.kIn e1 e2) r2 hq) fun r s' hq' => ?_))
  cases r with
  | error er => exact hx pins σ _ _ er s' I2 hq'
  | ok fl =>
    cases fl with
    | ret u =>
      obtain ⟨v, H', I3, rv, ev, q3⟩ := I2.after hq'
      subst ev
      exact ⟨rv, ⟨V.ref (hp.objs.size + 1), H', I3, rfl, q3⟩⟩
    | next => exact False.elim hq'
    | brk => exact False.elim hq'
    | cont => exact False.elim hq'
theorem pe_exV (T : ExcF X.K X.mg x C fI fs) (F : FnOk X.prog X.w X.K X.mg X.base CX k fI fd ps sp) (hr : Room (k + 1) X.A) (hg : Gl X x) (hb : KBn X.K fd ps (n + 1) ks g gV) (hx : Passes CX X (fun _ _ _ => False)) (hn : n ≤ 1000)
    (ha : PA X (e :: es) t) (hkw : PK X kws tk) (hall : (backToKw pos (keywordEach kws X.env)).all (·.1.isSome) = true := by rfl) (hks : (backToKw pos (keywordEach kws X.env)).filterMap (·.1) = ks := by rfl)
    (hdb : (x == ("__debug__" : Str)) = false := by decide) (he : starEach (e :: es) X.env = (false, eval e X.env) :: starEach es X.env := by rfl)
    (hpl : ((backTo pos (starEach (e :: es) X.env)).any (·.1) || (backToKw pos (keywordEach kws X.env)).any (·.1.isNone)) = false := by rfl) :
    PE X (.Call (.Name x p) (e :: es) kws pos) (tMkV C n ks.length sp gV t tk) := by
  refine ⟨fun pins s σ H Q I h => ?_⟩
  refine wpAny_Call_Name_kw (ld_glob I hg T.mgC ?_ hdb)
  refine PySem.W.callWith_KW (h₀ := X.base) I.ok.mod.kin T.ox.kC hall (thn (ha.run pos pins s σ H _ I h) fun us s1 ⟨vs, H1, I1, r, q⟩ => ?_) hpl he
  refine thn (hkw.run pos pins s1 σ H1 _ I1 q) fun ws s2 ⟨zs, H2, I2, rz, l1, l2, q2⟩ => ⟨I2.kIn, ?_⟩
  rw [hks]
  exact run_exV T F hr hb hx I2 r rz l1 l2 hn q2
theorem pe_exV0 (T : ExcF X.K X.mg x C fI fs) (F : FnOk X.prog X.w X.K X.mg X.base CX k fI fd ps sp) (hr : Room (k + 1) X.A) (hg : Gl X x) (hb : KBn X.K fd ps 1 ks g gV) (hx : Passes CX X (fun _ _ _ => False)) (hkw : PK X kws tk)
    (hall : (backToKw pos (keywordEach kws X.env)).all (·.1.isSome) = true := by rfl) (hks : (backToKw pos (keywordEach kws X.env)).filterMap (·.1) = ks := by rfl) (hdb : (x == ("__debug__" : Str)) = false := by decide)
    (hpl : ((backTo pos (starEach [] X.env)).any (·.1) || (backToKw pos (keywordEach kws X.env)).any (·.1.isNone)) = false := by rfl) :
    PE X (.Call (.Name x p) [] kws pos) (tMkV C 0 ks.length sp gV tNil tk) := by
  refine ⟨fun pins s σ H Q I h => ?_⟩
  refine wpAny_Call_Name_kw (ld_glob I hg T.mgC ?_ hdb)
  refine PySem.W.callWith_KW0 (h₀ := X.base) I.ok.mod.kin T.ox.kC hall ?_ hpl
  refine thn (hkw.run pos pins s σ H _ I h) fun ws s2 ⟨zs, H2, I2, rz, l1, l2, q2⟩ => ⟨I2.kIn, ?_⟩
  rw [hks]
  exact run_exV (us := []) (vs := []) T F hr hb hx I2 .nil rz rfl l2 (Nat.zero_le _) q2
end
/-! .. in the layer -/
section
variable {K : PySem.W.Frag} {mg : Mg} {F H : Hp} {e : Sl} {σ : St}
theorem newF (R : Rel K mg F e σ H) {p : Addr} {o : HO} (hp : H p = none) (hT : NoTbl o) : Rel K mg (upd F p o) e σ (upd H p o) ∧ Stp F H e σ (upd F p o) (upd H p o) e σ :=
  ⟨(R.new hp).freeze upd_same (R.notOwn hp) (R.free hp) hT, Stp.freeze (R.new hp) upd_same (R.free hp) (Stp.new R hp) (.inl hp)⟩
theorem RepF.app : ∀ {a b : List (Str × V)} {c d : List (Str × D)}, RepF K mg F a c → RepF K mg F b d → RepF K mg F (a ++ b) (c ++ d)
  | _, _, _, _, .nil, h => h
  | _, _, _, _, .cons r t, h => .cons r (RepF.app t h)
theorem RepF.zipR : ∀ {fs : List Str} {ws : List V} {ds : List D}, Reps K mg F ws ds → ws.length = fs.length → RepF K mg F (fs.zip ws).reverse (fs.zip ds).reverse
  | [], _, _, .nil, _ => .nil
  | f :: fs, _, _, .cons r t, h => by
    rw [List.zip_cons_cons, List.zip_cons_cons, List.reverse_cons, List.reverse_cons]
    exact RepF.app (RepF.zipR t (by simpa using h)) (.cons r .nil)
end
def mkE (c : Str) (fs : List Str) (nn mm : Nat) (g : List D → List D → List D) (rs rk : List RV) : M RV := fun e => match valsOf rs, valsOf rk with
  | some ds, some dk => if ds.length = nn ∧ dk.length = mm ∧ (g ds dk).length = fs.length then .ok (.val (.exc c (fs.zip (g ds dk)).reverse)) e else .bad
  | _, _ => .bad
def eExc (c : Str) (fs : List Str) (nn mm : Nat) (g : List D → List D → List D) (as ks : M (List RV)) : M RV := M.bind as fun rs => M.bind ks fun rk => mkE c fs nn mm g rs rk
section
variable {X : Cx} {W : WX} {a : Expr} {es : List Expr} {as ks : M (List RV)} {pos p : Pos} {nn : Nat} {nms fs : List Str} {c : Str} {kws : List Keyword} {gD : List D → List D → List D}
theorem mkE_ok {C fI : Addr} {F2 H2 : Hp} {e2 : Sl} {σ : St} {Q : VK} {rs rk : List RV} {vs zs : List V} {gV : List V → List V → List V} (T : ExcF X.K X.mg c C fI fs)
    (hgD : ∀ (F : Hp) (v : V) (vs zs : List V) (ds dk : List D), Reps X.K X.mg F vs ds → Reps X.K X.mg F zs dk → ds.length = nn → dk.length = nms.length → ∃ ws, gV (v :: vs) zs = v :: ws ∧ Reps X.K X.mg F ws (gD ds dk))
    (R2 : Rel X.K X.mg F2 e2 σ H2) (q1 : Args X.K X.mg F2 σ vs rs) (q2 : Args X.K X.mg F2 σ zs rk) (h2 : post X.K X.mg W (rV X.K X.mg) F2 H2 e2 σ (mkE c fs nn nms.length gD rs rk e2) Q) :
    vs.length = nn ∧ zs.length = nms.length ∧ ∀ a, H2 a = none → spX X.K fs (gV (.ref a :: vs) zs) (upd H2 a (exo a C none)) (fun v H3 => v = .non ∧ Q (.ref a) H3) (fun _ _ _ => False) := by
  unfold mkE at h2
  cases w1 : valsOf rs with
  | none => rw [w1] at h2; exact h2.elim
  | some ds =>
    cases w2 : valsOf rk with
    | none => rw [w1, w2] at h2; exact h2.elim
    | some dk =>
      rw [w1, w2] at h2
      dsimp only at h2
      split at h2
      · rename_i hl
        obtain ⟨hl1, hl2, hl3⟩ := hl
        have r1 := q1.reps w1
        have r2 := q2.reps w2
        refine ⟨by rw [r1.length]; exact hl1, by rw [r2.length]; exact hl2, fun a ha => ?_⟩
        obtain ⟨ws, e1, rw'⟩ := hgD F2 (.ref a) vs zs ds dk r1 r2 hl1 hl2
        rw [e1]
        have lw : ws.length = fs.length := rw'.length.trans hl3
        refine ⟨a, C, ws, rfl, lw, T.ox, T.nf, upd_same, fun dx h1 h2' => ⟨rfl, ?_⟩⟩
        have hdx : H2 dx = none := by rw [upd_ne h2'] at h1; exact h1
        have eH : exH (upd H2 a (exo a C none)) a dx C (fs.zip ws).reverse = upd (upd H2 dx (exd dx (fs.zip ws).reverse)) a (exo a C (some dx)) := by
          unfold exH
          funext b
          by_cases hb : b = a
          · subst hb; rw [upd_same, upd_same]
          · rw [upd_ne hb, upd_ne hb]
            by_cases hb2 : b = dx
            · subst hb2; rw [upd_same, upd_same]
            · rw [upd_ne hb2, upd_ne hb2, upd_ne hb]
        rw [eH]
        obtain ⟨R3, s3⟩ := newF (o := exd dx (fs.zip ws).reverse) R2 hdx (fun ps => exd_tbl)
        have ha3 : upd H2 dx (exd dx (fs.zip ws).reverse) a = none := by rw [upd_ne (Ne.symm h2')]; exact ha
        obtain ⟨R4, s4⟩ := newF (o := exo a C (some dx)) R3 ha3 (fun ps => exo_tbl)
        refine h2 _ _ _ (s3.trans s4) R4 (.exc (dx := dx) (gs := (fs.zip ws).reverse) T.mgC upd_same ?_ ?_)
        · rw [upd_ne h2', upd_same]
        · exact ((RepF.zipR rw' lw).mono s3.fro).mono s4.fro
      · exact h2.elim
theorem de_exc (G : ExcOk X.prog X.w X.K X.mg c fs nn nms gD) (hr : Room 3 X.A) (tk : Takes X W) (hg : Gl X c) (hn : nn ≤ 1000) (ha : DA X W (a :: es) as) (hk : DK X W kws ks)
    (hall : (backToKw pos (keywordEach kws X.env)).all (·.1.isSome) = true := by rfl) (hks : (backToKw pos (keywordEach kws X.env)).filterMap (·.1) = nms := by rfl) (hdb : (c == ("__debug__" : Str)) = false := by decide)
    (he : starEach (a :: es) X.env = (false, eval a X.env) :: starEach es X.env := by rfl) (hpl : ((backTo pos (starEach (a :: es) X.env)).any (·.1) || (backToKw pos (keywordEach kws X.env)).any (·.1.isNone)) = false := by rfl) :
    DE X W (.Call (.Name c p) (a :: es) kws pos) (eExc c fs nn nms.length gD as ks) := by
  obtain ⟨C, fI, fd, T, G, gu, gV, kb, hgD⟩ := G
  refine peW (pe_exV T (G X.base) hr hg kb (passes_call tk fun _ _ _ _ z => z.elim) hn ha hk hall hks hdb he hpl) fun σ H Q ⟨e, F, R, h⟩ => ?_
  refine ⟨e, F, R, post_imp (post_seq up_V h) ?_⟩
  rintro vs H1 ⟨rs, e1, F1, q1, R1, s1, h1⟩
  refine ⟨e1, F1, R1, post_imp (post_seq up_V h1) ?_⟩
  rintro zs H2 ⟨rk, e2, F2, q2, R2, s2, h2⟩
  exact mkE_ok T hgD R2 (q1.mono s2.fro) q2 h2
theorem de_exc0 (G : ExcOk X.prog X.w X.K X.mg c fs 0 nms gD) (hr : Room 3 X.A) (tk : Takes X W) (hg : Gl X c) (hk : DK X W kws ks)
    (hall : (backToKw pos (keywordEach kws X.env)).all (·.1.isSome) = true := by rfl) (hks : (backToKw pos (keywordEach kws X.env)).filterMap (·.1) = nms := by rfl) (hdb : (c == ("__debug__" : Str)) = false := by decide)
    (hpl : ((backTo pos (starEach [] X.env)).any (·.1) || (backToKw pos (keywordEach kws X.env)).any (·.1.isNone)) = false := by rfl) :
    DE X W (.Call (.Name c p) [] kws pos) (eExc c fs 0 nms.length gD aNil ks) := by
  obtain ⟨C, fI, fd, T, G, gu, gV, kb, hgD⟩ := G
  refine peW (pe_exV0 T (G X.base) hr hg kb (passes_call tk fun _ _ _ _ z => z.elim) hk hall hks hdb hpl) fun σ H Q ⟨e, F, R, h⟩ => ?_
  change post X.K X.mg W (rV X.K X.mg) F H e σ (M.bind ks (fun rk => mkE c fs 0 nms.length gD [] rk) e) Q at h
  refine ⟨e, F, R, post_imp (post_seq up_V h) ?_⟩
  rintro zs H2 ⟨rk, e2, F2, q2, R2, s2, h2⟩
  exact mkE_ok T hgD R2 .nil q2 h2
end
end Y

set_option Elab.async false
set_option linter.all false
set_option maxRecDepth 100000
set_option maxHeartbeats 4000000
namespace Y
open PySem PySem.Spec L2
set_option autoImplicit false
variable [TB]
section
variable {X : Cx} {pins : List (Addr × Obj)} {σ : St} {H : Hp} {s : Shared} {a C dx : Addr} {fs : List (Str × V)}
theorem exo_inst (I : Inv X pins σ H s) (ea : H a = some (exo a C (some dx))) (ed : H dx = some (exd dx fs)) :
    ∃ (ox od : Obj) (mA : Str → Option Value), PySem.W.InstAt s.heap a ox C (some od) ∧ (∀ n, PySem.W.lookIn n od = some (mA n)) ∧ ∀ f, RelO (fs.lookup f) (mA f) := by
  obtain ⟨t1, ho⟩ := exo_at I.hok ea
  obtain ⟨mA, hns, rel⟩ := exd_at I.hok ed
  obtain ⟨od, hod, hl⟩ := lookIn_ns hns
  exact ⟨_, od, mA, ⟨ho, rfl, rfl, hod⟩, hl, rel⟩
end
/-! ### a field of an exception that is held as a value -/
def tXV (K : PySem.W.Frag) (f : Str) (te : TE) : TE := fun σ H Q => te σ H fun x H1 => ∃ (a C dx : Addr) (fs : List (Str × V)) (v : V), x = .ref a ∧ H1 a = some (exo a C (some dx)) ∧ H1 dx = some (exd dx fs) ∧ XfC K C ∧ PySem.W.findIn K (.ref C) f = some none ∧ fs.lookup f = some v ∧ Q v H1
theorem pe_xv {X : Cx} {e : Expr} {te : TE} {pos : Pos} {n : Str} (he : PE X e te) (hb : attributeBase e n X.env (eval e X.env) = eval e X.env := by rfl) : PE X (.Attribute e n pos) (tXV X.K n te) := by
  refine ⟨fun pins s σ H Q I h => ?_⟩
  refine attr_of hb (thn (he.run pins s σ H _ I h) fun u s1 hh => ?_)
  obtain ⟨x, H1, I1, rx, a, C, dx, fs, v, ex, ea, ed, T, hno, l, q⟩ := hh
  subst ex
  obtain rfl : u = Value.ref a := rx
  obtain ⟨ox, od, mA, J, hl, hr⟩ := exo_inst I1 ea ed
  obtain ⟨u, hu, ru⟩ := RelO.some_of (v := v) (o := mA n) (by rw [← l]; exact hr n)
  exact HandSPX.exc_get I1.kIn J T.ga T.gg T.exC (PySem.W.findObj_own T.hdC hno rfl (by rw [hl, hu])) (handed_of ru) ⟨v, H1, I1.tok _, ru, q⟩
/-- cs: the classes that may come -/
def fldX (cs : List Str) (n : Str) : D → M RV
  | .exc c fs => fun e => if cs.contains c then (match fs.lookup n with
    | some d => .ok (.val d) e
    | none => .bad) else .bad
  | _ => M.bad
section
variable {X : Cx} {W : WX} {a : Expr} {f : M RV} {pos p : Pos}
theorem de_xv {cs : List Str} {n : Str} (hC : ∀ c ∈ cs, ∃ C, X.mg c = some (.ref C) ∧ XfC X.K C ∧ PySem.W.findIn X.K (.ref C) n = some none) (ha : DE X W a f) (hb : attributeBase a n X.env (eval a X.env) = eval a X.env := by rfl) :
    DE X W (.Attribute a n pos) (rd1 f (fldX cs n)) := peW (pe_xv ha hb) fun σ H Q h0 =>
  rd1_ok (r := fun x H1 Q => ∃ (a C dx : Addr) (fs : List (Str × V)) (v : V), x = .ref a ∧ H1 a = some (exo a C (some dx)) ∧ H1 dx = some (exd dx fs) ∧ XfC X.K C ∧ PySem.W.findIn X.K (.ref C) n = some none ∧ fs.lookup n = some v ∧ Q v H1) (fun F H e σ x d Q R rx h => by
    unfold fldX at h
    split at h
    · rename_i c fs
      split at h
      · rename_i hc
        cases w : fs.lookup n with
        | none => rw [w] at h; exact h.elim
        | some d =>
          rw [w] at h
          obtain ⟨p, dx, C, gs, rfl, m, h1, h2, r⟩ := rx
          obtain ⟨C', m', T, no⟩ := hC c (by simpa using hc)
          rw [m] at m'
          cases m'
          obtain ⟨v, l, rv⟩ := r.look w
          exact ⟨p, C, dx, gs, v, rfl, R.sub _ _ h1, R.sub _ _ h2, T, no, l, post_val R h rv⟩
      · exact h.elim
    · exact h.elim) h0
/-! ### isinstance of such an exception -/
def rIsX (K : PySem.W.Frag) : List V → Hp → VK → Prop := fun xs H Q => ∃ (a C dx : Addr) (fs : List (Str × V)) (c : V) (u : Value) (b : Bool), xs = [.ref a, c] ∧ ClsV c u ∧ H a = some (exo a C (some dx)) ∧ H dx = some (exd dx fs) ∧ ExcC K C ∧ PySem.W.kitOne K (.ref C) u = some b ∧ Q (.bl b) H
theorem call_isX : CallR X (.builtin "isinstance") (rIsX X.K) := by
  intro pins s σ H xs us Q I r h
  obtain ⟨a, C, dx, fs, c, u, b, rfl, k, ea, ed, T, e, q⟩ := h
  obtain ⟨u1, u2, rfl, r1, r2⟩ := vals2 r
  have e2 := k.eq r2
  subst e2
  cases (show u1 = Value.ref a from r1)
  obtain ⟨ox, od, mA, J, hl, hr⟩ := exo_inst I ea ed
  have hcl : (PySem.W.clsIn X.K C).isSome = true := by
    obtain ⟨cd, hc, _⟩ := PySem.W.any_some T.hd
    rw [hc]; rfl
  exact PySem.W.kia_one (PySem.W.kitx_exc hcl T.hg T.hk T.hs T.ha T.hn T.ht T.hm) I.kIn J e (fun z => nomatch z) fun tk => ⟨.bl b, H, I.tok tk, rfl, q⟩
def isX (sub : Str → Option Bool) : D → M RV
  | .exc c _ => fun e => match sub c with
    | some b => .ok (.val (.bl b)) e
    | none => .bad
  | _ => M.bad
theorem isX_ok {sub : Str → Option Bool} {cv : V} {u : Value} (k : ClsV cv u) (hs : ∀ c b, sub c = some b → ∃ C, X.mg c = some (.ref C) ∧ ExcC X.K C ∧ PySem.W.kitOne X.K (.ref C) u = some b) :
    K1 X.K X.mg W (fun x H1 Q => rIsX X.K [x, cv] H1 Q) (isX sub) := fun F H e σ x d Q R rx h => by
  unfold isX at h
  split at h
  · rename_i c fs
    cases w : sub c with
    | none => rw [w] at h; exact h.elim
    | some b =>
      rw [w] at h
      obtain ⟨p, dx, C, gs, rfl, m, h1, h2, r⟩ := rx
      obtain ⟨C', m', T, e1⟩ := hs c b w
      rw [m] at m'
      cases m'
      exact ⟨p, C, dx, gs, cv, u, b, rfl, k, R.sub _ _ h1, R.sub _ _ h2, T, e1, post_val R h (.bl b)⟩
  · exact h.elim
theorem de_isX {c : Str} {C : Addr} {q q2 : Pos} {sub : Str → Option Bool} (hg : Gl X "isinstance") (hm : X.mg "isinstance" = none) (hg2 : Gl X c) (hc : X.mg c = some (.ref C)) (hs : ∀ c b, sub c = some b → ∃ C', X.mg c = some (.ref C') ∧ ExcC X.K C' ∧ PySem.W.kitOne X.K (.ref C') (.ref C) = some b)
    (ha : DE X W a f) (hnd : (c == ("__debug__" : Str)) = false := by decide)
    (he : starEach [a, .Name c q2] X.env = (false, eval a X.env) :: starEach [.Name c q2] X.env := by rfl) (he2 : starEach [.Name c q2] X.env = (false, eval (.Name c q2) X.env) :: starEach [] X.env := by rfl)
    (hpl : (backTo pos (starEach [.Name c q2] X.env)).any (·.1) = false := by rfl) :
    DE X W (.Call (.Name "isinstance" q) [a, .Name c q2] [] pos) (rd1 f (isX sub)) :=
  peW (pe_callB call_isX hg hm (by decide +kernel) (pa_cons ha (pa_cons (pe_glob (v := .ref C) hg2 hc rfl hnd) pa_nil he2) he) (by decide) (by decide) he hpl) fun σ H Q h0 => rd1_ok (isX_ok (.own C) hs) h0
theorem de_isXV {q q2 : Pos} {sub : Str → Option Bool} (hg : Gl X "isinstance") (hm : X.mg "isinstance" = none) (hg2 : Gl X "ValueError") (hc : X.mg "ValueError" = none) (hs : ∀ c b, sub c = some b → ∃ C', X.mg c = some (.ref C') ∧ ExcC X.K C' ∧ PySem.W.kitOne X.K (.ref C') (.type "ValueError") = some b)
    (ha : DE X W a f)
    (he : starEach [a, .Name "ValueError" q2] X.env = (false, eval a X.env) :: starEach [.Name "ValueError" q2] X.env := by rfl) (he2 : starEach [.Name "ValueError" q2] X.env = (false, eval (.Name "ValueError" q2) X.env) :: starEach [] X.env := by rfl)
    (hpl : (backTo pos (starEach [.Name "ValueError" q2] X.env)).any (·.1) = false := by rfl) :
    DE X W (.Call (.Name "isinstance" q) [a, .Name "ValueError" q2] [] pos) (rd1 f (isX sub)) :=
  peW (pe_callB call_isX hg hm (by decide +kernel) (pa_cons ha (pa_cons (pe_bltn (v := .ty "ValueError") hg2 hc boot_ValueError rfl (by decide) (by decide)) pa_nil he2) he) (by decide) (by decide) he hpl) fun σ H Q h0 => rd1_ok (isX_ok (.ty "ValueError") hs) h0
/-! ### isinstance(ValueError('x'), C) -/
def vexO (a : Addr) : HO := .ext fun h => PySem.W.KitAt a "ValueError" h
theorem pe_vex {m : Str} {j : Nat} {p2 : Pos} (hg : Gl X "ValueError") (hm : X.mg "ValueError" = none) : PE X (.Call (.Name "ValueError" p) [.Constant (.str m) j p2] [] pos) (fun σ H Q => ∀ a, H a = none → Q (.ref a) (upd H a (vexO a))) := by
  refine ⟨fun pins s σ H Q J h => ?_⟩
  refine wpAny_Call_Name_kw (ld_blt J hg hm boot_ValueError ?_ (by decide) (by decide))
  refine PyProof.Rows.callWith_type1 (thn ((pa_cons pe_str pa_nil : PA X [.Constant (.str m) j p2] _).run pos pins s σ H (fun vs H1 => vs.length = 1 ∧ ∀ a, H1 a = none → Q (.ref a) (upd H1 a (vexO a))) J ⟨rfl, h⟩) fun us s1 hh => ?_) rfl rfl
  obtain ⟨vs, H1, I1, r1, lv, q1⟩ := hh
  obtain ⟨hp1, g1, d1, tk1, os1⟩ := s1
  refine wpAny_call_exc exb_ValueError.call (fun h' a mk => ?_) (by rw [← r1.length, lv, sizeLine_eq]; omega)
  obtain ⟨t, ht, _, _⟩ := mk.there
  have hn : H1 a = none := I1.hok.gone mk.new
  have ok : PySem.W.KitAt a "ValueError" h' := ⟨_, ht, rfl⟩
  exact ⟨.ref a, upd H1 a (vexO a), I1.laidN mk.keeps mk.new hn ⟨ok, ⟨_, ht⟩, fun _ _ ⟨o, e1, e2⟩ k => ⟨o, k o e1, e2⟩⟩, rfl, q1 a hn⟩
theorem call_isVX : CallR X (.builtin "isinstance") (fun xs H Q => ∃ (a : Addr) (c : V) (u : Value) (b : Bool), xs = [.ref a, c] ∧ ClsV c u ∧ H a = some (vexO a) ∧ PySem.W.kitOne X.K (.type "ValueError") u = some b ∧ Q (.bl b) H) := by
  intro pins s σ H xs us Q I r h
  obtain ⟨a, c, u, b, rfl, k, ea, e, q⟩ := h
  obtain ⟨u1, u2, rfl, r1, r2⟩ := vals2 r
  have e2 := k.eq r2
  subst e2
  cases (show u1 = Value.ref a from r1)
  have z : ObjOk X.prog X.w H s.heap a (.ext fun h => PySem.W.KitAt a "ValueError" h) := I.hok a _ ea
  exact PySem.W.kia_one (PySem.W.kitx_bexc PySem.F.excAttr_ValueError (by kernel_rfl) (by kernel_rfl) (by decide +kernel)) I.kIn z.1 e (fun z => nomatch z) fun tk => ⟨.bl b, H, I.tok tk, rfl, q⟩
theorem de_isVX {c m : Str} {C : Addr} {j : Nat} {q q2 q3 q4 q5 : Pos} {b : Bool} (hg : Gl X "isinstance") (hm : X.mg "isinstance" = none) (hgv : Gl X "ValueError") (hv : X.mg "ValueError" = none) (hg2 : Gl X c) (hc : X.mg c = some (.ref C)) (hs : PySem.W.kitOne X.K (.type "ValueError") (.ref C) = some b) (hnd : (c == ("__debug__" : Str)) = false := by decide)
    (he : starEach [.Call (.Name "ValueError" q3) [.Constant (.str m) j q4] [] q5, .Name c q2] X.env = (false, eval (.Call (.Name "ValueError" q3) [.Constant (.str m) j q4] [] q5) X.env) :: starEach [.Name c q2] X.env := by rfl)
    (he2 : starEach [.Name c q2] X.env = (false, eval (.Name c q2) X.env) :: starEach [] X.env := by rfl)
    (hpl : (backTo pos (starEach [.Name c q2] X.env)).any (·.1) = false := by rfl) :
    DE X W (.Call (.Name "isinstance" q) [.Call (.Name "ValueError" q3) [.Constant (.str m) j q4] [] q5, .Name c q2] [] pos) (eC (.bl b)) :=
  peW (pe_callB call_isVX hg hm (by decide +kernel) (pa_cons (pe_vex hgv hv) (pa_cons (pe_glob (v := .ref C) hg2 hc rfl hnd) pa_nil he2) he) (by decide) (by decide) he hpl) fun σ H Q ⟨e, F, R, h⟩ =>
    fun a ha => ⟨a, .ref C, .ref C, b, rfl, .own C, upd_same, hs, h _ F _ (Stp.new R ha) (R.new ha) (.bl b)⟩
end
end Y

set_option Elab.async false
set_option linter.all false
set_option maxRecDepth 100000
set_option maxHeartbeats 4000000
namespace Y
open PySem PySem.Spec L2 He
set_option autoImplicit false
/-! ### the Hook, with the interpreter's own statics -/
def asY (g : Addr → Option Obj) (n : Nat) : List Addr := He.asD g n ++ [cStatics]
def obsY (n : Nat) (fa : List Fa) (fn : List DefD) (tf : List Defn) (ex : PySem.W.Frag → Bool) (g : Addr → Option Obj) : AlX := (obsT fa fn [] (frT g (asY g n)), ex (frT g (asY g n)) && tabsB g tf (frT g (asY g n)))
theorem saysY_of {n : Nat} {fa : List Fa} {fn : List DefD} {tf : List Defn} {ex : PySem.W.Frag → Bool} {w : World} {h : Heap} (e : obsY n fa fn tf ex h.get? = valX fn [] w) : SaysX fa fn [] tf ex w h (frT h.get? (asY h.get? n)) := by
  have e1 : obsT fa fn [] (frT h.get? (asY h.get? n)) = valT fn [] w := congrArg (fun z : AlX => z.1) e
  have e2 : (ex (frT h.get? (asY h.get? n)) && tabsB h.get? tf (frT h.get? (asY h.get? n))) = true := congrArg (fun z : AlX => z.2) e
  obtain ⟨h1, h2⟩ := ba e2
  have key : ∀ p ∈ tf, PySem.W.codeHdIn (frT h.get? (asY h.get? n)) (He.cT (frT h.get? (asY h.get? n)) p).1 (He.cT (frT h.get? (asY h.get? n)) p).2 = true ∧ ∃ o, h.get? (He.cT (frT h.get? (asY h.get? n)) p).2 = some o ∧ emptyTab o = true := fun p hp => by
    obtain ⟨h3, h4⟩ := ba (List.all_eq_true.mp h2 p hp)
    refine ⟨h3, ?_⟩
    cases q : h.get? (He.cT (frT h.get? (asY h.get? n)) p).2 with
    | none =>
      rw [q] at h4
      cases h4
    | some o =>
      rw [q] at h4
      exact ⟨o, rfl, h4⟩
  exact ⟨e1, h1, fun p hp => (key p hp).1, fun p hp => by
    obtain ⟨_, o, q, z⟩ := key p hp
    exact frT_none q z, fun p hp => by
    obtain ⟨_, o, q, z⟩ := key p hp
    rw [q, emptyTab_eq z]⟩
def hookY (n : Nat) (fa : List Fa) (fn : List DefD) (tf : List Defn) (ex : PySem.W.Frag → Bool) : PySem.W.Hook where
  α := AlX
  obs := fun s => obsY n fa fn tf ex s.heap.get?
  val := fun w => valX fn [] w
  says := fun w h => ∃ K : PySem.W.Frag, K.In h ∧ SaysX fa fn [] tf ex w h K
  of := fun _ _ e => ⟨_, frT_in, saysY_of e⟩
  keeps := fun _ _ _ ⟨K, hK, c⟩ k => ⟨K, PySem.W.Frag.In.keeps hK k, ⟨c.t, c.more, c.hd, c.out, fun p hp => k _ _ (c.empty p hp)⟩⟩
theorem obsY_eq {n : Nat} {fa : List Fa} {fn : List DefD} {tf : List Defn} {ex : PySem.W.Frag → Bool} {g : Addr → Option Obj} {s : Shared} (h : ∀ a, g a = s.heap.get? a) : obsY n fa fn tf ex g = (hookY n fa fn tf ex).obs s := by
  have e : g = s.heap.get? := funext h
  rw [e] <;> rfl
/-! TB from here -/
variable [TB]
/-! ### facts of the text, by the head's look -/
def dB {α : Type} [DecidableEq α] (a b : α) : Bool := decide (a = b)
theorem dB_ok {α : Type} [DecidableEq α] {a b : α} (h : dB a b = true) : a = b := of_decide_eq_true h
def oexB (K : PySem.W.Frag) (C : Addr) : Bool := match K.lookup C with
  | some ⟨.type t, _, .cls cd, sl⟩ => decide (t = "type") && (cd.hasDict && (!cd.hasDel && (match cd.mro, sl.toList with
    | .ref C' :: bm, [_, _, _, _, some (.builtin n), _] => decide (C' = C) && (decide (n = "ValueError.__new__") && PySem.HandSPX.refsVE bm)
    | _, _ => false)))
  | _ => false
theorem oexB_ok {K : PySem.W.Frag} {C : Addr} (h : oexB K C = true) : ∃ nm q N bs bm sn sub ab col dd k0 k1 k2 k3 k5, K.lookup C = some (excClassObj nm q C N bs bm true sn sub ab col dd k0 k1 k2 k3 k5 "ValueError.__new__") ∧ PySem.HandSPX.refsVE bm = true := by
  unfold oexB at h
  split at h
  · rename_i t dd cd sl ho
    obtain ⟨h1, h⟩ := ba h
    obtain ⟨h2, h⟩ := ba h
    obtain ⟨h3, h⟩ := ba h
    split at h
    · rename_i C' bm k0 k1 k2 k3 n k5 hm hs
      obtain ⟨h4, h⟩ := ba h
      obtain ⟨h5, h6⟩ := ba h
      have e1 : t = "type" := of_decide_eq_true h1
      have e4 : C' = C := of_decide_eq_true h4
      have e5 : n = "ValueError.__new__" := of_decide_eq_true h5
      subst e1 e4 e5
      obtain ⟨nm, bs, mro, ns, qn, hd, sn, sub, ab, col, del⟩ := cd
      dsimp only at hm h2 h3
      subst hm h2
      have hdel : del = false := by simpa using h3
      subst hdel
      have hsl : sl = #[k0, k1, k2, k3, some (.builtin "ValueError.__new__"), k5] := by
        obtain ⟨l⟩ := sl
        simp only at hs
        rw [hs]
      subst hsl
      exact ⟨nm, qn, ns, bs, bm, sn, sub, ab, col, dd, k0, k1, k2, k3, k5, ho, h6⟩
    · cases h
  · cases h
abbrev FI := PySem.W.findIn
def excB (K : PySem.W.Frag) (C : Addr) (fs : List Str) : Bool := oexB K C && (dB (FI K (.ref C) "__setattr__") (some (some (.builtin "object.__setattr__"))) && (dB (PySem.W.subIn K (.ref C) (.type "BaseException")) (some true) && (dB (PySem.W.typeIn K (.ref C)) (some (.type "type")) && (PySem.W.keepIn K (.ref C) &&
  (dB (FI K (.ref C) "__init__") (some (some (.ref (ma K C "__init__")))) && (dB (PySem.W.typeIn K (.ref (ma K C "__init__"))) (some (.type "function")) && (fs.all (fun f => dB (FI K (.ref C) f) (some none)) && (dB (FI K (.ref C) "__getattribute__") (some (some (.builtin "BaseException.__getattribute__"))) &&
  (dB (FI K (.ref C) "__getattr__") (some none) && (PySem.W.hasDictIn K C && (dB (FI K (.ref C) "__class__") (some (some (.builtin "object.__class__"))) && (dB (PySem.W.specialIn K (.builtin "object.__class__") "__get__") (some (some (.builtin "getset_descriptor.__get__"))) &&
  (dB (PySem.W.takesIn K (.builtin "object.__class__")) (some true) && dB (PySem.W.mroIn K C (.type "object")) (some true))))))))))))))
theorem excB_ok {K : PySem.W.Frag} {mg : Mg} {c : Str} {C : Addr} {fs : List Str} (m : mg c = some (.ref C)) (h : excB K C fs = true) : ExcF K mg c C (ma K C "__init__") fs := by
  obtain ⟨a1, h⟩ := ba h
  obtain ⟨a2, h⟩ := ba h
  obtain ⟨a3, h⟩ := ba h
  obtain ⟨a4, h⟩ := ba h
  obtain ⟨a5, h⟩ := ba h
  obtain ⟨a6, h⟩ := ba h
  obtain ⟨a7, h⟩ := ba h
  obtain ⟨a8, h⟩ := ba h
  obtain ⟨a9, h⟩ := ba h
  obtain ⟨a10, h⟩ := ba h
  obtain ⟨a11, h⟩ := ba h
  obtain ⟨a12, h⟩ := ba h
  obtain ⟨a13, h⟩ := ba h
  obtain ⟨a14, a15⟩ := ba h
  exact ⟨m, ⟨oexB_ok a1, dB_ok a2, dB_ok a3, dB_ok a4, a5⟩, dB_ok a6, dB_ok a7, fun f hf => dB_ok (List.all_eq_true.mp a8 f hf), ⟨dB_ok a9, dB_ok a10, dB_ok a3, a11⟩, ⟨dB_ok a9, dB_ok a10, dB_ok a3, a11, dB_ok a12, dB_ok a13, dB_ok a14, dB_ok a15⟩⟩
def crewB (K : PySem.W.Frag) (B : Addr) : Bool := PySem.W.readsIn K B (.type "type") && (dB (PySem.W.specialIn K (.ref B) "__getattribute__") (some (some (.builtin "type.__getattribute__"))) && (match PySem.W.findCls K (.ref B) (.type "type") "__init__" with
  | some (.val (.builtin n)) => dB n "ValueError.__init__"
  | _ => false))
theorem crewB_ok {K : PySem.W.Frag} {B : Addr} (h : crewB K B = true) : CrewC K B := by
  obtain ⟨a1, h⟩ := ba h
  obtain ⟨a2, h⟩ := ba h
  refine ⟨a1, dB_ok a2, ?_⟩
  split at h
  · rename_i n e
    rw [e, dB_ok h]
  · cases h
def clsB (K : PySem.W.Frag) (C : Addr) : Bool := PySem.W.plainGet K C Str.empty && (PySem.W.hasDictIn K C && (PySem.W.plainOver K C && (dB (FI K (.ref C) "__setattr__") (some (some (.builtin "object.__setattr__"))) && (dB (FI K (.ref C) "__class__") (some (some (.builtin "object.__class__"))) &&
  (dB (PySem.W.specialIn K (.builtin "object.__class__") "__get__") (some (some (.builtin "getset_descriptor.__get__"))) && (dB (PySem.W.takesIn K (.builtin "object.__class__")) (some true) && (dB (PySem.W.mroIn K C (.type "object")) (some true) && (PySem.W.isClsIn K C && (dB (PySem.W.typeIn K (.ref C)) (some (.type "type")) &&
  (["NoneType", "bool", "int", "str", "list", "tuple"].all fun t => dB (PySem.W.subIn K (.type t) (.ref C)) (some false)))))))))))
theorem clsB_ok {K : PySem.W.Frag} {h : Heap} {mg : Mg} {c : Str} (X : K.In h) (G : h.Ns mainGlobals mg) (a : (Fa.glo c).ok K = true) (h : clsB K (ga K c) = true) : ClsF K mg c (ga K c) := by
  obtain ⟨a1, h⟩ := ba h
  obtain ⟨a2, h⟩ := ba h
  obtain ⟨a3, h⟩ := ba h
  obtain ⟨a4, h⟩ := ba h
  obtain ⟨a5, h⟩ := ba h
  obtain ⟨a6, h⟩ := ba h
  obtain ⟨a7, h⟩ := ba h
  obtain ⟨a8, h⟩ := ba h
  obtain ⟨a9, h⟩ := ba h
  obtain ⟨a10, h⟩ := ba h
  rw [List.all_eq_true] at h
  have z : ∀ t ∈ ["NoneType", "bool", "int", "str", "list", "tuple"], PySem.W.subIn K (.type t) (.ref (ga K c)) = some false := fun t ht => dB_ok (h t ht)
  exact cls_mk X G (eqO_ok a) a1 a2 a3 (dB_ok a4) (dB_ok a5) (dB_ok a6) (dB_ok a7) (dB_ok a8) a9 (dB_ok a10) (z _ (by simp)) (z _ (by simp)) (z _ (by simp)) (z _ (by simp)) (z _ (by simp)) (z _ (by simp))
/-! ### forms of making -/
section
variable {K : PySem.W.Frag} {mg : Mg} {x qual : Str} {params : Arguments} {body : List Stmt} {scope : Scope} {kws : List (Str × V)} {f : Addr} {fd : FuncData} {ps ks : List Str} {n : Nat}
theorem form_of (F : FunD K x qual params body scope [] kws f fd) (g : {α : Type} → List α → List α → List α) (gD : List D → List D → List D)
    (hrel : ∀ {vs zs : List V} {us ws : List Value}, Vals vs us → Vals zs ws → Vals (g vs zs) (g us ws))
    (h : ∀ (kV doc pm : Value) (an : Option Addr) (cdv ct : Value) (us ws : List Value), us.length = n + 1 → ws.length = ks.length → bindArgs (PySem.W.fnOf x qual params body scope .none kV doc pm an cdv ct) ⟨us, ks.zip ws⟩ = pure (ps.zip (g us ws)))
    (hD : ∀ (F : Hp) (v : V) (vs zs : List V) (ds dk : List D), Reps K mg F vs ds → Reps K mg F zs dk → ds.length = n → dk.length = ks.length → ∃ ws, g (v :: vs) zs = v :: ws ∧ Reps K mg F ws (gD ds dk)) : FormOk K mg fd ps n ks gD := by
  obtain ⟨oc, od, dV, kV, doc, pm, an, cdv, ct, osl, rfl, lk, hcd, hDf, hK⟩ := F.ex
  rcases hDf with ⟨_, rfl⟩ | ⟨e, _⟩
  · exact ⟨fun us ws => g us ws, fun vs zs => g vs zs, ⟨fun s us ws _ l1 l2 => .of_eq (h kV doc pm an cdv ct us ws l1 l2), fun r1 r2 => hrel r1 r2⟩, hD⟩
  · exact absurd rfl e
/-- positional values alone -/
theorem form_pos (F : FunD K x qual params body scope [] kws f fd) (h : ∀ (kV doc pm : Value) (an : Option Addr) (cdv ct : Value) (us ws : List Value), us.length = n + 1 → ws.length = ([] : List Str).length → bindArgs (PySem.W.fnOf x qual params body scope .none kV doc pm an cdv ct) ⟨us, ([] : List Str).zip ws⟩ = pure (ps.zip us)) :
    FormOk K mg fd ps n [] (fun a _ => a) := form_of F (fun us _ => us) _ (fun r _ => r) h fun F v vs zs ds dk r1 _ _ _ => ⟨vs, rfl, r1⟩
/-- keywords alone, in the parameters' order -/
theorem form_kw (F : FunD K x qual params body scope [] kws f fd) (h : ∀ (kV doc pm : Value) (an : Option Addr) (cdv ct : Value) (us ws : List Value), us.length = 0 + 1 → ws.length = ks.length → bindArgs (PySem.W.fnOf x qual params body scope .none kV doc pm an cdv ct) ⟨us, ks.zip ws⟩ = pure (ps.zip (us ++ ws))) :
    FormOk K mg fd ps 0 ks (fun _ b => b) := form_of F (fun us ws => us ++ ws) _ (fun r s => r.append s) h fun F v vs zs ds dk r1 r2 h1 _ => by
  cases r1 with
  | nil => exact ⟨zs, rfl, r2⟩
  | cons _ _ => cases h1
/-- two keywords, exchanged -/
theorem form_kws (F : FunD K x qual params body scope [] kws f fd) (hk : ks.length = 2) (h : ∀ (kV doc pm : Value) (an : Option Addr) (cdv ct : Value) (us ws : List Value), us.length = 0 + 1 → ws.length = ks.length → bindArgs (PySem.W.fnOf x qual params body scope .none kV doc pm an cdv ct) ⟨us, ks.zip ws⟩ = pure (ps.zip (us ++ swap2 ws))) :
    FormOk K mg fd ps 0 ks (fun _ b => swap2 b) := form_of F (fun us ws => us ++ swap2 ws) _ (fun r s => r.append (vals_swap2 s)) h fun F v vs zs ds dk r1 r2 h1 h2 => by
  cases r1 with
  | cons _ _ => cases h1
  | nil =>
    refine ⟨swap2 zs, rfl, ?_⟩
    rw [hk] at h2
    cases r2 with
    | nil => cases h2
    | cons p r2 => cases r2 with
      | nil => cases h2
      | cons q r2 => cases r2 with
        | nil => exact .cons q (.cons p .nil)
        | cons _ _ => cases h2
end
/-! ### the end, with tables -/
theorem cx_none {P : Program} {w : World} {H : Hp} {s : Shared} {e : Value} {s' : Shared} (z : L2.CX P w [] H s (fun _ _ _ => False) e s') : False := by
  obtain ⟨_, _, _, _, _, _, _, _, _, _, _, _, y⟩ := z
  exact y.elim
theorem law_at {l : PySem.W.OpenLaw} {w : World} {K : PySem.W.Frag} {k : Nat} {mg : Mg} {fa : Addr} {h : Heap} {tf : List Defn} {x p : Str} {fn : Fn} (X : K.In h)
    (hd : ∀ p ∈ tf, PySem.W.codeHdIn K (He.cT K p).1 (He.cT K p).2 = true) (out : ∀ p ∈ tf, K.lookup (He.cT K p).2 = none) (empty : ∀ p ∈ tf, h.get? (He.cT K p).2 = some { cls := .none, data := .fields #[] })
    (hT : ∀ q ∈ TB.T, ∃ p ∈ tf, q.1 = (He.cT K p).1 ∧ q.2.1 = (He.cT K p).2) (G : CallOk l.prog w K mg x k [p] fn) (hm : mg x = some (.ref fa)) (ht : ∀ ns : List Int, ns.length ≤ 63 → ∃ e, fn [.val (.lst (ns.map D.int))] = .ok (.val (.bl true)) e) :
    LamX.LawAtS l w K (L2.CX l.prog w) k 63 p mg fa h := by
  obtain ⟨fd, hb, hF⟩ := law_end G hm ht
  refine ⟨fd, tf.map (He.cT K), spTrue K, fun q hq => ?_, fun q hq => ?_, fun q hq => ?_, hb, fun H a ns hl _ hH hS => ⟨a, ns, rfl, hS, hl, fun q hq => ?_, fun _ => rfl⟩, fun base b1 b2 b3 => hF base b1 b2 fun q hq => ?_⟩
  · obtain ⟨z, hz, rfl⟩ := List.mem_map.mp hq
    exact empty z hz
  · obtain ⟨z, hz, rfl⟩ := List.mem_map.mp hq
    exact out z hz
  · obtain ⟨z, hz, rfl⟩ := List.mem_map.mp hq
    exact PySem.W.codeHd_of_K X (hd z hz)
  · obtain ⟨r, hr, rfl⟩ := List.mem_map.mp hq
    obtain ⟨z, hz, e1, e2⟩ := hT r hr
    refine ⟨#[], by rw [e2]; exact hH _ (List.mem_map.mpr ⟨z, hz, rfl⟩), ?_, ?_⟩
    · exact trivial
    · intro pos cv hc
      cases hc
  · obtain ⟨z, hz, e1, e2⟩ := hT q hq
    rw [e1, e2]
    exact b3 _ (List.mem_map.mpr ⟨z, hz, rfl⟩)
end Y

set_option Elab.async false
set_option linter.all false
set_option maxRecDepth 100000
set_option maxHeartbeats 4000000
namespace Y
open PySem PySem.Spec L2
set_option autoImplicit false
variable [TB]
/-! ### dicts with ints and texts as keys -/
def keyD : D → Option Key
  | .int i => some (.inl i)
  | .str x => some (.inr x)
  | _ => none
theorem keyD_ok {K : PySem.W.Frag} {mg : Mg} {F H : Hp} {y : V} {d : D} {k : Key} (rx : RdOk K mg F H y d) (h : keyD d = some k) : y = kV k := by
  cases d with
  | int i => cases h; exact rx
  | str x => cases h; exact rx
  | _ => cases h
section
variable {κ : Type} [DecidableEq κ]
def valD (kvs : List (κ × D)) (k : κ) : Option D := (kvs.find? fun kv => decide (kv.1 = k)).map (·.2)
def putKD (kvs : List (κ × D)) (k : κ) (v : D) : List (κ × D) := if (kvs.any fun kv => decide (kv.1 = k)) = true then kvs.map (fun kv => if kv.1 = k then (kv.1, v) else kv) else kvs ++ [(k, v)]
def mergeKD (kvs more : List (κ × D)) : List (κ × D) := more.foldl (fun acc kv => putKD acc kv.1 kv.2) kvs
end
section
variable {K : PySem.W.Frag} {mg : Mg} {F : Hp}
theorem RepK.val {k : Key} : ∀ {gs : List (Key × V)} {ks : List (Key × D)}, RepK K mg F gs ks → (∀ d, valD ks k = some d → ∃ v, valV gs k = some v ∧ Rep K mg F v d) ∧ (valD ks k = none → valV gs k = none)
  | _, _, .nil => ⟨fun d h => (by cases h), fun _ => rfl⟩
  | _, _, .cons (f := f) (d := d0) (fs := fs) (gs := gs) r t => by
    obtain ⟨h1, h2⟩ := RepK.val (k := k) t
    by_cases e : f = k
    · subst e
      refine ⟨fun d h => ?_, fun h => ?_⟩
      · have : valD ((f, d0) :: fs) f = some d0 := by simp [valD]
        rw [this] at h; cases h
        exact ⟨_, valV_pos rfl, r⟩
      · have : valD ((f, d0) :: fs) f = some d0 := by simp [valD]
        rw [this] at h; cases h
    · have e1 : valD ((f, d0) :: fs) k = valD fs k := by simp [valD, List.find?_cons, e]
      rw [e1, valV_neg e]
      exact ⟨h1, h2⟩
theorem RepK.any {k : Key} : ∀ {gs : List (Key × V)} {ks : List (Key × D)}, RepK K mg F gs ks → (gs.any fun kv => decide (kv.1 = k)) = ks.any fun kv => decide (kv.1 = k)
  | _, _, .nil => rfl
  | _, _, .cons r t => by rw [List.any_cons, List.any_cons, RepK.any t]
theorem RepK.repl {k : Key} {v : V} {d : D} (rv : Rep K mg F v d) : ∀ {gs : List (Key × V)} {ks : List (Key × D)}, RepK K mg F gs ks → RepK K mg F (gs.map fun kv => if kv.1 = k then (kv.1, v) else kv) (ks.map fun kv => if kv.1 = k then (kv.1, d) else kv)
  | _, _, .nil => .nil
  | _, _, .cons (f := f) r t => by
    rw [List.map_cons, List.map_cons]
    by_cases e : f = k
    · rw [if_pos e, if_pos e]; exact .cons rv (RepK.repl rv t)
    · rw [if_neg e, if_neg e]; exact .cons r (RepK.repl rv t)
theorem RepK.app : ∀ {a b : List (Key × V)} {c d : List (Key × D)}, RepK K mg F a c → RepK K mg F b d → RepK K mg F (a ++ b) (c ++ d)
  | _, _, _, _, .nil, h => h
  | _, _, _, _, .cons r t, h => .cons r (RepK.app t h)
theorem RepK.put {k : Key} {v : V} {d : D} (rv : Rep K mg F v d) {gs : List (Key × V)} {ks : List (Key × D)} (r : RepK K mg F gs ks) : RepK K mg F (putK gs k v) (putKD ks k d) := by
  unfold putK putKD
  rw [r.any]
  split
  · exact r.repl rv
  · exact r.app (.cons rv .nil)
theorem RepK.merge : ∀ {more : List (Key × V)} {md : List (Key × D)} {gs : List (Key × V)} {ks : List (Key × D)}, RepK K mg F more md → RepK K mg F gs ks → RepK K mg F (mergeK gs more) (mergeKD ks md)
  | _, _, _, _, .nil, h => h
  | _, _, gs, ks, .cons (f := f) (v := v) (d := d) r t, h => by
    have z := RepK.merge t (h.put (k := f) r)
    exact z
theorem RepK.len : ∀ {gs : List (Key × V)} {ks : List (Key × D)}, RepK K mg F gs ks → gs.length = ks.length
  | _, _, .nil => rfl
  | _, _, .cons _ t => congrArg (· + 1) (RepK.len t)
end
/-! ### subscripts of all sorts -/
def rDGet : R2 := fun x y H Q => ∃ a v, x = .ref a ∧ DGet H a y (some v) ∧ Q v H
open PyProof.Rows in
theorem ix_dict {X : Cx} (hu : X.A.units + 1 < cLine) : IxR X rDGet := by
  intro value slice pins s σ H x y v u Q I rx ry h hs
  obtain ⟨a, z, rfl, g, q⟩ := h
  cases rx
  have hT := dict_typeIs I g
  unfold subscriptTail
  refine wpAny_bind ?_
  rw [getitemInPython_of_ne hT.not_modules]
  refine wpAny_bind (wpAny_specialOf hT PySem.F.slot_dict_getitem.lookup ?_)
  have fin : wpAny (model X.prog X.w) X.A (subscripted slice false (.ref a) u) (fun r s₃ => wpAny (model X.prog X.w) X.A (letTemporaryGo value (.ref a) r >>= fun _ => pure r) (EP X pins σ Q) X.xe s₃) X.xe s := by
    rw [hs]
    exact wpAny_operating (wpAny_mono (d_getItem hu I g ry fun w' s3 I3 rw' => (⟨z, H, I3, rw', q⟩ : EP X pins σ Q w' s3)) (fun r s₃ h₃ => wpAny_bind (wpAny_letTemporaryGo (wpAny_pure h₃))) fun _ _ x => x)
  first
    | exact wpAny_pure (wpAny_bind fin)
    | exact wpAny_bind (wpAny_pure (wpAny_bind fin))
    | exact wpAny_bind fin
def ixA : D → D → M RV
  | .dK kvs, k => fun e => match keyD k with
    | some key => (match valD kvs key with
      | some d => .ok (.val d) e
      | none => .bad)
    | none => .bad
  | .str z, .int i => fun e => if z.length ≤ sizeLine then (match atI z.cps.toList i with
    | some c => .ok (.val (.str ⟨#[c]⟩)) e
    | none => .bad) else .bad
  | a, b => ixK a b
section
variable {X : Cx} {W : WX} {a b : Expr} {f g : M RV} {pos p : Pos}
theorem k2_ixA {K : PySem.W.Frag} {mg : Mg} : K2 K mg W (fun x y H Q => rIx K x y H Q ∨ rDGet x y H Q) ixA := fun F H e σ x y d d' Q R rx ry h => by
  unfold ixA at h
  split at h
  · rename_i kvs
    cases w : keyD d' with
    | none => rw [w] at h; exact h.elim
    | some key =>
      rw [w] at h
      dsimp only at h
      cases w2 : valD kvs key with
      | none => rw [w2] at h; exact h.elim
      | some z =>
        rw [w2] at h
        obtain ⟨p, gs, rfl, hH, r⟩ := rx
        obtain ⟨v, e1, e2⟩ := (r.val (k := key)).1 z w2
        refine .inr ⟨p, v, rfl, ?_, post_val R h e2⟩
        rw [keyD_ok ry w, ← e1]
        exact DGet.k hH
  · rename_i z i
    split at h
    · rename_i hl
      cases w : atI z.cps.toList i with
      | none => rw [w] at h; exact h.elim
      | some c =>
        rw [w] at h
        exact .inl (.inr (.inr ⟨z, i, c, rx, ry, hl, w, post_val R h (.str _)⟩))
    · exact h.elim
  · exact .inl (k2_ix F H e σ x y d d' Q R rx ry h)
theorem unit1 {k : Nat} {A : Around} (hr : Room k A) : A.units + 1 < cLine := by have := hr.un; omega
theorem de_ixA {k : Nat} (hr : Room k X.A) (ha : DE X W a f) (hb : DE X W b g) (hs : PlainIx b := by exact fun _ _ => rfl) : DE X W (.Subscript a b pos) (rd2 f g ixA) := peW (pe_ix (ix_seq.or (ix_dict (unit1 hr))) ha hb hs) fun _ _ _ h => rd2_ok k2_ixA h
/-! ### in, of all sorts -/
def rDIn (neg : Bool) : R2 := fun y x H Q => ∃ a o, x = .ref a ∧ DGet H a y o ∧ Q (.bl (if neg then !o.isSome else o.isSome)) H
theorem op_din (hu : X.A.units + 1 < cLine) : OpR X (compareOp .In) (rDIn false) := by
  intro pins s σ H x y v u Q I rx ry h
  obtain ⟨a, o, rfl, g, q⟩ := h
  cases ry
  exact d_in hu I g rx fun s3 I3 => ⟨.bl o.isSome, H, I3, rfl, q⟩
theorem op_dnin (hu : X.A.units + 1 < cLine) : OpR X (compareOp .NotIn) (rDIn true) := by
  intro pins s σ H x y v u Q I rx ry h
  obtain ⟨a, o, rfl, g, q⟩ := h
  cases ry
  exact d_notIn hu I g rx fun s3 I3 => ⟨.bl (!o.isSome), H, I3, rfl, q⟩
def inA : D → D → M RV
  | k, .dK kvs => fun e => match keyD k with
    | some key => .ok (.val (.bl (valD kvs key).isSome)) e
    | none => .bad
  | .str x, .str z => fun e => match x.cps.toList with
    | [c] => .ok (.val (.bl (decide (c ∈ z.cps.toList)))) e
    | _ => .bad
  | a, b => inK a b
def ninA : D → D → M RV
  | k, .dK kvs => fun e => match keyD k with
    | some key => .ok (.val (.bl (!(valD kvs key).isSome))) e
    | none => .bad
  | .str x, .str z => fun e => match x.cps.toList with
    | [c] => .ok (.val (.bl (!decide (c ∈ z.cps.toList)))) e
    | _ => .bad
  | a, b => ninK a b
theorem RepK.isSome {K : PySem.W.Frag} {mg : Mg} {F : Hp} {k : Key} {gs : List (Key × V)} {ks : List (Key × D)} (r : RepK K mg F gs ks) : (valV gs k).isSome = (valD ks k).isSome := by
  obtain ⟨h1, h2⟩ := r.val (k := k)
  cases w : valD ks k with
  | none => rw [h2 w]; rfl
  | some d => obtain ⟨v, e, _⟩ := h1 d w; rw [e]; rfl
theorem sgn_of {x : Str} {c : Nat} (h : x.cps.toList = [c]) : x = ⟨#[c]⟩ := by
  obtain ⟨⟨l⟩⟩ := x
  simp only at h
  rw [h]
theorem k2_inA {K : PySem.W.Frag} {mg : Mg} : K2 K mg W (fun x y H Q => (rInA K false x y H Q ∨ rDIn false x y H Q) ∨ ∃ (c : Nat) (z : Str), x = .str ⟨#[c]⟩ ∧ y = .str z ∧ Q (.bl (decide (c ∈ z.cps.toList))) H) inA := fun F H e σ x y d d' Q R rx ry h => by
  unfold inA at h
  split at h
  · rename_i kvs
    cases w : keyD d with
    | none => rw [w] at h; exact h.elim
    | some key =>
      rw [w] at h
      obtain ⟨p, gs, rfl, hH, r⟩ := ry
      refine .inl (.inr ⟨p, valV gs key, rfl, ?_, ?_⟩)
      · rw [keyD_ok rx w]; exact DGet.k hH
      · show Q (.bl (valV gs key).isSome) H
        rw [r.isSome]
        exact post_val R h (.bl _)
  · rename_i x z
    split at h
    · rename_i c w
      exact .inr ⟨c, z, by rw [← sgn_of w]; exact rx, ry, post_val R h (.bl _)⟩
    · exact h.elim
  · exact .inl (.inl (k2_in F H e σ x y d d' Q R rx ry h))
theorem k2_ninA {K : PySem.W.Frag} {mg : Mg} : K2 K mg W (fun x y H Q => (rInA K true x y H Q ∨ rDIn true x y H Q) ∨ ∃ (c : Nat) (z : Str), x = .str ⟨#[c]⟩ ∧ y = .str z ∧ Q (.bl (!decide (c ∈ z.cps.toList))) H) ninA := fun F H e σ x y d d' Q R rx ry h => by
  unfold ninA at h
  split at h
  · rename_i kvs
    cases w : keyD d with
    | none => rw [w] at h; exact h.elim
    | some key =>
      rw [w] at h
      obtain ⟨p, gs, rfl, hH, r⟩ := ry
      refine .inl (.inr ⟨p, valV gs key, rfl, ?_, ?_⟩)
      · rw [keyD_ok rx w]; exact DGet.k hH
      · show Q (.bl (!(valV gs key).isSome)) H
        rw [r.isSome]
        exact post_val R h (.bl _)
  · rename_i x z
    split at h
    · rename_i c w
      exact .inr ⟨c, z, by rw [← sgn_of w]; exact rx, ry, post_val R h (.bl _)⟩
    · exact h.elim
  · exact .inl (.inl (k2_nin F H e σ x y d d' Q R rx ry h))
section
variable {k : Nat}
theorem de_inA (hr : Room k X.A) (ha : DE X W a f) (hb : DE X W b g) (hm : behindInMarks .In b = false := by rfl) : DE X W (.Compare a [.In] [b] pos) (rd2 f g inA) := de_cmp (((op_inA (room65 hr)).or (op_din (unit1 hr))).or op_in_sign) k2_inA ha hb hm
theorem de_ninA (hr : Room k X.A) (ha : DE X W a f) (hb : DE X W b g) (hm : behindInMarks .NotIn b = false := by rfl) : DE X W (.Compare a [.NotIn] [b] pos) (rd2 f g ninA) := de_cmp (((op_notInA (room65 hr)).or (op_dnin (unit1 hr))).or op_notIn_sign) k2_ninA ha hb hm
theorem dt_inA (hr : Room k X.A) (ha : DE X W a f) (hb : DE X W b g) (hm : behindInMarks .In b = false := by rfl) : DT X W (.Compare a [.In] [b] pos) (asB (rd2 f g inA)) := dt_cmp (((op_inA (room65 hr)).or (op_din (unit1 hr))).or op_in_sign) k2_inA ha hb hm
theorem dt_ninA (hr : Room k X.A) (ha : DE X W a f) (hb : DE X W b g) (hm : behindInMarks .NotIn b = false := by rfl) : DT X W (.Compare a [.NotIn] [b] pos) (asB (rd2 f g ninA)) := dt_cmp (((op_notInA (room65 hr)).or (op_dnin (unit1 hr))).or op_notIn_sign) k2_ninA ha hb hm
end
/-! ### len, of all sorts -/
def lenA : D → M RV
  | .str z => fun e => if z.length ≤ sizeLine then .ok (.val (.int z.length)) e else .bad
  | .dK kvs => fun e => .ok (.val (.int kvs.length)) e
  | d => lenK d
theorem CallR.or {id : Value} {r r' : List V → Hp → VK → Prop} (h : CallR X id r) (h' : CallR X id r') : CallR X id (fun xs H Q => r xs H Q ∨ r' xs H Q) := by
  intro pins s σ H xs us Q I rs q
  rcases q with q | q
  · exact h pins s σ H xs us Q I rs q
  · exact h' pins s σ H xs us Q I rs q
theorem de_lenA (hg : Gl X "len") (hm : X.mg "len" = none) (ha : DE X W a f) (he : starEach [a] X.env = (false, eval a X.env) :: starEach [] X.env := by rfl) (hpl : (backTo pos (starEach [] X.env)).any (·.1) = false := by rfl) :
    DE X W (.Call (.Name "len" p) [a] [] pos) (rd1 f lenA) := de_b1 ((call_len_seq.or call_len_str).or call_lenD) (fun F H e σ x d Q R rx h => by
  unfold lenA at h
  split at h
  · rename_i z
    split at h
    · rename_i hl
      exact .inl (.inr ⟨z, by rw [show x = .str z from rx], hl, post_val R h (.int _)⟩)
    · exact h.elim
  · rename_i kvs
    obtain ⟨p, gs, rfl, hH, r⟩ := rx
    exact .inr ⟨p, gs, rfl, hH, by rw [r.len]; exact post_val R h (.int _)⟩
  · unfold lenK at h
    split at h
    · obtain ⟨l, vs, rfl, q1, p1⟩ := rx
      exact .inl (.inl ⟨l, vs, rfl, .inl q1, by rw [p1.length]; exact post_val R h (.int _)⟩)
    · obtain ⟨l, vs, rfl, q1, p1⟩ := rx
      exact .inl (.inl ⟨l, vs, rfl, .inr (sqT_mono R.sub q1), by rw [p1.length]; exact post_val R h (.int _)⟩)
    · exact h.elim) hg hm PySem.boot_len ha (he := he) (hpl := hpl)
end
end Y

set_option Elab.async false
set_option linter.all false
set_option maxRecDepth 100000
set_option maxHeartbeats 4000000
namespace Y
open PySem PySem.Spec L2
set_option autoImplicit false
variable [TB]
/-! ### d[k] = v -/
theorem set_dict {X : Cx} (hu : X.A.units + 1 < cLine) : PSet X (fun o i v H Q => ∃ a H', o = .ref a ∧ DPut H a i v H' ∧ Q H') := by
  intro pins s σ H o i v ov iv u Q I ro ri rv h
  obtain ⟨a, H', rfl, g, q⟩ := h
  cases ro
  exact d_setItem hu I g ri rv fun s4 I4 => ⟨H', I4, q⟩
def sSetKey (i : Nat) (f g : M RV) : M Flo := M.bind f fun r => M.bind (frz r) fun d => fun e => match e[i]? with
  | some (.own _ (.dK _)) => M.bind g (fun r' e' => match rdat e' r', e'[i]? with
    | some k, some (.own b (.dK kvs)) => (match keyD k with
      | some key => if kvs.length < sizeLine then .ok .nx (e'.set i (.own b (.dK (putKD kvs key d)))) else .bad
      | none => .bad)
    | _, _ => .bad) e
  | _ => .bad
section
variable {X : Cx} {W : WX} {a b c : Expr} {es : List Expr} {f g h : M RV} {pos pos' pos'' apos cpos p : Pos} {x : Str} {tg : Expr}
theorem ds_setKey {kk : Nat} (i : Nat) (hr : Room kk X.A) (hf : DE X W a f) (hg : DE X W b g) (hN : X.N[i]? = some x := by rfl) (hv : Vis X.env.scope x := by first | exact Or.inl rfl | exact Or.inr (Or.inl rfl) | exact Or.inr (Or.inr rfl)) (hd : (x == ("__debug__" : Str)) = false := by decide)
    (hcd : (x == ("__classdict__" : Str)) = false := by decide)
    (ha : ∀ v, assign (.Subscript (.Name x pos') b pos'') X.env v = (do
      let ov ← holding [v] (eval (.Name x pos') X.env)
      let iv ← holding [v, ov] (eval b X.env)
      standAt pos''
      holding [v, ov, iv] (setItem ov iv v)
      release [v, ov, iv] []) := by intro _; rfl)
    (hs : swapsWithSole [.Subscript (.Name x pos') b pos''] a pos.line X.env = pure false := by rfl) (hw : swappedStores [.Subscript (.Name x pos') b pos''] a X.env = pure none := by rfl)
    (h1 : (assignEach [.Subscript (.Name x pos') b pos''] X.env).map (·.2) = [assign (.Subscript (.Name x pos') b pos'') X.env] := by rfl) :
    DS X W (.Assign [.Subscript (.Name x pos') b pos''] a pos) (sSetKey i f g) :=
  psW (ps_asg hf (pg_sub (pe_var hN hv hd hcd) hg (set_dict (unit1 hr)) ha) hs hw h1) fun E σ H ⟨e, F, R, h⟩ => by
    refine ⟨e, F, R, post_imp (postS_seq h) ?_⟩
    rintro y H1 ⟨r, e1, F1, q1, R1, s1, h1⟩
    cases w : frz r e1 with
    | bad => unfold M.bind at h1; rw [w] at h1; exact h1.elim
    | ex x e' => exact (frz_noex w).elim
    | ok d e2 =>
      have h2 := h1
      unfold M.bind at h2
      rw [w] at h2
      obtain ⟨F2, s2, R2, q2⟩ := frz_ok R1 q1 w s1
      dsimp only at h2
      split at h2
      · rename_i fx0 xs0 es
        obtain ⟨p, o, hp, hH, vs0, rfl, r0⟩ := own_at R2 es
        refine ⟨_, hp, e2, F2, R2, post_imp (postS_seqG (f := g) (R1 := rV X.K X.mg) s2 h2) ?_⟩
        rintro z H3 ⟨r', e3, F3, q3, R3, s3, h3⟩
        split at h3
        · rename_i k fx kvs wk es3
          split at h3
          · rename_i key wkey
            split at h3
            · rename_i hl
              obtain ⟨p', o', hp', hH', gs, rfl, rv⟩ := own_at R3 es3
              rw [hp] at hp'; cases hp'
              refine ⟨p, upd H3 p (.dK (putK gs key y)), rfl, ?_, ?_⟩
              · rw [keyD_ok (R3.rd q3 wk) wkey]
                exact DPut.k hH' (by rw [rv.len]; exact hl)
              · exact h3 σ F3 _ ((s2.trans s3).change R3 es3 hp) (R3.change es3 hp ⟨_, rfl, rv.put (q2.mono s3.fro)⟩)
            · exact h3.elim
          · exact h3.elim
        · exact h3.elim
      · exact h2.elim
/-! ### dict(pairs) -/
def pairD : D → Option (Key × D)
  | .tup [k, d] => (keyD k).map fun key => (key, d)
  | _ => none
def pairsD : List D → Option (List (Key × D))
  | [] => some []
  | d :: ds => match pairD d, pairsD ds with
    | some p, some r => some (p :: r)
    | _, _ => none
def dictK : D → M RV
  | .lst ds => fun e => match pairsD ds with
    | some kvs => .ok (.own (.dK (mergeKD [] kvs))) e
    | none => .bad
  | _ => M.bad
theorem reps_pairs {K : PySem.W.Frag} {mg : Mg} {F H : Hp} (s : Same F H) : ∀ {vs : List V} {ds : List D} {kvs : List (Key × D)}, Reps K mg F vs ds → pairsD ds = some kvs → ∃ (ps : List Addr) (gs : List (Key × V)), vs = ps.map V.ref ∧ Paired (fun p kv => SqT K H p [kV kv.1, kv.2]) ps gs ∧ RepK K mg F gs kvs
  | _, _, _, .nil, h => by cases h; exact ⟨[], [], rfl, .nil, .nil⟩
  | _, _, kvs, .cons (d := d) (ds := ds) r t, h => by
    unfold pairsD at h
    cases w1 : pairD d with
    | none => rw [w1] at h; cases h
    | some p =>
      cases w2 : pairsD ds with
      | none => rw [w1, w2] at h; cases h
      | some rest =>
        rw [w1, w2] at h
        cases h
        obtain ⟨ps, gs, e1, e2, e3⟩ := reps_pairs s t w2
        unfold pairD at w1
        split at w1
        · rename_i k d'
          obtain ⟨key, wk, rfl⟩ := Option.map_eq_some_iff.mp w1
          cases r with
          | @tup a' vs' ds' q rr =>
            cases rr with
            | cons r1 rr =>
              cases rr with
              | cons r2 rr =>
                cases rr
                have ek := keyD_ok (Rep.rd s r1) wk
                subst ek
                exact ⟨a' :: ps, (key, _) :: gs, by rw [e1]; rfl, .cons (sqT_mono s q) e2, .cons r2 e3⟩
        · cases w1
theorem de_dict (hcalm : X.calm = true) (hg : Gl X "dict") (hm : X.mg "dict" = none) (ha : DE X W a f) (he : starEach [a] X.env = (false, eval a X.env) :: starEach [] X.env := by rfl) (hpl : (backTo pos (starEach [] X.env)).any (·.1) = false := by rfl) :
    DE X W (.Call (.Name "dict" p) [a] [] pos) (rd1 f dictK) := de_t1 (call_dictP hcalm) (fun F H e σ x d Q R rx h => by
  unfold dictK at h
  split at h
  · rename_i ds
    cases w : pairsD ds with
    | none => rw [w] at h; exact h.elim
    | some kvs =>
      rw [w] at h
      obtain ⟨l, vs, rfl, q1, p1⟩ := rx
      obtain ⟨ps, gs, rfl, e2, e3⟩ := reps_pairs R.sub p1 w
      refine ⟨l, ps, gs, rfl, q1, e2, fun q hq => ?_⟩
      exact h _ F _ (Stp.new R hq) (R.new hq) ⟨q, _, rfl, R.free hq, upd_same, ⟨_, rfl, RepK.merge e3 .nil⟩, R.notOwn hq, .inl hq⟩
  · exact h.elim) hg hm (by decide +kernel) ha (he := he) (hpl := hpl)
/-! ### for c in text -/
def charsD (x : Str) : List D := x.cps.toList.map fun c => .str ⟨#[c]⟩
def itStr (f : M RV) : M (List D) := M.bind f fun r => fun e => match rdat e r with
  | some (.str x) => .ok (charsD x) e
  | _ => .bad
theorem walkD_str {K : PySem.W.Frag} {mg : Mg} {F : Hp} (x : Str) : WalkD K mg F (Its x) (charsD x) := by
  have hn : (charsD x).length = x.cps.size := by unfold charsD; rw [List.length_map, Array.length_toList]
  unfold WalkD
  rw [hn]
  refine (walk_str (z := x)).mono (fun _ _ => trivial) fun i H v H' hi _ y => ?_
  obtain ⟨rfl, c, hc, rfl⟩ := y
  refine ⟨.str ⟨#[c]⟩, ?_, .inl ⟨rfl, .str _⟩⟩
  unfold charsD
  rw [List.getElem?_map, Array.getElem?_toList, hc]
  rfl
theorem di_str (ha : DE X W a f) : DI X W tg a (itStr f) := piW (pi_str ha) fun σ H Q ⟨e, F, R, h⟩ => by
  refine ⟨e, F, R, ?_⟩
  unfold itStr M.bind at h
  cases w : f e with
  | bad => rw [w] at h; exact h.elim
  | ex x e' => rw [w] at h; exact h
  | ok r e1 =>
    rw [w] at h
    dsimp only at h
    intro x F1 H1 s1 R1 q1
    split at h
    · rename_i ds e2 w2
      split at w2
      · rename_i z wz
        cases w2
        exact ⟨z, R1.rd q1 wz, h _ F1 H1 s1 R1 (walkD_str z)⟩
      · cases w2
    · rename_i x e2 w2
      split at w2 <;> cases w2
    · exact h.elim
end
end Y

set_option Elab.async false
set_option linter.all false
set_option maxRecDepth 100000
set_option maxHeartbeats 4000000
namespace Y
open PySem PySem.Spec L2
set_option autoImplicit false
variable [TB]
/-! ### comprehensions with two sources -/
def lc2Run (t : D → M Unit) (p : M Bool) (it1 : M (List D)) (t1 : D → M Unit) (p1 : M Bool) (f : M RV) (vs vs1 : List Nat) : List D → List D → M (List D)
  | [], acc => M.ret acc
  | d :: r, acc => fun e => match t d e with
    | .ok _ e1 => (match p e1 with
      | .ok true e2 => (match it1 e2 with
        | .ok ds1 e3 => (match lcRun t1 p1 f vs1 ds1 acc (wip e3 vs1) with
          | .ok acc' e4 => lc2Run t p it1 t1 p1 f vs vs1 r acc' (wip e4 vs)
          | _ => .bad)
        | _ => .bad)
      | .ok false e2 => lc2Run t p it1 t1 p1 f vs vs1 r acc (wip e2 vs)
      | _ => .bad)
    | _ => .bad
def eLc2 (it : M (List D)) (t : D → M Unit) (p : M Bool) (it1 : M (List D)) (t1 : D → M Unit) (p1 : M Bool) (f : M RV) (vs vs1 : List Nat) : M RV := M.bind it fun ds => fun e => if noOwn e vs then (match lc2Run t p it1 t1 p1 f vs vs1 ds [] (wip e vs) with
  | .ok acc e' => .ok (.own (.lst acc)) (unw e e' vs)
  | _ => .bad) else .bad
section
variable {K : PySem.W.Frag} {mg : Mg} {Fb Hb F F1 H1 : Hp} {eb e1 eF : Sl} {σb σ : St} {us : List Nat} {t : D → M Unit} {p : M Bool} {f : M RV} {D0 : Addr} {av : List V} {acc accF ds : List D} {J : It} {Post : Hp → Prop}
/-- the new list is nobody's while something is reckoned -/
theorem keepD {e5 : Sl} {F5 H5 : Hp} {σ' σ5 : St} {F2 H2 : Hp} {e2 : Sl} (d1 : H2 D0 = some (.lst av)) (d2 : F2 D0 = none) (d3 : ¬ Own e2 σ' D0) (s5 : Stp F2 H2 e2 σ' F5 H5 e5 σ5) : H5 D0 = some (.lst av) ∧ F5 D0 = none ∧ ¬ Own e5 σ5 D0 := by
  have nD : ¬ NM H2 e2 σ' D0 := fun z => by
    rcases z with z | z
    · rw [d1] at z; cases z
    · exact d3 z
  refine ⟨s5.kept D0 _ d1 d3 (fun ps z => by cases z), ?_, fun z => nD (s5.newO D0 z)⟩
  cases q : F5 D0 with
  | none => rfl
  | some u => exact absurd (s5.newF D0 d2 (by rw [q]; exact fun z => nomatch z)) nD
/-- back to the wiped slots -/
theorem backW {e2 e5 : Sl} {F2 F5 H2 H5 : Hp} {σw σ5 : St} {vs : List Nat} (hw : wipe σ5 vs = wipe σw vs) (hw2 : wipe σw vs = σw) (R5 : Rel K mg F5 e5 σ5 H5) (s5 : Stp F2 H2 e2 σw F5 H5 e5 σ5) (hfix : ∀ i c, e2[i]? = some (.own true c) → i ∉ vs) :
    Rel K mg F5 (wip e5 vs) σw H5 ∧ Stp F2 H2 e2 σw F5 H5 (wip e5 vs) σw := by
  have Rw5 := R5.wip vs
  rw [hw, hw2] at Rw5
  refine ⟨Rw5, s5.fro, s5.kept, s5.dom, s5.newF, fun b hb => s5.newO b (own_wip (vs := vs) (by rw [hw, hw2]; exact hb)), fun i c hc => ?_, by rw [wip_len]; exact s5.len⟩
  obtain ⟨⟨c', h1⟩, h2⟩ := s5.fix i c hc
  exact ⟨⟨c', by rw [wip_at (hfix i c hc)]; exact h1⟩, rfl⟩
theorem nofixW {e2 : Sl} {F2 H2 : Hp} (R2 : Rel K mg F2 e2 (wipe σ us) H2) : ∀ i c, e2[i]? = some (.own true c) → i ∉ us := fun i c hc hm => by
  have hl : i < (wipe σ us).length := by rw [← R2.len]; exact (List.getElem?_eq_some_iff.mp hc).1
  obtain ⟨p, o, h1, _⟩ := R2.ok i _ _ hc (List.getElem?_eq_getElem hl)
  have h2 : (wipe σ us)[i]? = some (some (.ref p)) := by rw [List.getElem?_eq_getElem hl, h1]
  exact (wipe_some h2).2 hm
/-- THE LOOP of one source: D0 the new list, not there at the base -/
theorem lp_ok (hD : Hb D0 = none) (R1 : Rel K mg F1 e1 (wipe σ us) H1) (s1 : Stp Fb Hb eb σb F1 H1 e1 (wipe σ us)) (wd : WalkD K mg F1 J ds) (d1 : H1 D0 = some (.lst av)) (d2 : F1 D0 = none) (d3 : ¬ Own e1 (wipe σ us) D0) (d4 : Reps K mg F1 av acc)
    (w : lcRun t p f us ds acc e1 = .ok accF eF)
    (fin : ∀ F2 H2 av2, Rel K mg F2 eF (wipe σ us) H2 → Stp Fb Hb eb σb F2 H2 eF (wipe σ us) → H2 D0 = some (.lst av2) → F2 D0 = none → ¬ Own eF (wipe σ us) D0 → Reps K mg F2 av2 accF → Post H2) :
    ∃ W1 : Nat → Nat → Hp → Prop, (∃ m, W1 0 m H1) ∧ ∀ j k H, W1 j k H →
      (J.stop j H ∧ Post H) ∨ (J.go j H ∧ ∃ Nx1 : Hp → Prop, (∀ H', Nx1 H' → ∃ k', k' < k ∧ W1 (j + 1) k' H') ∧ ∀ x H', J.yld j H x H' → cU K mg us t x (wipe σ us) H' fun σ3 H5 => wipe σ3 us = wipe σ us ∧ cT K mg W0 p σ3 H5 fun b H6 =>
        if b = true then cE K mg W0 f σ3 H6 fun y H7 => ∃ acc, H7 D0 = some (.lst acc) ∧ acc.length < sizeLine ∧ Nx1 (upd H7 D0 (.lst (acc ++ [y]))) else Nx1 H6) := by
  let Pv : Nat → Hp → Prop := fun i H' => ∃ e' F' acc av, Rel K mg F' e' (wipe σ us) H' ∧ Stp Fb Hb eb σb F' H' e' (wipe σ us) ∧ Same F1 F' ∧ H' D0 = some (.lst av) ∧ F' D0 = none ∧ ¬ Own e' (wipe σ us) D0 ∧ Reps K mg F' av acc ∧ lcRun t p f us (ds.drop i) acc e' = .ok accF eF
  refine ⟨fun i m H => m = ds.length - i ∧ i ≤ ds.length ∧ Pv i H, ⟨ds.length, by simp, Nat.zero_le _, e1, F1, acc, av, R1, s1, Same.refl _, d1, d2, d3, d4, w⟩, ?_⟩
  rintro i m H ⟨rfl, hi, pv⟩
  obtain ⟨e2, F2, acc, av, R2, s2, sm2, d1, d2, d3, d4, w2⟩ := pv
  have q := sm2.trans R2.sub
  by_cases hlt : i < ds.length
  · refine .inr ⟨wd.goes i H hlt q, Pv (i + 1), fun H' p' => ⟨ds.length - (i + 1), by omega, rfl, hlt, p'⟩, fun x H' y => ?_⟩
    obtain ⟨d, hd, y⟩ := wd.yields i H x H' hlt q y
    obtain ⟨F3, s3, R3, q3⟩ := y.got R2 sm2
    refine ⟨e2, F3, d, R3, q3, ?_⟩
    rw [show ds.drop i = d :: ds.drop (i + 1) from by
      obtain ⟨hl, he⟩ := (List.getElem?_eq_some_iff.mp hd)
      rw [List.drop_eq_getElem_cons hl, he]] at w2
    unfold lcRun at w2
    have nofix := nofixW R2
    cases wt : t d e2 with
    | bad => rw [wt] at w2; cases w2
    | ex x e' => rw [wt] at w2; cases w2
    | ok u e3 =>
      rw [wt] at w2
      intro σ4 F4 H4 s4 R4 bt
      have hw4 : wipe σ4 us = wipe σ us := by rw [bt.wipe, wipe_wipe]
      have hw5 : wipe σ4 us = wipe (wipe σ us) us := by rw [hw4, wipe_wipe]
      dsimp only at w2
      refine ⟨hw4, e3, F4, R4, ?_⟩
      cases wp : p e3 with
      | bad => rw [wp] at w2; cases w2
      | ex x e' => rw [wp] at w2; cases w2
      | ok b e4 =>
        rw [wp] at w2
        intro b' F5 H5 s5 R5 hb'
        cases hb'
        have s25 := (s3.trans s4).trans s5
        cases b with
        | false =>
          obtain ⟨Rb, sb⟩ := backW hw5 (wipe_wipe us σ) R5 s25 nofix
          obtain ⟨k4, k5, k6⟩ := keepD d1 d2 d3 sb
          exact iteF ⟨wip e4 us, F5, acc, av, Rb, s2.trans sb, sm2.trans s25.fro, k4, k5, k6, d4.mono s25.fro, w2⟩
        | true =>
          dsimp only at w2
          refine iteT ⟨e4, F5, R5, ?_⟩
          unfold M.bind at w2
          cases wf : f e4 with
          | bad => rw [wf] at w2; cases w2
          | ex x e' => rw [wf] at w2; cases w2
          | ok r e5 =>
            rw [wf] at w2
            intro y F6 H6 s6 R6 q6
            dsimp only at w2
            cases wz : frz r e5 with
            | bad => rw [wz] at w2; cases w2
            | ex x e' => exact (frz_noex wz).elim
            | ok dy e6 =>
              rw [wz] at w2
              dsimp only at w2
              split at w2
              · rename_i hz
                obtain ⟨F7, s7, R7, q7⟩ := frz_ok R6 q6 wz s6
                have s27 := s25.trans s7
                obtain ⟨k1, k2, k3⟩ := keepD d1 d2 d3 s27
                obtain ⟨Rb, sb⟩ := backW hw5 (wipe_wipe us σ) R7 s27 nofix
                obtain ⟨k4, k5, k6⟩ := keepD d1 d2 d3 sb
                refine ⟨av, k1, by rw [d4.length]; exact hz, wip e6 us, F7, acc ++ [dy], av ++ [y], ?_, ?_, sm2.trans s27.fro, upd_same, k5, k6, (d4.mono s27.fro).append (.cons q7 .nil), w2⟩
                · refine ⟨fun b u q => ?_, Rb.len, fun j sl o es ex => ?_, Rb.inj, Rb.tab.chg k4 (fun ps z => by cases z) (fun q z => by cases z), Rb.ftb⟩
                  · rw [upd_ne (ne_of_none q k5)]; exact Rb.sub b u q
                  · have q := Rb.ok j sl o es ex
                    cases sl with
                    | no => trivial
                    | val d => exact q
                    | own fx c =>
                      obtain ⟨a', o', h1, hf', hh', hc'⟩ := q
                      refine ⟨a', o', h1, hf', ?_, hc'⟩
                      rw [upd_ne]
                      · exact hh'
                      · rintro rfl
                        exact k6 ⟨j, fx, c, es, by rw [ex, h1]⟩
                · have s1b := s2.trans sb
                  refine ⟨s1b.fro, fun b o h n m => ?_, fun b h => ?_, s1b.newF, s1b.newO, s1b.fix, s1b.len⟩
                  · rw [upd_ne (ne_of_none h hD)]; exact s1b.kept b o h n m
                  · by_cases z : b = D0
                    · rw [z]; exact hD
                    · rw [upd_ne z] at h; exact s1b.dom b h
              · cases w2
  · have e : i = ds.length := by omega
    subst e
    rw [List.drop_length] at w2
    unfold lcRun at w2
    cases w2
    exact .inl ⟨wd.stops H q, fin F2 H av R2 s2 d1 d2 d3 d4⟩
end
end Y

set_option Elab.async false
set_option linter.all false
set_option maxRecDepth 100000
set_option maxHeartbeats 4000000
namespace Y
open PySem PySem.Spec L2
set_option autoImplicit false
variable [TB]
section
variable {K : PySem.W.Frag} {mg : Mg} {W : WX} {Fb Hb F H : Hp} {eb e : Sl} {σb σ : St} {us vs0 vs1 : List Nat} {Q : VK} {it it1 : M (List D)} {t t1 : D → M Unit} {p p1 : M Bool} {f : M RV}
theorem But.mono {σ' : St} (b : But vs0 σ σ') (h : ∀ i ∈ vs0, i ∈ us) : But us σ σ' := ⟨b.1, fun i n => b.2 i fun z => n (h i z)⟩
theorem wipS (s : Stp Fb Hb eb σb F H e σ) (hn : ∀ i c, eb[i]? = some (.own true c) → i ∉ us) : Stp Fb Hb eb σb F H (wip e us) (wipe σ us) :=
  ⟨s.fro, s.kept, s.dom, s.newF, fun b hb => s.newO b (own_wip hb), fun i c hc => by
    obtain ⟨⟨c', h1⟩, h2⟩ := s.fix i c hc
    exact ⟨⟨c', by rw [wip_at (hn i c hc)]; exact h1⟩, by rw [wipe_at (hn i c hc)]; exact h2⟩, by rw [wip_len]; exact s.len⟩
theorem lc2_ok (h0 : ∀ i ∈ vs0, i ∈ us) (h1s : ∀ i ∈ vs1, i ∈ us) (h : cE K mg W (eLc2 it t p it1 t1 p1 f us vs1) σ H Q) :
    tLc2 (cI K mg W it) (cU K mg vs0 t) (cT K mg W0 p) (cI K mg W0 it1) (cU K mg vs1 t1) (cT K mg W0 p1) (cE K mg W0 f) us vs1 σ H Q := by
  obtain ⟨e, F, R, h⟩ := h
  refine ⟨e, F, R, ?_⟩
  unfold eLc2 M.bind at h
  cases w : it e with
  | bad => rw [w] at h; exact h.elim
  | ex x e' => rw [w] at h; exact h
  | ok ds e1 =>
    rw [w] at h
    intro J F1 H1 s1 R1 wd D hD
    dsimp only at h
    split at h
    · rename_i hn
      split at h
      · rename_i accF eF wF
        have Rw := R1.wip us
        have RD := Rw.new (o := .lst []) hD
        have nob := nofixW Rw
        let Pv : Nat → Hp → Prop := fun i H' => ∃ e' F' acc av, Rel K mg F' e' (wipe σ us) H' ∧ Stp F1 H1 (wip e1 us) (wipe σ us) F' H' e' (wipe σ us) ∧ Same F1 F' ∧ H' D = some (.lst av) ∧ F' D = none ∧ ¬ Own e' (wipe σ us) D ∧ Reps K mg F' av acc ∧ lc2Run t p it1 t1 p1 f us vs1 (ds.drop i) acc e' = .ok accF eF
        refine ⟨fun i m H => m = ds.length - i ∧ i ≤ ds.length ∧ Pv i H, ⟨ds.length, by simp, Nat.zero_le _, wip e1 us, F1, [], [], RD, Stp.new Rw hD, Same.refl _, upd_same, Rw.free hD, Rw.notOwn hD, .nil, wF⟩, ?_⟩
        rintro i m H ⟨rfl, hi, pv⟩
        obtain ⟨e2, F2, acc, av, R2, s2, sm2, d1, d2, d3, d4, w2⟩ := pv
        have q := sm2.trans R2.sub
        by_cases hlt : i < ds.length
        · refine .inr ⟨wd.goes i H hlt q, Pv (i + 1), fun H' p' => ⟨ds.length - (i + 1), by omega, rfl, hlt, p'⟩, fun x H' y => ?_⟩
          obtain ⟨d, hd, y⟩ := wd.yields i H x H' hlt q y
          obtain ⟨F3, s3, R3, q3⟩ := y.got R2 sm2
          refine ⟨e2, F3, d, R3, q3, ?_⟩
          rw [show ds.drop i = d :: ds.drop (i + 1) from by
            obtain ⟨hl, he⟩ := (List.getElem?_eq_some_iff.mp hd)
            rw [List.drop_eq_getElem_cons hl, he]] at w2
          unfold lc2Run at w2
          have nofix := nofixW R2
          cases wt : t d e2 with
          | bad => rw [wt] at w2; cases w2
          | ex x e' => rw [wt] at w2; cases w2
          | ok u e3 =>
            rw [wt] at w2
            intro σ4 F4 H4 s4 R4 bt
            have hw4 : wipe σ4 us = wipe σ us := by rw [(bt.mono h0).wipe, wipe_wipe]
            have hw5 : wipe σ4 us = wipe (wipe σ us) us := by rw [hw4, wipe_wipe]
            dsimp only at w2
            refine ⟨hw4, e3, F4, R4, ?_⟩
            cases wp : p e3 with
            | bad => rw [wp] at w2; cases w2
            | ex x e' => rw [wp] at w2; cases w2
            | ok b e4 =>
              rw [wp] at w2
              intro b' F5 H5 s5 R5 hb'
              cases hb'
              have s25 := (s3.trans s4).trans s5
              cases b with
              | false =>
                obtain ⟨Rb, sb⟩ := backW hw5 (wipe_wipe us σ) R5 s25 nofix
                obtain ⟨k4, k5, k6⟩ := keepD d1 d2 d3 sb
                exact iteF ⟨wip e4 us, F5, acc, av, Rb, s2.trans sb, sm2.trans s25.fro, k4, k5, k6, d4.mono s25.fro, w2⟩
              | true =>
                dsimp only at w2
                refine iteT ⟨e4, F5, R5, ?_⟩
                cases wi : it1 e4 with
                | bad => rw [wi] at w2; cases w2
                | ex x e' => rw [wi] at w2; cases w2
                | ok ds1 e5 =>
                  rw [wi] at w2
                  dsimp only at w2
                  intro J1 F6 H6 s6 R6 wd6
                  cases wl : lcRun t1 p1 f vs1 ds1 acc (wip e5 vs1) with
                  | bad => rw [wl] at w2; cases w2
                  | ex x e' => rw [wl] at w2; cases w2
                  | ok acc' e7 =>
                    rw [wl] at w2
                    dsimp only at w2
                    have s26 := s25.trans s6
                    obtain ⟨k1, k2, k3⟩ := keepD d1 d2 d3 s26
                    have sbase := wipS (us := vs1) (s2.trans s26) fun i c hc z => nob i c hc (h1s i z)
                    refine lp_ok (σ := σ4) (us := vs1) (Fb := F1) (Hb := H1) (eb := wip e1 us) (σb := wipe σ us) hD (R6.wip vs1) sbase wd6 k1 k2 (fun z => k3 (own_wip z)) (d4.mono s26.fro) wl fun F7 H7 av7 R7 s7 m1 m2 m3 m4 => ?_
                    have hw7 : wipe (wipe σ4 vs1) us = wipe σ us := by rw [((wipe_but vs1 σ4).mono h1s).wipe, hw4]
                    have R8 := R7.wip us
                    have s8 := wipS (us := us) s7 nob
                    rw [hw7] at R8 s8
                    exact ⟨wip e7 us, F7, acc', av7, R8, s8, s7.fro, m1, m2, fun z => m3 (own_wip (vs := us) (by rw [hw7]; exact z)), m4, w2⟩
        · have e : i = ds.length := by omega
          subst e
          rw [List.drop_length] at w2
          unfold lc2Run at w2
          cases w2
          obtain ⟨Ru, su, ow⟩ := unw_ok R1 hn s2 R2
          exact .inl ⟨wd.stops H q, h (.ref D) F2 H (s1.trans su) Ru ⟨D, _, rfl, d2, d1, ⟨av, rfl, d4⟩, fun z => d3 (ow D z), .inl (s1.dom D hD)⟩⟩
      · exact h.elim
    · exact h.elim
end
section
variable {X : Cx} {W : WX} {elt tg iter tg1 iter1 : Expr} {ifs ifs1 : List Expr} {scope : Scope} {it it1 : M (List D)} {t t1 : D → M Unit} {p p1 : M Bool} {f : M RV} {us vs0 vs1 : List Nat} {pos pos' spos : Pos}
theorem de_lc2 (own : List (Str × Nat)) (vs0 vs1 : List Nat) (hc : X.calm = true) (hN : X.N.Nodup) (hi : DI X W tg iter it) (ok : blkC X.N X.env.scope scope own = true) (h0 : ∀ i ∈ vs0, i ∈ own.map (·.2)) (h1 : ∀ i ∈ vs1, i ∈ own.map (·.2))
    (hg : ∀ (s : Shared) (H : Hp) (C : Addr) (cl : List (Str × Addr)) (fp : List Addr), DG (X.blk s H scope (compEnvC scope cl C X.env) fp) tg vs0 t) (ht : ∀ (s : Shared) (H : Hp) (C : Addr) (cl : List (Str × Addr)) (fp : List Addr), DTs (X.blk s H scope (compEnvC scope cl C X.env) fp) ifs p)
    (hi1 : ∀ (s : Shared) (H : Hp) (C : Addr) (cl : List (Str × Addr)) (fp : List Addr), DI (X.blk s H scope (compEnvC scope cl C X.env) fp) W0 tg1 iter1 it1)
    (hg1 : ∀ (s : Shared) (H : Hp) (C : Addr) (cl : List (Str × Addr)) (fp : List Addr), DG (X.blk s H scope (compEnvC scope cl C X.env) fp) tg1 vs1 t1) (ht1 : ∀ (s : Shared) (H : Hp) (C : Addr) (cl : List (Str × Addr)) (fp : List Addr), DTs (X.blk s H scope (compEnvC scope cl C X.env) fp) ifs1 p1)
    (he : ∀ (s : Shared) (H : Hp) (C : Addr) (cl : List (Str × Addr)) (fp : List Addr), DE (X.blk s H scope (compEnvC scope cl C X.env) fp) W0 elt f) (hs : ∀ x, foldedSetIterable iter X.env x = pure x := by intro _; rfl) (hs1 : ∀ env x, foldedSetIterable iter1 env x = pure x := by intro _ _; rfl) :
    DE X W (.ListComp elt [⟨tg, iter, ifs, 0⟩, ⟨tg1, iter1, ifs1, 0⟩] scope pos) (eLc2 it t p it1 t1 p1 f (own.map (·.2)) vs1) := peW (pe_lc2 hc hN hi (blkOk_by ok) h1 hg ht hi1 hg1 ht1 he hs hs1) fun _ _ _ h => lc2_ok h0 h1 h
theorem ds_setLc2 (i : Nat) {y : Str} {py : Pos} (own : List (Str × Nat)) (vs0 vs1 : List Nat) (hc : X.calm = true) (hN : X.N.Nodup) (hy : X.N[i]? = some y) (hyl : X.env.scope.names.lookup y = some .local) (hsw : swapsWith (.ListComp elt [⟨tg, iter, ifs, 0⟩, ⟨tg1, iter1, ifs1, 0⟩] scope pos) (some (.Name y py)) spos.line X.env = pure true)
    (hi : DI X W tg iter it) (ok : blkC X.N X.env.scope scope own = true) (h0 : ∀ i ∈ vs0, i ∈ own.map (·.2)) (h1 : ∀ i ∈ vs1, i ∈ own.map (·.2))
    (hg : ∀ (s : Shared) (H : Hp) (C : Addr) (cl : List (Str × Addr)) (fp : List Addr), DG (X.blk s H scope (compEnvC scope cl C X.env) fp) tg vs0 t) (ht : ∀ (s : Shared) (H : Hp) (C : Addr) (cl : List (Str × Addr)) (fp : List Addr), DTs (X.blk s H scope (compEnvC scope cl C X.env) fp) ifs p)
    (hi1 : ∀ (s : Shared) (H : Hp) (C : Addr) (cl : List (Str × Addr)) (fp : List Addr), DI (X.blk s H scope (compEnvC scope cl C X.env) fp) W0 tg1 iter1 it1)
    (hg1 : ∀ (s : Shared) (H : Hp) (C : Addr) (cl : List (Str × Addr)) (fp : List Addr), DG (X.blk s H scope (compEnvC scope cl C X.env) fp) tg1 vs1 t1) (ht1 : ∀ (s : Shared) (H : Hp) (C : Addr) (cl : List (Str × Addr)) (fp : List Addr), DTs (X.blk s H scope (compEnvC scope cl C X.env) fp) ifs1 p1)
    (he : ∀ (s : Shared) (H : Hp) (C : Addr) (cl : List (Str × Addr)) (fp : List Addr), DE (X.blk s H scope (compEnvC scope cl C X.env) fp) W0 elt f) (hs : ∀ x, foldedSetIterable iter X.env x = pure x := by intro _; rfl) (hs1 : ∀ env x, foldedSetIterable iter1 env x = pure x := by intro _ _; rfl) :
    DS X W (.Assign [.Name y py] (.ListComp elt [⟨tg, iter, ifs, 0⟩, ⟨tg1, iter1, ifs1, 0⟩] scope pos) spos) (sSet i (eLc2 it t p it1 t1 p1 f (own.map (·.2)) vs1)) := psW (ps_setLc2 hc hN hy hyl hsw hi (blkOk_by ok) h1 hg ht hi1 hg1 ht1 he hs hs1) fun E σ H ⟨e, F, R, h⟩ => by
  refine lc2_ok (W := W) h0 h1 ⟨e, F, R, post_imp (postS_seq h) ?_⟩
  rintro v H1 ⟨r, e1, F1, q1, R1, s1, h1⟩
  exact stor_ok R1 q1 s1 h1
end
end Y

set_option Elab.async false
set_option linter.all false
set_option maxRecDepth 100000
set_option maxHeartbeats 4000000
namespace YSa
open PySem PySem.Spec PyProof.Rows L2
set_option autoImplicit false
/-! ### sets of ints and texts that can be walked: HandS.Set's way, over keys -/
def keyK (e : Int × Value) : Key := match e.2 with
  | .int k _ => .inl k
  | .str x _ => .inr x
  | _ => .inl 0
def GoodK (w : World) (e : Int × Value) : Prop := ∃ k : Key, keyIs k e.2 = true ∧ e.1 = keyH w k
theorem keyK_of {e : Int × Value} {k : Key} (h : keyIs k e.2 = true) : keyK e = k := by
  rcases keyIs_shape h with ⟨i, t, rfl, h2⟩ | ⟨x, t, rfl, h2⟩
  · unfold keyK; rw [h2]
  · unfold keyK; rw [h2]
def SetG (w : World) (h : Heap) (a : Addr) (S : Key → Bool) (n : Nat) : Prop :=
  ∃ o es ep t, h.get? a = some o ∧ o.ExactSet ∧ o.data = .set es ep t ∧ (∀ e ∈ es.toList, GoodK w e) ∧ (es.toList.map keyK).Nodup ∧ (∀ k, S k = true ↔ k ∈ es.toList.map keyK) ∧
    es.size < scanBound ∧ t.fits es.size = true ∧ es.size = n ∧ Ris t.place.toList ∧ (w.params.followText "set-order" = true ∨ t.led = true)
section
variable {P : Program} {w : World} {h h' : Heap} {a : Addr} {S : Key → Bool} {n : Nat}
theorem SetG.at (R : SetG w h a S n) (k : ∀ o, h.get? a = some o → h'.get? a = some o) : SetG w h' a S n := by
  obtain ⟨o, es, ep, t, ho, r⟩ := R
  exact ⟨o, es, ep, t, k o ho, r⟩
theorem SetG.congr {S' : Key → Bool} (R : SetG w h a S n) (e : ∀ k, S' k = S k) : SetG w h a S' n := by
  have q : S' = S := funext e
  rw [q]; exact R
theorem scan_of {k : Key} {v : Value} (h : keyIs k v = true) : v.scannable = true := by
  rcases keyIs_shape h with ⟨i, t, rfl, rfl⟩ | ⟨x, t, rfl, rfl⟩ <;> rfl
theorem good_elems {l : List (Int × Value)} (g : ∀ e ∈ l, GoodK w e) : ElemsOf (mixKind P w) l := fun e he => by
  obtain ⟨k, h1, h2⟩ := g e he
  exact ⟨⟨k, h1, h2⟩, scan_of h1⟩
theorem good_is {e : Int × Value} (g : GoodK w e) (k : Key) : (mixKind P w).is k e.2 = true ↔ keyK e = k := by
  obtain ⟨k0, h1, _⟩ := g
  rw [keyK_of h1]
  exact ⟨fun h => (mixKind P w).inj _ _ _ h1 h, fun h => by rw [← h]; exact h1⟩
theorem good_mem {l : List (Int × Value)} (g : ∀ e ∈ l, GoodK w e) (k : Key) : k ∈ l.map keyK ↔ ∃ e ∈ l, (mixKind P w).is k e.2 = true := by
  rw [List.mem_map]
  constructor
  · rintro ⟨e, he, q⟩
    exact ⟨e, he, (good_is (g e he) k).2 q⟩
  · rintro ⟨e, he, q⟩
    exact ⟨e, he, (good_is (g e he) k).1 q⟩
theorem SetG.setOf (R : SetG w h a S n) : h.SetOf (mixKind P w) a S n := by
  obtain ⟨o, es, ep, t, ho, hx, hd, g, nd, hm, hb, hf, hn, _⟩ := R
  exact ⟨o, es, ep, t, ho, hx, hd, good_elems g, fun k => (hm k).trans (good_mem g k), hb, hf, hn⟩
theorem setG_fresh {h : Heap} (w : World) : SetG w (h.push { cls := .type "set", dict := none, data := .set #[] 0 (.fresh 0 0 (!w.params.followText "set-order")) }) h.objs.size (fun _ => false) 0 :=
  ⟨_, #[], 0, _, Heap.get?_push_size _ rfl, ⟨rfl, rfl, rfl⟩, rfl, (fun e he => by simp at he), (by simp), (fun k => by simp), (by decide), (by rfl), rfl, List.Pairwise.nil, by
    show _ ∨ (!w.params.followText "set-order") = true
    cases w.params.followText "set-order"
    · exact .inr rfl
    · exact .inl rfl⟩
end
section
variable {P : Program} {w : World} {A : Around} {E : Value → Shared → Prop} {s : Shared} {a : Addr} {S : Key → Bool} {n : Nat}
theorem setG_add_tail {g : Bool → Sem Unit} (hg : ∀ (b : Bool) (s₁ : Shared) (Q' : Unit → Shared → Prop), Q' () s₁ → wpAny (model P w) A (g b) Q' E s₁)
    {o : Obj} {es : Array (Int × Value)} {ep : Nat} {t : SetTable} (ho : s.heap.get? a = some o) (hex : o.ExactSet) (hd : o.data = .set es ep t)
    {es1 : Array (Int × Value)} {t2 : SetTable} {S' : Key → Bool} (g1 : ∀ e ∈ es1.toList, GoodK w e) (nd1 : (es1.toList.map keyK).Nodup) (m1 : ∀ k, S' k = true ↔ k ∈ es1.toList.map keyK)
    (hb1 : es1.size < scanBound) (hf2 : t2.fits es1.size = true) (hr : Ris t2.place.toList) (hl : w.params.followText "set-order" = true ∨ t2.led = true) {wasDummy : Bool} {R : Option Bool → Shared → Prop}
    (hR : ∀ h', Heap.SameBut a s.heap h' → SetG w h' a S' es1.size → R (some true) { s with heap := h' }) :
    wpAny (model P w) A (do
        storeSet a es1 t2
        if (!wasDummy && t2.tooFull) = true then do
            g (relayAll t2 es1 (SetTable.grown es1.size)).2.2
            storeSet a (relayAll t2 es1 (SetTable.grown es1.size)).1 (relayAll t2 es1 (SetTable.grown es1.size)).2.1
            pure (some true)
          else pure (some true)) R E s := by
  refine wpAny_bind (wpAny_storeSet_of ho hd ?_ (fits_of_scanBound hb1))
  have ho1 := store_at (es' := es1) (t' := t2) ho hd
  have sb1 := Heap.SameBut.update s.heap a (Obj.putSet es1 t2)
  split
  · have pm := relayAll_perm t2 es1 (SetTable.grown es1.size)
    have hf3 := relayAll_fits t2 es1 (SetTable.grown es1.size)
    have hr3 := relayAll_ris t2 es1 (SetTable.grown es1.size)
    have hl3 := relayAll_led t2 es1 (SetTable.grown es1.size)
    generalize relayAll t2 es1 (SetTable.grown es1.size) = Z at pm hf3 hr3 hl3 ⊢
    obtain ⟨es2, t3, gave⟩ := Z
    dsimp only at pm hf3 hr3 hl3 ⊢
    have hsz : es2.size = es1.size := by rw [← Array.length_toList, pm.length_eq, Array.length_toList]
    have hb2 : es2.size < scanBound := by rw [hsz]; exact hb1
    refine wpAny_bind (hg _ _ _ ?_)
    refine wpAny_bind (wpAny_storeSet_of ho1 rfl ?_ (fits_of_scanBound hb2))
    have ho2 := store_at (es' := es2) (t' := t3) ho1 rfl
    refine wpAny_pure (hR _ (sb1.trans (Heap.SameBut.update _ a _)) ?_)
    exact ⟨_, es2, _, t3, ho2, hex, rfl, fun e he => g1 e (pm.mem_iff.mp he), (pm.map keyK).nodup_iff.mpr nd1, fun k => (m1 k).trans (pm.map keyK).mem_iff.symm, hb2, hf3, hsz, hr3,
      hl.imp id fun z => by rw [hl3]; exact z⟩
  · exact wpAny_pure (hR _ sb1 ⟨_, es1, _, t2, ho1, hex, rfl, g1, nd1, m1, hb1, hf2, rfl, hr, hl⟩)
theorem setG_add_hashed {k : Key} {v : Value} {Q : Bool → Shared → Prop} (hkey : keyIs k v = true) (R : SetG w s.heap a S n) (room : n + 1 < scanBound)
    (hQ : ∀ h', Heap.SameBut a s.heap h' → SetG w h' a (fun j => S j || decide (j = k)) (if S k = true then n else n + 1) → Q (!S k) { s with heap := h' }) :
    wpAny (model P w) A (setAddHashed a v ((mixKind P w).hash k)) Q E s := by
  obtain ⟨o, es, ep, t, ho, hex, hd, g, nd, hm, hb, hf, hn, hr, hl⟩ := R
  have hsc : v.scannable = true := scan_of hkey
  have hel : ElemsOf (mixKind P w) es.toList := good_elems g
  unfold setAddHashed setAddHashedIn
  refine wpAny_holding (wpAny_bind (wpAny_setState_of ho hd hf ?_))
  dsimp only
  rw [byScan_of hsc hb hel]
  simp only [↓reduceIte]
  unfold setAddByScan
  refine wpAny_bind ?_
  refine wpAny_bind (wpAny_rule ?_)
  refine wpAny_bind (wpAny_setScan_of (knd := mixKind P w) hkey ho hd hf hel ?_)
  cases hfi : List.findIdx? (fun e => (mixKind P w).is k e.2) es.toList with
  | some j =>
    dsimp only
    obtain ⟨hj, pj, _⟩ := List.findIdx?_eq_some_iff_getElem.mp hfi
    have hSk : S k = true := (hm k).2 ((good_mem (P := P) (w := w) g k).2 ⟨es.toList[j], List.getElem_mem hj, pj⟩)
    refine wpAny_pure (wpAny_pure ?_)
    have q := hQ s.heap (Heap.SameBut.refl a s.heap) ⟨o, es, ep, t, ho, hex, hd, g, nd, fun i => by
      rw [Bool.or_eq_true, decide_eq_true_eq, ← hm i]
      exact ⟨fun z => z.elim id (fun e => e ▸ hSk), .inl⟩, hb, hf, by rw [if_pos hSk]; exact hn, hr, hl⟩
    rw [hSk] at q
    exact q
  | none =>
    dsimp only
    have hnk : k ∉ es.toList.map keyK := fun z => by
      obtain ⟨e, he, q⟩ := (good_mem (P := P) (w := w) g k).1 z
      have c := List.findIdx?_eq_none_iff.mp hfi e he
      rw [q] at c
      cases c
    have hSk : S k = false := by
      cases q : S k with
      | false => rfl
      | true => exact absurd ((hm k).1 q) hnk
    have hgw : ∀ (b : Bool) {s₁ : Shared} {Q' : Unit → Shared → Prop}, Q' () s₁ → wpAny (model P w) A (match b with | true => rule "set.scan.the-table-gave-way" | false => pure ()) Q' E s₁ :=
      fun b s₁ Q' q => by cases b <;> first | exact wpAny_pure q | exact wpAny_rule q
    have pm := layNew_perm t es ((mixKind P w).hash k) v
    have hf1 := layNew_fits t es ((mixKind P w).hash k) v
    have hr1 := layNew_ris t es ((mixKind P w).hash k) v hr
    have hl1 := layNew_led t es ((mixKind P w).hash k) v
    generalize layNew t es ((mixKind P w).hash k) v = Z at pm hf1 hr1 hl1 ⊢
    obtain ⟨es1, t1, wasDummy, gave⟩ := Z
    dsimp only at pm hf1 hr1 hl1 ⊢
    rw [Array.toList_push] at pm
    have pc : es1.toList.Perm (((mixKind P w).hash k, v) :: es.toList) := pm.trans (List.perm_append_singleton _ _)
    have pk : (es1.toList.map keyK).Perm (k :: es.toList.map keyK) := by
      have z := pc.map keyK
      rw [List.map_cons, keyK_of (e := ((mixKind P w).hash k, v)) hkey] at z
      exact z
    have g1 : ∀ e ∈ es1.toList, GoodK w e := fun e he => by
      rcases List.mem_cons.mp (pc.mem_iff.mp he) with z | z
      · rw [z]; exact ⟨k, hkey, rfl⟩
      · exact g e z
    have nd1 : (es1.toList.map keyK).Nodup := pk.nodup_iff.mpr (List.nodup_cons.mpr ⟨hnk, nd⟩)
    have m1 : ∀ i, (S i || decide (i = k)) = true ↔ i ∈ es1.toList.map keyK := fun i => by
      rw [Bool.or_eq_true, decide_eq_true_eq, hm i, pk.mem_iff, List.mem_cons]
      exact Or.comm
    have hsz : es1.size = n + 1 := by rw [← Array.length_toList, pc.length_eq, List.length_cons, Array.length_toList, hn]
    have hb1 : es1.size < scanBound := by rw [hsz]; exact room
    have hled : w.params.followText "set-order" = true ∨ t1.led = true := hl.imp id fun z => by rw [hl1]; exact z
    have fin : ∀ h', Heap.SameBut a s.heap h' → SetG w h' a (fun j => S j || decide (j = k)) es1.size → Q true { s with heap := h' } := fun h' sb r => by
      have q := hQ h' sb
      rw [hSk] at q
      rw [hsz] at r
      exact q r
    refine wpAny_bind (hgw _ ?_)
    split
    · refine wpAny_bind ?_
      rw [hashByValue_scannable 8 hsc]
      refine wpAny_pure ?_
      refine setG_add_tail ?_ ho hex hd g1 nd1 m1 hb1 ?_ ?_ ?_ ?_
      · intro b s₁ Q' q; cases b <;> first | exact wpAny_pure q | exact wpAny_rule q
      · first | (split <;> first | exact hf1 | exact SetTable.fits_plain_off hf1) | exact hf1
      · first | (split <;> exact hr1) | exact hr1
      · first | (split <;> exact hled) | exact hled
      · intro h' sb r; dsimp only; exact wpAny_pure (fin h' sb r)
    · refine wpAny_bind (wpAny_pure ?_)
      simp only [↓reduceIte]
      refine setG_add_tail ?_ ho hex hd g1 nd1 m1 hb1 hf1 hr1 hled ?_
      · intro b s₁ Q' q; cases b <;> first | exact wpAny_pure q | exact wpAny_rule q
      · intro h' sb r; dsimp only; exact wpAny_pure (fin h' sb r)
end
end YSa

set_option Elab.async false
set_option linter.all false
set_option maxRecDepth 100000
set_option maxHeartbeats 4000000
namespace YSa
open PySem PySem.Spec PyProof.Rows L2
set_option autoImplicit false
instance decMemKey (j : Key) (l : List Key) : Decidable (j ∈ l) := @List.instDecidableMemOfLawfulBEq Key instBEqOfDecidableEq inferInstance j l
theorem setG_new_at {w : World} {h : Heap} {a : Addr} {ns : List Key} (ho : h.get? a = some { cls := .type "set", dict := none, data := .set #[] 0 (.fresh 0 0 (!w.params.followText "set-order")) }) : SetG w h a (fun j => decide (j ∈ ns.take 0)) 0 :=
  ⟨_, #[], 0, _, ho, ⟨rfl, rfl, rfl⟩, rfl, (fun e he => by simp at he), (by simp), (fun k => by simp), (by decide), (by rfl), rfl, List.Pairwise.nil, by
    show _ ∨ (!w.params.followText "set-order") = true
    cases w.params.followText "set-order"
    · exact .inr rfl
    · exact .inl rfl⟩
section
variable {P : Program} {w : World} {A : Around} {E : Value → Shared → Prop} {s : Shared}
theorem set_update_keys {I : Addr} {fp wr : List Addr} {G : Array GenState → Array GenState → Prop} {n : Nat} {Pv : Nat → Value → Prop} {St : Nat → Shared → Prop} {R : Result → Shared → Prop}
    (W : WalksS P w A.in1 I fp wr G n Pv St) (S : Addr) (hSf : S ∉ fp) (ns : List Key) (hn : n = ns.length) (hb : ns.length + 1 < scanBound) (hval : ∀ i v, Pv i v → ∃ k, ns[i]? = some k ∧ keyIs k v = true) :
    ∀ (k i : Nat) (s : Shared), n - i = k → i ≤ n → St i s → (∃ c, c ≤ i ∧ SetG w s.heap S (fun j => decide (j ∈ ns.take i)) c) →
      (∀ s' c, Moved (S :: wr) G s s' → c ≤ n → SetG w s'.heap S (fun j => decide (j ∈ ns)) c → R (.ok (.ret .none)) s') →
      codeAny (model P w) A (.builtin "set.update.loop" ⟨[.ref S, .ref I], []⟩) R s := by
  have hSw : S ∉ wr := fun h => hSf (W.sub _ h)
  have hsub : ∀ b ∈ wr, b ∈ S :: wr := fun b hb => List.mem_cons_of_mem _ hb
  intro k
  induction k with
  | zero =>
    intro i s hk' hi hst ⟨c, hc, hS⟩ hR
    have hin : i = n := by omega
    subst hin
    refine codeAny_builtin F.entry_set_update_loop ?_
    rw [Around.under_plainId F.plain_set_update_loop _]
    show wpAny _ A.in1 (pyNext (.ref I) >>= _) _ _ s
    refine wpAny_bind (W.done s _ _ hst fun s' hm => ?_)
    show wpAny _ A.in1 (ret Value.none) _ _ s'
    have e : ns.take i = ns := List.take_of_length_le (by omega)
    rw [e] at hS
    exact wpAny_pure (hR s' c (hm.mono hsub) hc (hS.at fun o e => hm.heap S o hSw e))
  | succ k ih =>
    intro i s hk' hi hst ⟨c, hc, hS⟩ hR
    have hlt : i < n := by omega
    refine codeAny_builtin F.entry_set_update_loop ?_
    rw [Around.under_plainId F.plain_set_update_loop _]
    show wpAny _ A.in1 (pyNext (.ref I) >>= _) _ _ s
    refine wpAny_bind (W.item i s _ _ hlt hst fun v s' hP hst' hm => ?_)
    obtain ⟨z, hz, hzv⟩ := hval i v hP
    have hS' : SetG w s'.heap S (fun j => decide (j ∈ ns.take i)) c := hS.at fun o e => hm.heap S o hSw e
    show wpAny _ A.in1 (holding [v] (setAdd S v) >>= _) _ _ s'
    refine wpAny_bind (wpAny_holding ?_)
    unfold setAdd
    refine wpAny_holding ?_
    refine wpAny_bind ((mixKind P w).pyHash (k := z) hzv ?_)
    refine setG_add_hashed (s := { s' with toks := s'.toks + 1 }) hzv hS' (by omega) fun h' hsb hS2 => ?_
    have hS3 : SetG w h' S (fun j => decide (j ∈ ns.take (i + 1))) (if decide (z ∈ ns.take i) = true then c else c + 1) := hS2.congr fun j => by
      rw [List.take_add_one, hz]
      simp [List.mem_append]
    have hc3 : (if decide (z ∈ ns.take i) = true then c else c + 1) ≤ i + 1 := by
      split <;> omega
    refine wpAny_pure ⟨plainId_quiet F.plain_set_update_loop _, ih (i + 1) _ (by omega) hlt (W.frame _ s' _ _ hst' (Nat.le_succ _) fun b hb o e => ?_) ⟨_, hc3, hS3⟩ fun s'' c2 hm'' hc'' hS'' => ?_⟩
    · rw [hsb.2 b (fun h : b = S => hSf (by rw [← h]; exact hb))]; exact e
    · refine hR s'' c2 (Moved.trans W.gtrans ((hm.mono hsub).then_heap (Nat.le_succ _) fun b o hb e => ?_) hm'') hc'' hS''
      rw [hsb.2 b (fun h : b = S => hb (by rw [h]; exact List.mem_cons_self))]; exact e
theorem paired_at {α β : Type} {R : α → β → Prop} : ∀ {xs : List α} {ys : List β}, Paired R xs ys → ∀ {i : Nat} {x : α}, xs[i]? = some x → ∃ y, ys[i]? = some y ∧ R x y
  | _, _, .nil, _, _, h => by simp at h
  | _, _, .cons r t, 0, _, h => by simp at h; subst h; exact ⟨_, rfl, r⟩
  | _, _, .cons r t, i + 1, x, h => by
    obtain ⟨y, h1, h2⟩ := paired_at t (i := i) (x := x) (by simpa using h)
    exact ⟨y, by simpa using h1, h2⟩
theorem call_set_tupK {l : Addr} {items : Array Value} (ns : List Key) {Q : Value → Shared → Prop} (hh : A.handled = none) (hl : s.heap.IsTuple l items) (hit : Paired (fun v k => keyIs k v = true) items.toList ns) (hb : ns.length + 1 < scanBound)
    (h : ∀ (h' : Heap) (tk c : Nat), SetG w h' s.heap.objs.size (fun j => decide (j ∈ ns)) c → c ≤ ns.length → (∀ b o, s.heap.get? b = some o → h'.get? b = some o) → Q (.ref s.heap.objs.size) { s with heap := h', toks := tk }) :
    wpAny (model P w) A (call (.type "set") [.ref l]) Q E s := by
  have hisz : items.size = ns.length := by
    have q := hit.length
    rw [Array.length_toList] at q
    exact q
  obtain ⟨c, tl, hmro⟩ := F.called_set.mro
  have hmade := F.called_set.made
  have hsub := F.called_set.sub
  refine wpAny_call (codeAny_of_tree ?_)
  show wpAny _ _ (callAny (.type "set") _) _ _ _
  refine wpAny_pure ⟨Code.quiet_builtin _ (by decide +kernel), codeAny_builtin F.entry_type_call ?_⟩
  rw [Around.under_plain (weight_type_call_type "set" [.ref l] []) rfl]
  have h1 := F.called_set.notType
  have h2 := F.called_set.canCreate
  have hct := F.typeCall_set_1 (.ref l)
  repeat (any_goals (first | assumption | wp_step))
  refine codeAny_mono (code_set_led1 (.ref l) (E := E) (Q₁ := fun obj s₁ => obj = .ref s.heap.objs.size ∧ s₁ = { s with heap := s.heap.push { cls := .type "set", dict := none, data := .set #[] 0 (.fresh 0 0 (!w.params.followText "set-order")) } }) ⟨rfl, rfl⟩) fun r s₁ hr => ?_
  cases r with
  | error e => exact hr
  | ok fl =>
    cases fl with
    | ret obj =>
      obtain ⟨rfl, rfl⟩ := hr
      have hS : (s.heap.push { cls := .type "set", dict := none, data := .set #[] 0 (.fresh 0 0 (!w.params.followText "set-order")) }).get? s.heap.objs.size = some { cls := .type "set", dict := none, data := .set #[] 0 (.fresh 0 0 (!w.params.followText "set-order")) } := Heap.get?_push_size _ rfl
      have hT : Shared.TypeIs { s with heap := s.heap.push { cls := .type "set", dict := none, data := .set #[] 0 (.fresh 0 0 (!w.params.followText "set-order")) } } (.ref s.heap.objs.size) "set" := ⟨_, hS, rfl⟩
      have hli := F.called_set.init.lookup
      have hbi := F.called_set.init.bind (.ref s.heap.objs.size)
      repeat (any_goals (first | assumption | wp_step))
      refine codeAny_mono (codeAny_call_builtin (R := wants (fun r s₂ => r = .none ∧ ∃ h' tk c, s₂ = { s with heap := h', toks := tk } ∧ SetG w h' s.heap.objs.size (fun j => decide (j ∈ ns)) c ∧ c ≤ ns.length ∧
          (∀ b o, s.heap.get? b = some o → h'.get? b = some o)) E) F.called_set.init.plain F.entry_set_init (check_set_init_1 hT ?_)) fun r₂ s₂ hr₂ => ?_
      · obtain ⟨ol, hol, hcl, nl, hdl⟩ := hl
        obtain ⟨ocls, odict, odata, oslots⟩ := ol
        simp only at hcl hdl
        subst hcl; subst hdl
        have hol' : (s.heap.push { cls := .type "set", dict := none, data := .set #[] 0 (.fresh 0 0 (!w.params.followText "set-order")) }).get? l = some { cls := .type "tuple", dict := odict, data := .seq items nl, slots := oslots } := Heap.get?_push_of_some _ hol
        have hsls := F.sub_tuple_set
        have hslf := F.sub_tuple_frozenset
        have hne : (Value.type "tuple" == Value.type "dict") = false := by decide
        have hl1 : (s.heap.push { cls := .type "set", dict := none, data := .set #[] 0 (.fresh 0 0 (!w.params.followText "set-order")) }).IsTuple l items := ⟨_, hol', rfl, nl, rfl⟩
        unfold Builtin.«set.__init__» noKeywords Builtin.Frozenset.updateFrom
        generalize hPI : pyIter = PI
        wp_walk
        subst hPI
        refine wpAny_pyIter_tuple hl1 ?_
        refine wpAny_bind (wpAny_runValue ?_)
        have hlS : l < s.heap.objs.size := Heap.lt_size hol
        have hh3 : A.in1.in1.in1.handled = none := by simp [hh]
        have hz1 : (s.heap.push { cls := .type "set", dict := none, data := .set #[] 0 (.fresh 0 0 (!w.params.followText "set-order")) }).objs.size = s.heap.objs.size + 1 := Heap.size_push ..
        have hneI : l ≠ (s.heap.push { cls := .type "set", dict := none, data := .set #[] 0 (.fresh 0 0 (!w.params.followText "set-order")) }).objs.size := by
          rw [Heap.size_push]; exact Nat.ne_of_lt (Nat.lt_succ_of_lt hlS)
        have hSf : s.heap.objs.size ∉ [(s.heap.push { cls := .type "set", dict := none, data := .set #[] 0 (.fresh 0 0 (!w.params.followText "set-order")) }).objs.size, l] := by
          rw [Heap.size_push]; simp only [List.mem_cons, List.mem_singleton, List.not_mem_nil, or_false, not_or]
          exact ⟨Nat.ne_of_lt (Nat.lt_succ_self _), Nat.ne_of_gt hlS⟩
        have hval : ∀ (i : Nat) (v : Value), items[i]? = some v → ∃ k, ns[i]? = some k ∧ keyIs k v = true := fun i v hv => paired_at hit (by rw [Array.getElem?_toList]; exact hv)
        refine set_update_keys ((Walks.tuple hh3 _ l hneI items).toS) s.heap.objs.size
          hSf ns hisz hb hval (items.size - 0) 0 _ (by omega) (Nat.zero_le _)
          ⟨⟨_, Heap.get?_push_size _ rfl, rfl, rfl⟩, (hl1.push _)⟩ ?hS0 ?hR
        case hS0 =>
          have hget : ((s.heap.push { cls := .type "set", dict := none, data := .set #[] 0 (.fresh 0 0 (!w.params.followText "set-order")) }).push { cls := .type "tuple_iterator", data := .fields #[.ref l, .int 0 0] }).get? s.heap.objs.size
              = some { cls := .type "set", dict := none, data := .set #[] 0 (.fresh 0 0 (!w.params.followText "set-order")) } := Heap.get?_push_of_some _ hS
          exact ⟨0, Nat.le_refl 0, setG_new_at hget⟩
        case hR =>
          intro s' c' hm hc' hS'
          obtain ⟨h', g2, d', tk', os'⟩ := s'
          have eg : g2 = s.gens := hm.gens
          have ed : d' = s.drawn := hm.drawn
          have eo : os' = s.os := hm.os
          subst eg; subst ed; subst eo
          show wpAny _ _ _ _ _ _
          refine wpAny_pure ?_
          show wpAny _ _ (ret Value.none) _ _ _
          rw [hisz] at hc'
          refine wpAny_pure ⟨rfl, h', tk', c', rfl, hS', hc', fun b o e => ?_⟩
          have hb0 : b < s.heap.objs.size := Heap.lt_size e
          have hb1 : b ≠ s.heap.objs.size := Nat.ne_of_lt hb0
          have hb2 : b ≠ (s.heap.push { cls := .type "set", dict := none, data := .set #[] 0 (.fresh 0 0 (!w.params.followText "set-order")) }).objs.size := by
            rw [Heap.size_push]; exact Nat.ne_of_lt (Nat.lt_succ_of_lt hb0)
          exact hm.heap b o (by simp only [List.mem_cons, List.mem_singleton, List.not_mem_nil, or_false, not_or]; exact ⟨hb1, hb2⟩) (Heap.get?_push_of_some _ (Heap.get?_push_of_some _ e))
      · cases r₂ with
        | error e => exact hr₂
        | ok fl₂ =>
          cases fl₂ with
          | ret r =>
            obtain ⟨rfl, h', tk, c', rfl, hS', hc', hk'⟩ := hr₂
            repeat (any_goals (first | assumption | wp_step))
            exact h _ _ _ hS' hc' hk'
          | _ => exact hr₂.elim
    | _ => exact hr.elim
theorem call_set_lstK {l : Addr} {items : Array Value} (ns : List Key) {Q : Value → Shared → Prop} (hh : A.handled = none) (hl : s.heap.IsList l items) (hit : Paired (fun v k => keyIs k v = true) items.toList ns) (hb : ns.length + 1 < scanBound)
    (h : ∀ (h' : Heap) (tk c : Nat), SetG w h' s.heap.objs.size (fun j => decide (j ∈ ns)) c → c ≤ ns.length → (∀ b o, s.heap.get? b = some o → h'.get? b = some o) → Q (.ref s.heap.objs.size) { s with heap := h', toks := tk }) :
    wpAny (model P w) A (call (.type "set") [.ref l]) Q E s := by
  have hisz : items.size = ns.length := by
    have q := hit.length
    rw [Array.length_toList] at q
    exact q
  obtain ⟨c, tl, hmro⟩ := F.called_set.mro
  have hmade := F.called_set.made
  have hsub := F.called_set.sub
  refine wpAny_call (codeAny_of_tree ?_)
  show wpAny _ _ (callAny (.type "set") _) _ _ _
  refine wpAny_pure ⟨Code.quiet_builtin _ (by decide +kernel), codeAny_builtin F.entry_type_call ?_⟩
  rw [Around.under_plain (weight_type_call_type "set" [.ref l] []) rfl]
  have h1 := F.called_set.notType
  have h2 := F.called_set.canCreate
  have hct := F.typeCall_set_1 (.ref l)
  repeat (any_goals (first | assumption | wp_step))
  refine codeAny_mono (code_set_led1 (.ref l) (E := E) (Q₁ := fun obj s₁ => obj = .ref s.heap.objs.size ∧ s₁ = { s with heap := s.heap.push { cls := .type "set", dict := none, data := .set #[] 0 (.fresh 0 0 (!w.params.followText "set-order")) } }) ⟨rfl, rfl⟩) fun r s₁ hr => ?_
  cases r with
  | error e => exact hr
  | ok fl =>
    cases fl with
    | ret obj =>
      obtain ⟨rfl, rfl⟩ := hr
      have hS : (s.heap.push { cls := .type "set", dict := none, data := .set #[] 0 (.fresh 0 0 (!w.params.followText "set-order")) }).get? s.heap.objs.size = some { cls := .type "set", dict := none, data := .set #[] 0 (.fresh 0 0 (!w.params.followText "set-order")) } := Heap.get?_push_size _ rfl
      have hT : Shared.TypeIs { s with heap := s.heap.push { cls := .type "set", dict := none, data := .set #[] 0 (.fresh 0 0 (!w.params.followText "set-order")) } } (.ref s.heap.objs.size) "set" := ⟨_, hS, rfl⟩
      have hli := F.called_set.init.lookup
      have hbi := F.called_set.init.bind (.ref s.heap.objs.size)
      repeat (any_goals (first | assumption | wp_step))
      refine codeAny_mono (codeAny_call_builtin (R := wants (fun r s₂ => r = .none ∧ ∃ h' tk c, s₂ = { s with heap := h', toks := tk } ∧ SetG w h' s.heap.objs.size (fun j => decide (j ∈ ns)) c ∧ c ≤ ns.length ∧
          (∀ b o, s.heap.get? b = some o → h'.get? b = some o)) E) F.called_set.init.plain F.entry_set_init (check_set_init_1 hT ?_)) fun r₂ s₂ hr₂ => ?_
      · obtain ⟨ol, hol, hcl, nl, hdl⟩ := hl
        obtain ⟨ocls, odict, odata, oslots⟩ := ol
        simp only at hcl hdl
        subst hcl; subst hdl
        have hol' : (s.heap.push { cls := .type "set", dict := none, data := .set #[] 0 (.fresh 0 0 (!w.params.followText "set-order")) }).get? l = some { cls := .type "list", dict := odict, data := .seq items nl, slots := oslots } := Heap.get?_push_of_some _ hol
        have hsls := F.sub_list_set
        have hslf := F.sub_list_frozenset
        have hne : (Value.type "list" == Value.type "dict") = false := by decide
        have hl1 : (s.heap.push { cls := .type "set", dict := none, data := .set #[] 0 (.fresh 0 0 (!w.params.followText "set-order")) }).IsList l items := ⟨_, hol', rfl, nl, rfl⟩
        unfold Builtin.«set.__init__» noKeywords Builtin.Frozenset.updateFrom
        generalize hPI : pyIter = PI
        wp_walk
        subst hPI
        refine wpAny_pyIter_list hl1 ?_
        refine wpAny_bind (wpAny_runValue ?_)
        have hlS : l < s.heap.objs.size := Heap.lt_size hol
        have hh3 : A.in1.in1.in1.handled = none := by simp [hh]
        have hz1 : (s.heap.push { cls := .type "set", dict := none, data := .set #[] 0 (.fresh 0 0 (!w.params.followText "set-order")) }).objs.size = s.heap.objs.size + 1 := Heap.size_push ..
        have hneI : l ≠ (s.heap.push { cls := .type "set", dict := none, data := .set #[] 0 (.fresh 0 0 (!w.params.followText "set-order")) }).objs.size := by
          rw [Heap.size_push]; exact Nat.ne_of_lt (Nat.lt_succ_of_lt hlS)
        have hSf : s.heap.objs.size ∉ [(s.heap.push { cls := .type "set", dict := none, data := .set #[] 0 (.fresh 0 0 (!w.params.followText "set-order")) }).objs.size, l] := by
          rw [Heap.size_push]; simp only [List.mem_cons, List.mem_singleton, List.not_mem_nil, or_false, not_or]
          exact ⟨Nat.ne_of_lt (Nat.lt_succ_self _), Nat.ne_of_gt hlS⟩
        have hval : ∀ (i : Nat) (v : Value), items[i]? = some v → ∃ k, ns[i]? = some k ∧ keyIs k v = true := fun i v hv => paired_at hit (by rw [Array.getElem?_toList]; exact hv)
        refine set_update_keys ((Walks.list hh3 _ l hneI items).toS) s.heap.objs.size
          hSf ns hisz hb hval (items.size - 0) 0 _ (by omega) (Nat.zero_le _)
          ⟨⟨_, Heap.get?_push_size _ rfl, rfl, rfl⟩, (hl1.push _)⟩ ?hS0 ?hR
        case hS0 =>
          have hget : ((s.heap.push { cls := .type "set", dict := none, data := .set #[] 0 (.fresh 0 0 (!w.params.followText "set-order")) }).push { cls := .type "list_iterator", data := .fields #[.ref l, .int 0 0] }).get? s.heap.objs.size
              = some { cls := .type "set", dict := none, data := .set #[] 0 (.fresh 0 0 (!w.params.followText "set-order")) } := Heap.get?_push_of_some _ hS
          exact ⟨0, Nat.le_refl 0, setG_new_at hget⟩
        case hR =>
          intro s' c' hm hc' hS'
          obtain ⟨h', g2, d', tk', os'⟩ := s'
          have eg : g2 = s.gens := hm.gens
          have ed : d' = s.drawn := hm.drawn
          have eo : os' = s.os := hm.os
          subst eg; subst ed; subst eo
          show wpAny _ _ _ _ _ _
          refine wpAny_pure ?_
          show wpAny _ _ (ret Value.none) _ _ _
          rw [hisz] at hc'
          refine wpAny_pure ⟨rfl, h', tk', c', rfl, hS', hc', fun b o e => ?_⟩
          have hb0 : b < s.heap.objs.size := Heap.lt_size e
          have hb1 : b ≠ s.heap.objs.size := Nat.ne_of_lt hb0
          have hb2 : b ≠ (s.heap.push { cls := .type "set", dict := none, data := .set #[] 0 (.fresh 0 0 (!w.params.followText "set-order")) }).objs.size := by
            rw [Heap.size_push]; exact Nat.ne_of_lt (Nat.lt_succ_of_lt hb0)
          exact hm.heap b o (by simp only [List.mem_cons, List.mem_singleton, List.not_mem_nil, or_false, not_or]; exact ⟨hb1, hb2⟩) (Heap.get?_push_of_some _ (Heap.get?_push_of_some _ e))
      · cases r₂ with
        | error e => exact hr₂
        | ok fl₂ =>
          cases fl₂ with
          | ret r =>
            obtain ⟨rfl, h', tk, c', rfl, hS', hc', hk'⟩ := hr₂
            repeat (any_goals (first | assumption | wp_step))
            exact h _ _ _ hS' hc' hk'
          | _ => exact hr₂.elim
    | _ => exact hr.elim
end
end YSa

set_option Elab.async false
set_option linter.all false
set_option maxRecDepth 100000
set_option maxHeartbeats 4000000
namespace YSa
open PySem PySem.Spec PyProof.Rows L2
set_option autoImplicit false
/-! ### sorted(set(..)) -/
def pyK : Key → PyData
  | .inl i => .int i
  | .inr x => .str x
def leK (a b : Key) : Bool := PySem.W.dataLe false pyK a b
def sameK (a b : Key) : Bool := PySem.W.alike (pyK a) (pyK b)
section
variable {P : Program} {w : World} {A : Around} {E : Value → Shared → Prop} {s : Shared} {a : Addr}
theorem each_keys : ∀ {vs : List Value} {ks : List Key}, Paired (fun v k => keyIs k v = true) vs ks → PySem.W.EachIs (fun v k => keyIs k v = true) vs ks
  | _, _, .nil => .nil
  | _, _, .cons r t => .cons r (each_keys t)
theorem keys_each : ∀ {vs : List Value} {ks : List Key}, PySem.W.EachIs (fun v k => keyIs k v = true) vs ks → Paired (fun v k => keyIs k v = true) vs ks
  | _, _, .nil => .nil
  | _, _, .cons r t => .cons r (keys_each t)
theorem key_reads {h : Heap} {k : Key} {v : Value} (r : keyIs k v = true) : Reads h v (pyK k) [] := by
  rcases keyIs_shape r with ⟨i, t, rfl, rfl⟩ | ⟨x, t, rfl, rfl⟩
  · exact .int i t
  · exact .str x t
theorem each_reads {h : Heap} {D : Addr} : ∀ {vs : List Value} {ks : List Key}, Paired (fun v k => keyIs k v = true) vs ks → PySem.W.EachIs (fun v k => ∃ as, Reads h v (pyK k) as ∧ D ∉ as) vs ks
  | _, _, .nil => .nil
  | _, _, .cons r t => .cons ⟨[], key_reads r, by simp⟩ (each_reads t)
theorem paired_keys : ∀ {vs : List Value}, (∀ v ∈ vs, ∃ k, keyIs k v = true) → Paired (fun v k => keyIs k v = true) vs (vs.map fun v => keyK (0, v))
  | [], _ => .nil
  | v :: vs, h => by
    obtain ⟨k, hk⟩ := h v List.mem_cons_self
    refine .cons ?_ (paired_keys fun u hu => h u (List.mem_cons_of_mem _ hu))
    show keyIs (keyK (0, v)) v = true
    rw [keyK_of (e := (0, v)) hk]
    exact hk
theorem keyK_snd (e : Int × Value) : keyK (0, e.2) = keyK e := rfl
theorem sorted_setG {S : Key → Bool} {n : Nat} {Q : Value → Shared → Prop} (R : SetG w s.heap a S n) (hh : A.handled = none) (hu : A.units + 8 < cLine) (hal : ∀ x y, S x = true → S y = true → sameK x y = true)
    (hQ : ∀ s' p (out : List Value) (c : Nat) (ks : List Key), (∀ b o, s.heap.get? b = some o → s'.heap.get? b = some o) → s'.gens = s.gens → s'.os = s.os → s.heap.objs.size ≤ p →
      s'.heap.get? p = some (seqObj "list" out.toArray c) → Paired (fun v k => keyIs k v = true) out (ks.mergeSort leK) → ks.Nodup → (∀ k, k ∈ ks ↔ S k = true) → ks.length = n → Q (.ref p) s') :
    wpAny (model P w) A (call (.builtin "sorted") [.ref a]) Q E s := by
  obtain ⟨o, es, ep, t, ho, hex, hd, g, nd, hm, hb, hf, hn, hr, hl⟩ := R
  refine Calls.call_function_entry kind_sorted plain_sorted entry_sorted (args_sorted1 _) ?_
  unfold Builtin.«sorted»
  refine wpAny_bind (m := checkCount "sorted" 1 1 _) (wpAny_pure ?_)
  refine wpAny_bind (collect_set (A := A.in1) hh ⟨o, ho, hex.1, hd⟩ hf hb hr hl fun s1 vs k1 hz g1 o1 pm => ?_)
  have hvl : vs.length = n := by rw [pm.length_eq, List.length_map, Array.length_toList]; exact hn
  have hP : Paired (fun v k => keyIs k v = true) vs (vs.map fun v => keyK (0, v)) := paired_keys fun v hv => by
    obtain ⟨e, he, q⟩ := List.mem_map.mp (pm.mem_iff.mp hv)
    obtain ⟨k, h1, _⟩ := g e he
    exact ⟨k, by rw [← q]; exact h1⟩
  have pk : (vs.map fun v => keyK (0, v)).Perm (es.toList.map keyK) := by
    have q := pm.map fun v => keyK (0, v)
    rw [List.map_map] at q
    exact q
  have hnl : n ≤ sizeLine := by rw [← hn]; exact fits_of_scanBound hb
  refine wpAny_bind (wpAny_newList ?_ (by rw [hvl]; exact hnl))
  have hoL : (s1.heap.push (seqObj "list" vs.toArray 0)).get? s1.heap.objs.size = some (seqObj "list" vs.toArray 0) := Heap.get?_push_size _ rfl
  have hmem : ∀ k, k ∈ (vs.map fun v => keyK (0, v)) ↔ S k = true := fun k => by rw [pk.mem_iff, ← hm k]
  refine wpAny_bind (wpAny_holding (PySem.W.list_sort_data (s := { s1 with heap := s1.heap.push (seqObj "list" vs.toArray 0) }) (enc := pyK) hoL (each_keys hP) (each_reads hP) ?_ ?_ ?_ ?_ fun out hol eo => ?_))
  · intro d hd' d' hd2
    obtain ⟨x, hx, rfl⟩ := List.mem_map.mp hd'
    obtain ⟨y, hy, rfl⟩ := List.mem_map.mp hd2
    exact hal x y ((hmem x).1 hx) ((hmem y).1 hy)
  · refine .inr fun d hd' => ?_
    obtain ⟨x, hx, rfl⟩ := List.mem_map.mp hd'
    cases x with
    | inl i => exact ⟨(fun z => by cases z), (fun xs z => by cases z)⟩
    | inr i => exact ⟨(fun z => by cases z), (fun xs z => by cases z)⟩
  · rw [List.length_map, hvl]; exact hnl
  · intro b hb'
    have hd0 : (pyK b).depth = 0 := by cases b <;> rfl
    rw [hd0]
    show A.units + 1 + 1 + 0 < cLine
    omega
  · obtain ⟨c, hc⟩ := sortedHeap_at (vs := vs) (out := out.toArray) hoL
    refine wpAny_pure ⟨_, rfl, hQ _ s1.heap.objs.size out c (vs.map fun v => keyK (0, v)) (fun b u e => ?_) g1 o1 hz hc (keys_each eo) (pk.nodup_iff.mpr nd) hmem ?_⟩
    · have q := k1 b u e
      have hlt := Heap.lt_size q
      show (sortedHeap (s1.heap.push (seqObj "list" vs.toArray 0)) s1.heap.objs.size vs out.toArray).get? b = some u
      rw [sortedHeap_old (Nat.ne_of_lt hlt) (by rw [Heap.size_push]; exact Nat.lt_succ_of_lt hlt)]
      exact Heap.get?_push_of_some _ q
    · rw [List.length_map]; exact hvl
end
end YSa

set_option Elab.async false
set_option linter.all false
set_option maxRecDepth 100000
set_option maxHeartbeats 4000000
namespace YSa
open PySem PySem.Spec PyProof.Rows L2
set_option autoImplicit false
/-! ### such a set, tracked -/
def SetGO (w : World) (a : Addr) (S : Key → Bool) (n : Nat) : HO := .ext fun h => SetG w h a S n
theorem setGO_tbl {w : World} {a : Addr} {S : Key → Bool} {n : Nat} {ps : Array Value} : SetGO w a S n ≠ .tbl ps := fun z => by
  have z' : HO.ext _ = HO.tbl ps := z
  cases z'
theorem setGO_new {w : World} {P : Program} {H : Hp} {h : Heap} {a : Addr} {S : Key → Bool} {n : Nat} (R : SetG w h a S n) : ObjOk P w H h a (SetGO w a S n) := by
  have ⟨o, _, _, _, ho, _⟩ := R
  exact ⟨R, ⟨o, ho⟩, fun h1 h2 p k => p.at k⟩
section
variable {X : Cx} {pins : List (Addr × Obj)} {σ : L2.St} {H : Hp} {s : Shared} {a : Addr} {S : Key → Bool} {n : Nat}
theorem setGO_get (I : Inv X pins σ H s) (ha : H a = some (SetGO X.w a S n)) : SetG X.w s.heap a S n := by
  have z : ObjOk X.prog X.w H s.heap a (.ext fun h => SetG X.w h a S n) := I.hok a _ ha
  exact z.1
theorem vals_keys : ∀ {ks : List Key} {us : List Value}, Vals (ks.map kV) us → Paired (fun v k => keyIs k v = true) us ks
  | [], _, .nil => .nil
  | k :: ks, _, .cons r t => by
    refine .cons ?_ (vals_keys t)
    cases k with
    | inl i => obtain ⟨t, rfl⟩ := r; exact (show Value.isInt i (.int i t) = true by simp [Value.isInt])
    | inr x => obtain ⟨t, rfl⟩ := r; exact (show Value.isStrOf x (.str x t) = true by simp [Value.isStrOf])
theorem keys_vals : ∀ {us : List Value} {ks : List Key}, Paired (fun v k => keyIs k v = true) us ks → Vals (ks.map kV) us
  | _, _, .nil => .nil
  | _, _, .cons r t => by
    refine .cons ?_ (keys_vals t)
    rcases keyIs_shape r with ⟨i, t, rfl, rfl⟩ | ⟨x, t, rfl, rfl⟩
    · exact ⟨t, rfl⟩
    · exact ⟨t, rfl⟩
def rSetG (K : PySem.W.Frag) (w : World) : List V → Hp → VK → Prop := fun xs H Q => ∃ (l : Addr) (ks : List Key), xs = [.ref l] ∧ (SqL K H l (ks.map kV) ∨ SqT K H l (ks.map kV)) ∧ ks.length + 1 < scanBound ∧
  ∀ p c, H p = none → c ≤ ks.length → Q (.ref p) (upd H p (SetGO w p (fun j => decide (j ∈ ks)) c))
theorem cr_setG (hc : X.calm = true) : CallR X (.type "set") (rSetG X.K X.w) := by
  intro pins s σ H xs us Q I r h
  obtain ⟨l, ks, rfl, hq, hb, q⟩ := h
  obtain ⟨u, rfl, rx⟩ := vals1 r
  cases rx
  have fin : ∀ (h' : Heap) (tk c : Nat), SetG X.w h' s.heap.objs.size (fun j => decide (j ∈ ks)) c → c ≤ ks.length → (∀ b o, s.heap.get? b = some o → h'.get? b = some o) → EP X pins σ Q (.ref s.heap.objs.size) { s with heap := h', toks := tk } := fun h' tk c hS hc' hk =>
    ⟨.ref _, _, I.laid (t' := tk) hk (Nat.le_refl _) (setGO_new hS), rfl, q _ c (I.hok.fresh (Nat.le_refl _)) hc'⟩
  rcases hq with hq | hq
  · obtain ⟨its, r, pl, hz⟩ := I.list hq
    exact call_set_lstK ks (I.ok.hd hc) pl.isList (by simpa using vals_keys r) hb fin
  · obtain ⟨its, r, pl, hz⟩ := I.tuple hq
    exact call_set_tupK ks (I.ok.hd hc) pl (by simpa using vals_keys r) hb fin
def rSortedG (w : World) : List V → Hp → VK → Prop := fun xs H Q => ∃ (a : Addr) (S : Key → Bool) (n : Nat), xs = [.ref a] ∧ H a = some (SetGO w a S n) ∧ (∀ x y, S x = true → S y = true → sameK x y = true) ∧
  ∀ (ks : List Key) (p : Addr), ks.Nodup → (∀ k, k ∈ ks ↔ S k = true) → ks.length = n → H p = none → Q (.ref p) (upd H p (.lst ((ks.mergeSort leK).map kV)))
theorem cr_sortedG (hc : X.calm = true) (hu : X.A.units + 8 < cLine) : CallR X (.builtin "sorted") (rSortedG X.w) := by
  intro pins s σ H xs us Q I r h
  obtain ⟨a, S, n, rfl, ha, hal, q⟩ := h
  obtain ⟨u, rfl, rx⟩ := vals1 r
  cases rx
  have R := setGO_get I ha
  have hnl : n ≤ sizeLine := by
    obtain ⟨_, _, _, _, _, _, _, _, _, _, hb, _, hn, _⟩ := R
    rw [← hn]; exact fits_of_scanBound hb
  refine sorted_setG R (I.ok.hd hc) hu hal fun s' p out c ks k g o hp hg hi nd hm hl => ?_
  have hlen : ((ks.mergeSort leK).map kV).length ≤ sizeLine := by rw [List.length_map, List.length_mergeSort, hl]; exact hnl
  have hn : H p = none := I.hok.fresh hp
  have J : Inv X pins σ (upd H p (.lst ((ks.mergeSort leK).map kV))) { s with heap := s'.heap, gens := s'.gens, drawn := s'.drawn, toks := s'.toks } :=
    I.call (ch := []) (Un.laid k hp hn) (I.hok.laid k hp ⟨hlen, out, c, keys_vals hi, hg⟩) (by rw [g]; exact I.bare) (fun _ z => nomatch z)
  have e : s' = { s with heap := s'.heap, gens := s'.gens, drawn := s'.drawn, toks := s'.toks } := by
    cases s'
    cases s
    cases o
    rfl
  rw [e]
  exact ⟨.ref p, _, J, rfl, q ks p nd hm hl hn⟩
end
end YSa

set_option Elab.async false
set_option linter.all false
set_option maxRecDepth 100000
set_option maxHeartbeats 4000000
namespace Y
open PySem PySem.Spec L2 YSa
set_option autoImplicit false
/-! ### sorted(set(x)), len(set(x)) over data -/
def ddK : List Key → List Key
  | [] => []
  | k :: r => if k ∈ r then ddK r else k :: ddK r
theorem ddK_mem (x : Key) : ∀ l : List Key, x ∈ ddK l ↔ x ∈ l
  | [] => Iff.rfl
  | k :: r => by
    unfold ddK
    split
    · rename_i h
      rw [ddK_mem x r, List.mem_cons]
      exact ⟨.inr, fun z => z.elim (fun e => e ▸ h) id⟩
    · rw [List.mem_cons, List.mem_cons, ddK_mem x r]
theorem ddK_nodup : ∀ l : List Key, (ddK l).Nodup
  | [] => List.nodup_nil
  | k :: r => by
    unfold ddK
    split
    · exact ddK_nodup r
    · rename_i h
      exact List.nodup_cons.mpr ⟨fun z => h ((ddK_mem k r).1 z), ddK_nodup r⟩
theorem perm_nodup {l m : List Key} (hl : l.Nodup) (hm : m.Nodup) (h : ∀ x, x ∈ l ↔ x ∈ m) : l.Perm m := by
  induction l generalizing m with
  | nil =>
    cases m with
    | nil => exact .nil
    | cons a r => exact absurd ((h a).2 List.mem_cons_self) (by simp)
  | cons a l ih =>
    obtain ⟨h1, h2⟩ := List.nodup_cons.mp hl
    obtain ⟨s, t, rfl⟩ := List.append_of_mem ((h a).1 List.mem_cons_self)
    have pm : (s ++ a :: t).Perm (a :: (s ++ t)) := List.perm_middle
    have hm' := pm.nodup_iff.mp hm
    obtain ⟨h3, h4⟩ := List.nodup_cons.mp hm'
    refine (List.Perm.cons a (ih h2 h4 fun x => ?_)).trans pm.symm
    have z := (h x).trans pm.mem_iff
    rw [List.mem_cons, List.mem_cons] at z
    constructor
    · intro hx
      rcases z.1 (.inr hx) with e | e
      · exact absurd (e ▸ hx) h1
      · exact e
    · intro hx
      rcases z.2 (.inr hx) with e | e
      · exact absurd (e ▸ hx) h3
      · exact e
theorem pyK_toks {a b : Key} (h : PySem.W.keyToks (pyK a) = PySem.W.keyToks (pyK b)) : a = b := by
  cases a with
  | inl i =>
    cases b with
    | inl j => simp [pyK, PySem.W.keyToks] at h; rw [h]
    | inr y => simp [pyK, PySem.W.keyToks] at h
  | inr x =>
    cases b with
    | inl j => simp [pyK, PySem.W.keyToks] at h
    | inr y =>
      simp only [pyK, PySem.W.keyToks, List.cons.injEq, Sum.inr.injEq, and_true] at h
      rw [PySem.W.str_of_cps h]
theorem leK_total : PySem.W.TotalLe leK := PySem.W.sortLe_total (PyProof.Rows.listOrd PyProof.Rows.itemOrd) false fun b => PySem.W.keyToks (pyK b)
theorem leK_anti {a b : Key} (h1 : leK a b = true) (h2 : leK b a = true) : a = b := by
  refine pyK_toks ((PyProof.Rows.listOrd PyProof.Rows.itemOrd).total _ _ ?_ ?_)
  · have z : (!(PyProof.Rows.listOrd PyProof.Rows.itemOrd).blt (PySem.W.keyToks (pyK a)) (PySem.W.keyToks (pyK b))) = true := h2
    simpa using z
  · have z : (!(PyProof.Rows.listOrd PyProof.Rows.itemOrd).blt (PySem.W.keyToks (pyK b)) (PySem.W.keyToks (pyK a))) = true := h1
    simpa using z
theorem srtK_uniq {l m : List Key} (p : l.Perm m) : l.mergeSort leK = m.mergeSort leK := by
  have tr : ∀ a b c : Key, leK a b = true → leK b c = true → leK a c = true := leK_total.trans
  have to : ∀ a b : Key, (leK a b || leK b a) = true := fun a b => by
    rcases leK_total.total a b with h | h <;> simp [h]
  exact List.Perm.eq_of_pairwise (le := fun a b => leK a b = true) (fun a b _ _ h1 h2 => leK_anti h1 h2) (List.pairwise_mergeSort tr to l) (List.pairwise_mergeSort tr to m) (((List.mergeSort_perm l leK).trans p).trans (List.mergeSort_perm m leK).symm)
end Y

set_option Elab.async false
set_option linter.all false
set_option maxRecDepth 100000
set_option maxHeartbeats 4000000
namespace Y
open PySem PySem.Spec L2 YSa PyProof.Rows
set_option autoImplicit false
variable [TB]
/-! ### sorted(set(x)), len(set(x)) over data: the rules -/
def kyD : Key → D
  | .inl i => .int i
  | .inr x => .str x
def keysD : List D → Option (List Key)
  | [] => some []
  | d :: ds => match keyD d, keysD ds with
    | some k, some r => some (k :: r)
    | _, _ => none
def seqD : D → Option (List D)
  | .lst ds => some ds
  | .tup ds => some ds
  | _ => none
def alikeK (ks : List Key) : Bool := ks.all fun a => ks.all fun b => sameK a b
def ssK (d : D) : M RV := fun e => match seqD d with
  | some ds => (match keysD ds with
    | some ks => if ks.length ≤ 1000 ∧ alikeK ks = true then .ok (.own (.lst (((ddK ks).mergeSort leK).map kyD))) e else .bad
    | none => .bad)
  | none => .bad
def lsK (d : D) : M RV := fun e => match seqD d with
  | some ds => (match keysD ds with
    | some ks => if ks.length ≤ 1000 then .ok (.val (.int (ddK ks).length)) e else .bad
    | none => .bad)
  | none => .bad
theorem setG_count {w : World} {h : Heap} {a : Addr} {S : Key → Bool} {n : Nat} (R : SetG w h a S n) {ks : List Key} (hS : ∀ k, S k = true ↔ k ∈ ks) : n = (ddK ks).length := by
  obtain ⟨o, es, ep, t, ho, hex, hd, g, nd, hm, hb, hf, hn, hr, hl⟩ := R
  have p := perm_nodup nd (ddK_nodup ks) fun x => by rw [← hm x, hS x, ddK_mem]
  have := p.length_eq
  rw [List.length_map, Array.length_toList, hn] at this
  exact this
def rLenG (w : World) : List V → Hp → VK → Prop := fun xs H Q => ∃ (a : Addr) (S : Key → Bool) (n : Nat) (ks : List Key), xs = [.ref a] ∧ H a = some (SetGO w a S n) ∧ (∀ k, S k = true ↔ k ∈ ks) ∧ Q (.int (ddK ks).length) H
theorem cr_lenG {X : Cx} : CallR X (.builtin "len") (rLenG X.w) := by
  intro pins s σ H xs us Q I r h
  obtain ⟨a, S, n, ks, rfl, ha, hS, q⟩ := h
  obtain ⟨u, rfl, rx⟩ := vals1 r
  cases rx
  have R := setGO_get I ha
  have hc := setG_count R hS
  obtain ⟨o, es, ep, t, ho, hex, hd, g, nd, hm, hb, hf, hn, hr, hl⟩ := R
  have : scanBound = 4096 := rfl
  refine call_len_set ho hex hd hf (by omega) ⟨.int es.size, H, I.tok _, ⟨_, rfl⟩, ?_⟩
  rw [hn, hc]
  exact q
section
variable {K : PySem.W.Frag} {mg : Mg} {F H : Hp}
theorem reps_keys : ∀ {vs : List V} {ds : List D} {ks : List Key}, Reps K mg F vs ds → keysD ds = some ks → vs = ks.map kV
  | _, _, _, .nil, h => by cases h; rfl
  | _, _, ks, .cons (d := d) (ds := ds) r t, h => by
    unfold keysD at h
    cases w1 : keyD d with
    | none => rw [w1] at h; cases h
    | some k =>
      cases w2 : keysD ds with
      | none => rw [w1, w2] at h; cases h
      | some rest =>
        rw [w1, w2] at h
        cases h
        rw [List.map_cons, ← reps_keys t w2, keyD_ok (Rep.rd (Same.refl F) r) w1]
theorem kyD_rep (k : Key) : Rep K mg F (kV k) (kyD k) := by
  cases k with
  | inl i => exact .int i
  | inr x => exact .str x
theorem kyD_reps : ∀ ks : List Key, Reps K mg F (ks.map kV) (ks.map kyD)
  | [] => .nil
  | k :: ks => .cons (kyD_rep k) (kyD_reps ks)
theorem seqD_sq (s : Same F H) {x : V} {d : D} {ds : List D} (rx : RdOk K mg F H x d) (w : seqD d = some ds) : ∃ l vs, x = .ref l ∧ (SqL K H l vs ∨ SqT K H l vs) ∧ Reps K mg F vs ds := by
  cases d with
  | lst es =>
    cases w
    obtain ⟨l, vs, rfl, q1, p1⟩ := rx
    exact ⟨l, vs, rfl, .inl q1, p1⟩
  | tup es =>
    cases w
    obtain ⟨l, vs, rfl, q1, p1⟩ := rx
    exact ⟨l, vs, rfl, .inr (sqT_mono s q1), p1⟩
  | _ => cases w
end
section
variable {X : Cx} {W : WX} {a : Expr} {f : M RV} {p p2 pos pos2 : Pos} {k : Nat}
theorem de_sortedSet (hc : X.calm = true) (hr : Room k X.A) (hg : Gl X "sorted") (hm : X.mg "sorted" = none) (hg2 : Gl X "set") (hm2 : X.mg "set" = none) (ha : DE X W a f)
    (he : starEach [a] X.env = (false, eval a X.env) :: starEach [] X.env := by rfl) (hpl : (backTo pos2 (starEach [] X.env)).any (·.1) = false := by rfl)
    (he' : starEach [.Call (.Name "set" p2) [a] [] pos2] X.env = (false, eval (.Call (.Name "set" p2) [a] [] pos2) X.env) :: starEach [] X.env := by rfl) (hpl' : (backTo pos (starEach [] X.env)).any (·.1) = false := by rfl) :
    DE X W (.Call (.Name "sorted" p) [.Call (.Name "set" p2) [a] [] pos2] [] pos) (rd1 f ssK) :=
  peW (pe_callB (cr_sortedG hc (by have := hr.un; omega)) hg hm (by decide +kernel) (pa_cons (pe_callTy (cr_setG hc) hg2 hm2 (by decide +kernel) (pa_cons ha pa_nil he) (he := he) (hpl := hpl)) pa_nil he') (he := he') (hpl := hpl')) fun σ H Q h =>
    rd1_ok (r := fun x H1 Q => rSetG X.K X.w [x] H1 fun v H2 => rSortedG X.w [v] H2 Q) (fun F H e σ x d Q R rx h => by
      unfold ssK at h
      cases w1 : seqD d with
      | none => rw [w1] at h; exact h.elim
      | some ds =>
        cases w2 : keysD ds with
        | none => rw [w1] at h; simp only [w2] at h; exact h.elim
        | some ks =>
          rw [w1] at h
          simp only [w2] at h
          split at h
          · rename_i hk
            obtain ⟨l, vs, rfl, hq, hr'⟩ := seqD_sq R.sub rx w1
            have ev := reps_keys hr' w2
            subst ev
            have : scanBound = 4096 := rfl
            refine ⟨l, ks, rfl, hq, by omega, fun q c hp hcl => ?_⟩
            refine ⟨q, _, c, rfl, upd_same, fun x y hx hy => ?_, fun ks' q' nd hm' hl hp' => ?_⟩
            · have h1 := List.all_eq_true.mp hk.2 x (of_decide_eq_true hx)
              exact List.all_eq_true.mp h1 y (of_decide_eq_true hy)
            · have pm : ks'.Perm (ddK ks) := perm_nodup nd (ddK_nodup ks) fun z => by rw [hm' z, ddK_mem]; simp
              rw [srtK_uniq pm]
              have R1 := R.new (p := q) (o := SetGO X.w q (fun j => decide (j ∈ ks)) c) hp
              have h1 := post_from up_V (Stp.new R (o := SetGO X.w q (fun j => decide (j ∈ ks)) c) hp) h
              exact post_newL R1 h1 (kyD_reps _) hp'
          · exact h.elim) h
theorem de_lenSet (hc : X.calm = true) (hg : Gl X "len") (hm : X.mg "len" = none) (hg2 : Gl X "set") (hm2 : X.mg "set" = none) (ha : DE X W a f)
    (he : starEach [a] X.env = (false, eval a X.env) :: starEach [] X.env := by rfl) (hpl : (backTo pos2 (starEach [] X.env)).any (·.1) = false := by rfl)
    (he' : starEach [.Call (.Name "set" p2) [a] [] pos2] X.env = (false, eval (.Call (.Name "set" p2) [a] [] pos2) X.env) :: starEach [] X.env := by rfl) (hpl' : (backTo pos (starEach [] X.env)).any (·.1) = false := by rfl) :
    DE X W (.Call (.Name "len" p) [.Call (.Name "set" p2) [a] [] pos2] [] pos) (rd1 f lsK) :=
  peW (pe_callB cr_lenG hg hm PySem.boot_len (pa_cons (pe_callTy (cr_setG hc) hg2 hm2 (by decide +kernel) (pa_cons ha pa_nil he) (he := he) (hpl := hpl)) pa_nil he') (he := he') (hpl := hpl')) fun σ H Q h =>
    rd1_ok (r := fun x H1 Q => rSetG X.K X.w [x] H1 fun v H2 => rLenG X.w [v] H2 Q) (fun F H e σ x d Q R rx h => by
      unfold lsK at h
      cases w1 : seqD d with
      | none => rw [w1] at h; exact h.elim
      | some ds =>
        cases w2 : keysD ds with
        | none => rw [w1] at h; simp only [w2] at h; exact h.elim
        | some ks =>
          rw [w1] at h
          simp only [w2] at h
          split at h
          · rename_i hk
            obtain ⟨l, vs, rfl, hq, hr'⟩ := seqD_sq R.sub rx w1
            have ev := reps_keys hr' w2
            subst ev
            have : scanBound = 4096 := rfl
            refine ⟨l, ks, rfl, hq, by omega, fun q c hp hcl => ?_⟩
            refine ⟨q, _, c, ks, rfl, upd_same, fun x => by simp, ?_⟩
            have R1 := R.new (p := q) (o := SetGO X.w q (fun j => decide (j ∈ ks)) c) hp
            have h1 := post_from up_V (Stp.new R (o := SetGO X.w q (fun j => decide (j ∈ ks)) c) hp) h
            exact post_val R1 h1 (.int _)
          · exact h.elim) h
end
end Y

set_option Elab.async false
set_option linter.all false
set_option maxRecDepth 100000
set_option maxHeartbeats 4000000
namespace Y
open PySem PySem.Spec L2
set_option autoImplicit false
variable [TB]
theorem Reps.eraseIdx {K : PySem.W.Frag} {mg : Mg} {F : Hp} : ∀ {vs : List V} {ds : List D} (i : Nat), Reps K mg F vs ds → Reps K mg F (vs.eraseIdx i) (ds.eraseIdx i)
  | _, _, _, .nil => .nil
  | _, _, 0, .cons _ t => t
  | _, _, i + 1, .cons r t => .cons r (Reps.eraseIdx i t)
theorem Reps.reverse {K : PySem.W.Frag} {mg : Mg} {F : Hp} : ∀ {vs : List V} {ds : List D}, Reps K mg F vs ds → Reps K mg F vs.reverse ds.reverse
  | _, _, .nil => .nil
  | _, _, .cons r t => by
    rw [List.reverse_cons, List.reverse_cons]
    exact (Reps.reverse t).append (.cons r .nil)
/-! ### xs.pop(i), xs.pop() -/
def ePop (i : Nat) (f : M RV) : M RV := fun e => match e[i]? with
  | some (.own _ (.lst _)) => (M.bind f fun r' => fun e => match rdat e r', e[i]? with
    | some (.int k), some (.own b (.lst xs)) => if -(2 ^ 63) ≤ k ∧ k < 2 ^ 63 then (match seqIndex? k xs.length with
      | some j => (match xs[j]? with
        | some d => .ok (.val d) (e.set i (.own b (.lst (xs.eraseIdx j))))
        | none => .bad)
      | none => .bad) else .bad
    | _, _ => .bad) e
  | _ => .bad
def ePop0 (i : Nat) : M RV := fun e => match e[i]? with
  | some (.own b (.lst xs)) => (match xs[xs.length - 1]? with
    | some d => .ok (.val d) (e.set i (.own b (.lst xs.dropLast)))
    | none => .bad)
  | _ => .bad
def sRev (i : Nat) : M Flo := fun e => match e[i]? with
  | some (.own b (.lst xs)) => .ok .nx (e.set i (.own b (.lst xs.reverse)))
  | _ => .bad
/-- append to what an expression names -/
def sAppE (g f : M RV) : M Flo := M.bind g fun r => fun e => match r with
  | .pk i => sApp i f e
  | _ => .bad
section
variable {X : Cx} {W : WX} {a b c o : Expr} {es : List Expr} {f g h : M RV} {pos pos' pos'' apos cpos : Pos} {x : Str}
theorem de_pop (i : Nat) (ha : DE X W a f) (hN : X.N[i]? = some x := by rfl) (hv : Vis X.env.scope x := by first | exact Or.inl rfl | exact Or.inr (Or.inl rfl) | exact Or.inr (Or.inr rfl)) (hd : (x == ("__debug__" : Str)) = false := by decide)
    (hcd : (x == ("__classdict__" : Str)) = false := by decide) (hline : (apos.endLine == cpos.line) = true := by rfl) (hs : starEach [a] X.env = (false, eval a X.env) :: starEach [] X.env := by rfl)
    (hfew : ((backTo cpos (starEach [a] X.env)).all (fun x => !x.1) && (backToKw cpos (keywordEach [] X.env)).all (fun x => x.1.isSome) && decide ([a].length + ([] : List Keyword).length + (if ([] : List Keyword).isEmpty then 0 else 1) < 30)) = true := by rfl) :
    DE X W (.Call (.Attribute (.Name x pos') "pop" apos) [a] [] cpos) (ePop i f) :=
  peW (pe_bm PySem.F.plainAttrs_list PySem.F.slot_list_pop PySem.F.type_list_pop mt_popAt (pe_var hN hv hd hcd) (pa_cons ha pa_nil hs) rfl hfew hline hs rfl) fun σ H Q ⟨e, F, R, h⟩ => by
    unfold ePop at h
    split at h
    · rename_i fx xs0 es
      obtain ⟨p, o, hp, hH, vs0, rfl, r0⟩ := own_at R es
      refine ⟨_, hp, .inl ⟨rfl, _, SqL.of hH⟩, e, F, R, post_imp (post_seq up_V h) ?_⟩
      rintro y H1 ⟨r, e1, F1, q1, R1, s1, h1⟩
      split at h1
      · rename_i k b xs wk es1
        split at h1
        · rename_i hk
          split at h1
          · rename_i j hj
            split at h1
            · rename_i d hd
              obtain ⟨p', o', hp', hH', vs, rfl, rv⟩ := own_at R1 es1
              rw [hp] at hp'; cases hp'
              obtain ⟨v, hv, rvd⟩ := rv.get hd
              have ey : y = .int k := R1.rd q1 wk
              subst ey
              refine ⟨p, vs, k, j, v, rfl, rfl, hH', hk.1, hk.2, by rw [rv.length]; exact hj, hv, ?_⟩
              exact h1 v F1 _ (Stp.refl.change R1 es1 hp) (R1.change es1 hp ⟨_, rfl, rv.eraseIdx j⟩) rvd
            · exact h1.elim
          · exact h1.elim
        · exact h1.elim
      · exact h1.elim
    · exact h.elim
theorem de_pop0 (i : Nat) (hN : X.N[i]? = some x := by rfl) (hv : Vis X.env.scope x := by first | exact Or.inl rfl | exact Or.inr (Or.inl rfl) | exact Or.inr (Or.inr rfl)) (hd : (x == ("__debug__" : Str)) = false := by decide)
    (hcd : (x == ("__classdict__" : Str)) = false := by decide) (hline : (apos.endLine == cpos.line) = true := by rfl) :
    DE X W (.Call (.Attribute (.Name x pos') "pop" apos) [] [] cpos) (ePop0 i) :=
  peW (pe_bm0 PySem.F.plainAttrs_list PySem.F.slot_list_pop PySem.F.type_list_pop mt_pop (pe_var hN hv hd hcd) rfl hline) fun σ H Q ⟨e, F, R, h⟩ => by
    unfold ePop0 at h
    split at h
    · rename_i fx xs es
      split at h
      · rename_i d hd
        obtain ⟨p, o, hp, hH, vs, rfl, rv⟩ := own_at R es
        obtain ⟨v, hv, rvd⟩ := rv.get hd
        refine ⟨_, hp, .inl ⟨rfl, _, SqL.of hH⟩, p, vs, v, rfl, rfl, hH, by rw [rv.length]; exact hv, ?_⟩
        refine h v F _ (Stp.refl.change R es hp) (R.change es hp ⟨_, rfl, ?_⟩) rvd
        rw [List.dropLast_eq_take, List.dropLast_eq_take, rv.length]
        exact rv.take _
      · exact h.elim
    · exact h.elim
theorem ds_rev (i : Nat) (hN : X.N[i]? = some x := by rfl) (hv : Vis X.env.scope x := by first | exact Or.inl rfl | exact Or.inr (Or.inl rfl) | exact Or.inr (Or.inr rfl)) (hd : (x == ("__debug__" : Str)) = false := by decide)
    (hcd : (x == ("__classdict__" : Str)) = false := by decide) (hline : (apos.endLine == cpos.line) = true := by rfl)
    (hsw : swapsWith (.Call (.Attribute (.Name x pos') "reverse" apos) [] [] cpos) none pos.line X.env = pure false := by rfl) :
    DS X W (.Expr (.Call (.Attribute (.Name x pos') "reverse" apos) [] [] cpos) pos) (sRev i) :=
  psW (ps_expr (pe_bm0 PySem.F.plainAttrs_list PySem.F.slot_list_reverse PySem.F.type_list_reverse mt_reverse (pe_var hN hv hd hcd) rfl hline) hsw) fun E σ H ⟨e, F, R, h⟩ => by
    unfold sRev at h
    split at h
    · rename_i fx xs es
      obtain ⟨p, o, hp, hH, vs, rfl, rv⟩ := own_at R es
      refine ⟨_, hp, .inl ⟨rfl, _, SqL.of hH⟩, p, vs, rfl, rfl, hH, ?_⟩
      exact h σ F _ (Stp.refl.change R es hp) (R.change es hp ⟨_, rfl, rv.reverse⟩)
    · exact h.elim
theorem ds_appE (ho : DE X W o g) (ha : DE X W a f) (hline : (apos.endLine == cpos.line) = true := by rfl) (hs : starEach [a] X.env = (false, eval a X.env) :: starEach [] X.env := by rfl)
    (hfew : ((backTo cpos (starEach [a] X.env)).all (fun x => !x.1) && (backToKw cpos (keywordEach [] X.env)).all (fun x => x.1.isSome) && decide ([a].length + ([] : List Keyword).length + (if ([] : List Keyword).isEmpty then 0 else 1) < 30)) = true := by rfl)
    (hsw : swapsWith (.Call (.Attribute o "append" apos) [a] [] cpos) none pos.line X.env = pure false := by rfl) (hbase : attributeBase o "append" X.env (eval o X.env) = eval o X.env := by rfl) :
    DS X W (.Expr (.Call (.Attribute o "append" apos) [a] [] cpos) pos) (sAppE g f) :=
  psW (ps_expr (pe_bm PySem.F.plainAttrs_list PySem.F.slot_list_append PySem.F.type_list_append mt_append ho (pa_cons ha pa_nil hs) hbase hfew hline hs rfl) hsw) fun E σ H ⟨e, F, R, h⟩ => by
    refine ⟨e, F, R, post_imp (postS_seq h) ?_⟩
    rintro y0 H0 ⟨r0, e0, F0, q0, R0, s0, h0⟩
    cases r0 with
    | val d => exact h0.elim
    | own c => exact h0.elim
    | pk i =>
      have q0 : σ[i]? = some (some y0) := q0
      have h0 : postS X.K X.mg W F H e σ (sApp i f e0) E := h0
      unfold sApp at h0
      split at h0
      · rename_i fx xs0 es
        obtain ⟨p, o, hp, hH, vs0, rfl, r0⟩ := own_at R0 es
        rw [hp] at q0
        cases q0
        refine ⟨.inl ⟨rfl, _, SqL.of hH⟩, e0, F0, R0, post_imp (postS_seqG (f := f) (R1 := rV X.K X.mg) s0 h0) ?_⟩
        rintro y H1 ⟨r, e1, F1, q1, R1, s1, h1⟩
        cases w : frz r e1 with
        | bad => unfold M.bind at h1; rw [w] at h1; exact h1.elim
        | ex x e' => exact (frz_noex w).elim
        | ok d e2 =>
          unfold M.bind at h1
          rw [w] at h1
          obtain ⟨F2, s2, R2, q2⟩ := frz_ok R1 q1 w s1
          dsimp only at h1
          split at h1
          · rename_i fx' xs es2
            obtain ⟨p', o', hp', hH', vs, rfl, rv⟩ := own_at R2 es2
            rw [hp] at hp'; cases hp'
            split at h1
            · rename_i hz
              refine ⟨p, vs, y, rfl, rfl, hH', by rw [rv.length]; exact hz, ?_⟩
              exact h1 σ F2 _ ((s0.trans s2).change R2 es2 hp) (R2.change es2 hp ⟨_, rfl, rv.append (.cons q2 .nil)⟩)
            · exact h1.elim
          · exact h1.elim
      · exact h0.elim
theorem de_globS {x z : Str} {t : Tok} (hg : Gl X x) (hm : X.mg x = some (.str z t)) (hd : (x == ("__debug__" : Str)) = false := by decide) : DE X W (.Name x pos) (eC (.str z)) := de_glob (v := .str z) hg hm ⟨t, rfl⟩ (fun _ => .str z) hd
end
/-! ### methods of an own class -/
def MethOk (P : Program) (w : World) (K : PySem.W.Frag) (mg : Mg) (c m : Str) (k : Nat) (ps : List Str) (fn : Fn) : Prop :=
  ∃ C f fd, mg c = some (.ref C) ∧ Cls K C ∧ Meth K C m f ∧ (∀ base, BaseOk mg base → FnOk P w K mg base (L2.CX P w) k f fd ps (cSp K mg fn)) ∧ BA fd ps
def recv (c m : Str) (e : Sl) : RV → Option RV
  | .val (.ins c' fs) => if c' = c ∧ fs.lookup m = none then some (.val (.ins c' fs)) else none
  | .pk i => (match e[i]? with
    | some (.own _ (.ins c' fs)) => if c' = c ∧ fs.lookup m = none then some (.pk i) else none
    | _ => none)
  | _ => none
def eMeth (c m : Str) (fn : Fn) (f : M RV) (as : M (List RV)) : M RV := M.bind f fun r => fun e => match recv c m e r with
  | some r' => M.bind as (fun rs => callK fn (r' :: rs)) e
  | none => .bad
section
variable {K : PySem.W.Frag} {mg : Mg} {F H : Hp} {e : Sl} {σ : St}
theorem RepF.none {f : Str} : ∀ {gs : List (Str × V)} {fs : List (Str × D)}, RepF K mg F gs fs → fs.lookup f = none → gs.lookup f = none
  | _, _, .nil, e => rfl
  | _, _, .cons (f := g) r t, e => by
    rw [List.lookup_cons] at e ⊢
    cases q : (f == g) with
    | true => rw [q] at e; cases e
    | false => rw [q] at e; exact RepF.none t e
theorem recv_ok {N : Addr → Prop} {c m : Str} {C : Addr} {x : V} {r r' : RV} (hC : mg c = some (.ref C)) (R : Rel K mg F e σ H) (q : RVOk K mg N F H e σ x r) (w : recv c m e r = some r') :
    (∃ a dx fs, x = .ref a ∧ H a = some (.ins C dx fs) ∧ fs.lookup m = none) ∧ ∀ F', Same F F' → ArgOk K mg F' σ x r' := by
  unfold recv at w
  split at w
  · rename_i c' fs
    split at w
    · rename_i hk
      cases w
      have q : Rep K mg F x (.ins c' fs) := q
      refine ⟨?_, fun F' s => q.mono s⟩
      cases q with
      | ins m1 h1 r1 =>
        rw [hk.1, hC] at m1
        cases m1
        exact ⟨_, _, _, rfl, R.sub _ _ h1, r1.none hk.2⟩
    · cases w
  · rename_i i
    have q : σ[i]? = some (some x) := q
    split at w
    · rename_i fx c' fs es
      split at w
      · rename_i hk
        cases w
        refine ⟨?_, fun F' s => q⟩
        obtain ⟨p, o, hp, hH, C', dx, gs, rfl, m1, r1⟩ := own_at R es
        rw [hp] at q
        cases q
        rw [hk.1, hC] at m1
        cases m1
        exact ⟨_, _, _, rfl, hH, r1.none hk.2⟩
      · cases w
    · cases w
  · cases w
end
section
variable {X : Cx} {W : WX} {a b o : Expr} {es : List Expr} {f g : M RV} {as : M (List RV)} {fn : Fn} {pos apos : Pos} {k : Nat} {ps : List Str} {c m : Str}
theorem de_meth0 {pl : Sem Bool} (G : MethOk X.prog X.w X.K X.mg c m k ps fn) (hB : BaseOk X.mg X.base) (hr : Room k X.A) (tk : Takes X W) (hW : ∀ c d σ σ' H, W c d σ H → W c d σ' H) (ho : DE X W o f)
    (ht : eval (.Call (.Attribute o m apos) [] [] pos) X.env = (do
      let ov ← eval o X.env
      standAt apos.atName
      let (f, first) ← holding [ov] (getMethod ov m pl)
      callWith pos f first (backTo pos (starEach [] X.env)) (backToKw pos (keywordEach [] X.env))) := by rfl) :
    DE X W (.Call (.Attribute o m apos) [] [] pos) (eMeth c m fn f aNil) := by
  obtain ⟨C, fa, fd, hC, cl, hm, G, hb⟩ := G
  refine peW (pe_meth0 (dvs := []) (ds := []) (E := fun c d H => ∀ σ, W c d σ H) ho cl hm (G X.base hB) hr (.all hb) .nil (passes_call tk fun _ _ σ _ z => z σ) ht) fun σ H Q ⟨e, F, R, h⟩ => ?_
  refine ⟨e, F, R, post_imp (post_seq up_V h) ?_⟩
  rintro x H1 ⟨r, e1, F1, q1, R1, s1, h1⟩
  cases w : recv c m e1 r with
  | none => rw [w] at h1; exact h1.elim
  | some r' =>
    rw [w] at h1
    obtain ⟨⟨a, dx, fs, e1', e2', e3'⟩, ao⟩ := recv_ok hC R1 q1 w
    refine ⟨a, dx, fs, e1', e2', e3', ?_⟩
    have z := callK_ok (vs := [x]) R1 (.cons (ao _ (Same.refl _)) .nil) h1
    obtain ⟨args, F', r1, r2, r3⟩ := z
    refine ⟨args, F', r1, r2, ?_⟩
    cases q : fn args with
    | ok a e' => rw [q] at r3; exact r3
    | ex x e' => rw [q] at r3; exact fun cls d F' H' s' r w σ' => hW cls d _ _ _ (r3 cls d F' H' s' r w)
    | bad => rw [q] at r3; exact r3
theorem de_meth {pl : Sem Bool} (G : MethOk X.prog X.w X.K X.mg c m k ps fn) (hB : BaseOk X.mg X.base) (hr : Room k X.A) (tk : Takes X W) (hW : ∀ c d σ σ' H, W c d σ H → W c d σ' H) (ho : DE X W o f) (ha : DA X W (a :: es) as)
    (hst : starEach (a :: es) X.env = (false, eval a X.env) :: starEach es X.env := by rfl) (hpl : (backTo pos (starEach es X.env)).any (·.1) = false := by rfl)
    (ht : eval (.Call (.Attribute o m apos) (a :: es) [] pos) X.env = (do
      let ov ← eval o X.env
      standAt apos.atName
      let (f, first) ← holding [ov] (getMethod ov m pl)
      callWith pos f first (backTo pos (starEach (a :: es) X.env)) (backToKw pos (keywordEach [] X.env))) := by rfl) :
    DE X W (.Call (.Attribute o m apos) (a :: es) [] pos) (eMeth c m fn f as) := by
  obtain ⟨C, fa, fd, hC, cl, hm, G, hb⟩ := G
  refine peW (pe_meth (dvs := []) (ds := []) (E := fun c d H => ∀ σ, W c d σ H) ho cl hm (G X.base hB) hr (.all hb) .nil (passes_call tk fun _ _ σ _ z => z σ) ha hst hpl ht) fun σ H Q ⟨e, F, R, h⟩ => ?_
  refine ⟨e, F, R, post_imp (post_seq up_V h) ?_⟩
  rintro x H1 ⟨r, e1, F1, q1, R1, s1, h1⟩
  cases w : recv c m e1 r with
  | none => rw [w] at h1; exact h1.elim
  | some r' =>
    rw [w] at h1
    obtain ⟨⟨a, dx, fs, e1', e2', e3'⟩, ao⟩ := recv_ok hC R1 q1 w
    refine ⟨a, dx, fs, e1', e2', e3', e1, F1, R1, post_imp (post_seq up_V h1) ?_⟩
    rintro vs H2 ⟨rs, e2, F2, q2, R2, s2, h2⟩
    rw [List.append_nil]
    have z := callK_ok (vs := x :: vs) R2 (.cons (ao _ s2.fro) q2) h2
    obtain ⟨args, F', r1, r2, r3⟩ := z
    refine ⟨args, F', r1, r2, ?_⟩
    cases q : fn args with
    | ok a e' => rw [q] at r3; exact r3
    | ex x e' => rw [q] at r3; exact fun cls d F' H' s' r w σ' => hW cls d _ _ _ (r3 cls d F' H' s' r w)
    | bad => rw [q] at r3; exact r3
end
/-! ### forms of making: positional values, keywords in any order, defaults -/
def pickL {α : Type} (is : List Nat) (l : List α) : List α := is.filterMap fun i => l[i]?
theorem vals_get : ∀ {vs : List V} {us : List Value} (i : Nat), Vals vs us → (vs[i]? = none ∧ us[i]? = none) ∨ ∃ v u, vs[i]? = some v ∧ us[i]? = some u ∧ RelV v u
  | _, _, i, .nil => .inl ⟨rfl, rfl⟩
  | _, _, 0, .cons r t => .inr ⟨_, _, rfl, rfl, r⟩
  | _, _, i + 1, .cons r t => by simpa using vals_get i t
theorem vals_pick {vs : List V} {us : List Value} (r : Vals vs us) : ∀ is : List Nat, Vals (pickL is vs) (pickL is us)
  | [] => .nil
  | i :: is => by
    unfold pickL
    rw [List.filterMap_cons, List.filterMap_cons]
    rcases vals_get i r with ⟨h1, h2⟩ | ⟨v, u, h1, h2, h3⟩
    · rw [h1, h2]; exact vals_pick r is
    · rw [h1, h2]; exact .cons h3 (vals_pick r is)
theorem reps_get {K : PySem.W.Frag} {mg : Mg} {F : Hp} : ∀ {vs : List V} {ds : List D} (i : Nat), Reps K mg F vs ds → (vs[i]? = none ∧ ds[i]? = none) ∨ ∃ v d, vs[i]? = some v ∧ ds[i]? = some d ∧ Rep K mg F v d
  | _, _, i, .nil => .inl ⟨rfl, rfl⟩
  | _, _, 0, .cons r t => .inr ⟨_, _, rfl, rfl, r⟩
  | _, _, i + 1, .cons r t => by simpa using reps_get i t
theorem reps_pick {K : PySem.W.Frag} {mg : Mg} {F : Hp} {vs : List V} {ds : List D} (r : Reps K mg F vs ds) : ∀ is : List Nat, Reps K mg F (pickL is vs) (pickL is ds)
  | [] => .nil
  | i :: is => by
    unfold pickL
    rw [List.filterMap_cons, List.filterMap_cons]
    rcases reps_get i r with ⟨h1, h2⟩ | ⟨v, d, h1, h2, h3⟩
    · rw [h1, h2]; exact reps_pick r is
    · rw [h1, h2]; exact .cons h3 (reps_pick r is)
end Y

set_option Elab.async false
set_option linter.all false
set_option maxRecDepth 100000
set_option maxHeartbeats 4000000
namespace Y
open PySem PySem.Spec L2 He
set_option autoImplicit false
variable [TB]
/-! ### forms of making -/
def gPick {α : Type} (is : List Nat) (us mv ws : List α) : List α := us.take 1 ++ pickL is (us.drop 1 ++ ws ++ mv)
theorem vals_take {vs : List V} {us : List Value} (r : Vals vs us) : ∀ n, Vals (vs.take n) (us.take n) := by
  induction r with
  | nil => intro n; cases n <;> exact .nil
  | cons a r ih =>
    intro n
    cases n with
    | zero => exact .nil
    | succ n => exact .cons a (ih n)
theorem vals_drop {vs : List V} {us : List Value} (r : Vals vs us) : ∀ n, Vals (vs.drop n) (us.drop n) := by
  induction r with
  | nil => intro n; cases n <;> exact .nil
  | cons a r ih =>
    intro n
    cases n with
    | zero => exact .cons a r
    | succ n => exact ih n
theorem form_pick {K : PySem.W.Frag} {mg : Mg} {x qual : Str} {params : Arguments} {body : List Stmt} {scope : Scope} {kws : List (Str × V)} {f : Addr} {fd : FuncData} {ps ks : List Str} {n : Nat}
    (F : FunD K x qual params body scope [] kws f fd) (is : List Nat) (ms : List (Str × V)) (md : List D) (hk : kws ≠ []) (hms : ∀ q ∈ ms, q ∈ kws) (hmd : ∀ F, Reps K mg F (ms.map (·.2)) md)
    (h : ∀ (D : Addr) (doc pm : Value) (an : Option Addr) (cdv ct : Value) (us mv ws : List Value), us.length = n + 1 → mv.length = ms.length → ws.length = ks.length →
      KwChain D ((ms.map (·.1)).zip mv) (bindArgs (PySem.W.fnOf x qual params body scope .none (.ref D) doc pm an cdv ct) ⟨us, ks.zip ws⟩) (ps.zip (gPick is us mv ws))) :
    FormOk K mg fd ps n ks (fun a b => pickL is (a ++ b ++ md)) := by
  obtain ⟨mv, kb⟩ := F.kbinds0 (ps := ps) (n + 1) ks ms (fun us mv ws => gPick is us mv ws) hk hms (fun r1 r2 r3 => (vals_take r1 1).append (vals_pick (((vals_drop r1 1).append r3).append r2) is)) h
  exact ⟨_, _, kb, fun F v vs zs ds dk r1 r2 _ _ => ⟨_, rfl, reps_pick ((r1.append r2).append (hmd F)) is⟩⟩
/-- the keyword-only default x of the def at f, if it is an object -/
def kwdAt (f : Str × Option Str) (x : Str) (K : PySem.W.Frag) : Addr := match K.lookup (fAd K f) with
  | some ⟨_, _, .func fd, _⟩ => (match fd.kwdefaults with
    | .ref D => (match PySem.W.nsIn K D x with
      | some (some (.ref a)) => a
      | _ => 0)
    | _ => 0)
  | _ => 0
def empT (K : PySem.W.Frag) (T : Addr) : Bool := match K.lookup T with
  | some ⟨.type t, _, .seq its _, _⟩ => decide (t = "tuple") && its.toList.isEmpty
  | _ => false
theorem empT_ok {K : PySem.W.Frag} {mg : Mg} {T : Addr} (h : empT K T = true) (F : Hp) : Rep K mg F (.ref T) (.tup []) := by
  unfold empT at h
  split at h
  · rename_i t td its tn ts e
    rw [Bool.and_eq_true] at h
    have e1 : t = "tuple" := of_decide_eq_true h.1
    subst e1
    have e2 : its = #[] := by
      obtain ⟨l⟩ := its
      have := h.2
      simp at this
      rw [this]
    subst e2
    exact .tup (.inr ⟨_, _, _, e, rfl, rfl, by simp, .nil⟩) .nil
  · cases h
/-! ### == of an own class, by the head's look -/
def ownEqB (K : PySem.W.Frag) (C : Addr) : Bool := dB (FI K (.ref C) "__eq__") (some (some (.ref (ma K C "__eq__")))) && (PySem.W.isFn K (.ref (ma K C "__eq__")) && (dB (PySem.W.subIn K (.type "NoneType") (.ref C)) (some false) && (dB (PySem.W.subIn K (.type "tuple") (.ref C)) (some false) &&
  (dB (FI K (.ref C) "__ne__") (some (some (.builtin "object.__ne__"))) && dB (PySem.W.mroIn K C (.type "object")) (some true)))))
theorem ownEqB_ok {K : PySem.W.Frag} {C : Addr} (h : ownEqB K C = true) : EqF K C (ma K C "__eq__") ∧ NeF K C := by
  obtain ⟨a1, h⟩ := ba h
  obtain ⟨a2, h⟩ := ba h
  obtain ⟨a3, h⟩ := ba h
  obtain ⟨a4, h⟩ := ba h
  obtain ⟨a5, a6⟩ := ba h
  exact ⟨⟨dB_ok a1, a2, dB_ok a3, dB_ok a4⟩, ⟨dB_ok a5, dB_ok a6⟩⟩
end Y

set_option Elab.async false
set_option linter.all false
set_option maxRecDepth 100000
set_option maxHeartbeats 4000000
namespace Y
open PySem PySem.Spec PyProof.Rows L2 LamX NdefX
set_option autoImplicit false
/-! ### lambdas with captured names: made in a call, called in the callee -/
abbrev lamC (q : Str) (params : Arguments) (body : Expr) (scope : Scope) (cl : List (Str × Addr)) (pm : Value) (c' : Addr) (ctv : Value) : Obj := PySem.W.kla_obj "<lambda>" q params body scope cl pm c' ctv
abbrev lamNF (q : Str) (params : Arguments) (scope : Scope) (cl : List (Str × Addr)) (c' : Addr) : NF := ⟨"<lambda>", q, params, [], scope, cl, c'⟩
theorem lamC_run {CX : CXT} {P : Program} {w : World} {K : PySem.W.Frag} {mg : Str → Option Value} {base : Heap} {k : Nat} {f c' : Addr} {q : Str} {params : Arguments} {body : Expr} {scope : Scope} {cl : List (Str × Addr)} {pm ctv : Value} {N ps fr : List Str}
    {A : Around} {outer : List Env} {s : Shared} {H : Hp} {us : List Value} {vs : List V} {ws : List (Option V)} {Q : VK} {E : XK} (hf : s.heap.get? f = some (lamC q params body scope cl pm c' ctv))
    (hc : ∃ (oc : Obj) (vs : Array Value) (t : Tok), s.heap.get? c' = some oc ∧ oc.data = .fields vs ∧ vs[1]? = some (.str q t)) (S : NScope N ps fr scope) (hr : Room (k + 1) A) (e0 : Env0 P w K mg base A outer s H) (C : CellsAt cl fr ws s.heap H)
    (hb : bindArgs (PySem.W.kla_fn "<lambda>" q params body scope cl pm (.ref c') ctv) ⟨us, []⟩ = pure (ps.zip us)) (r : Vals vs us) (hl : vs.length = ps.length)
    (hbody : Room k (A.deeper (envF (lamNF q params scope cl c') f s.heap.objs.size)) → ∃ t, PE (ncx CX P w K mg base N (lamNF q params scope cl c') f A outer s H E) body t ∧ t (startF N vs ws) H Q) :
    codeAny (model P w) A (.call (.ref f) ⟨us, []⟩) (CR CX outer P w H s Q E) s := by
  have lim : s.heap.NoLimit := e0.mod.nolimit.keeps fun b o e => (e0.bs b o e).1
  obtain ⟨oc, vs0, t0, h1, h2, h3⟩ := hc
  refine PySem.W.kla_callFunE hr.depth hf rfl S.co S.gen rfl ⟨c', oc, vs0, t0, rfl, h1, h2, h3⟩ ?_
  rw [hb]
  refine wpAny_pure (wpAny_newFunctionEnv S.nocell (fun ⟨n, _⟩ hy => S.par n (List.of_mem_zip hy).1) (fun h₁ hns hsb => ⟨lim.fresh _ hsb, ?_⟩) S.kind)
  have kp : ∀ b o, s.heap.get? b = some o → h₁.get? b = some o := fun b o e => hsb.extBut b o (Nat.ne_of_lt (Heap.lt_size e)) (Heap.get?_push_of_some _ e)
  obtain ⟨t, ht, hq⟩ := hbody (hr.deeper _)
  have I : Inv (ncx CX P w K mg base N (lamNF q params scope cl c') f A outer s H E) [] (startF N vs ws) H { s with heap := h₁, toks := s.toks + (ps.zip us).length } := inv_startN S hr.hd e0 hl r C hns kp
  refine PySem.W.kla_codeExpr (wpAny_mono (ht.run [] _ (startF N vs ws) H _ I hq) (fun u s' hs => ?_) fun e s' hs => hs)
  obtain ⟨v, H', J, rv, q⟩ := hs
  exact ⟨v, H', J.os, J.bare, J.base, J.hok, rv, q⟩
theorem cells_later {cl : List (Str × Addr)} {fr : List Str} {ws : List (Option V)} {h0 h : Heap} {H0 H : Hp} {fs : List Addr} (C : CellsAt cl fr ws h0 H0) (u : Un fs [] H0 H h0 h) : CellsAt cl fr ws h H := by
  have cellK : ∀ {c : Addr} {v : Option Value}, H0 c = none → h0.IsCell c v → h.IsCell c v := fun {c v} n ⟨o, ho, hd⟩ => by
    obtain ⟨sl, q⟩ := u.any ho n (by simp)
    exact ⟨_, q, hd⟩
  refine ⟨C.len, fun y c e => ?_, C.inj, fun i y e => ?_⟩
  · obtain ⟨n, v, z⟩ := C.all y c e
    obtain ⟨o, ho, hd⟩ := id z
    exact ⟨u.free c o ho n (by simp), v, cellK n z⟩
  · obtain ⟨c, e1, e2⟩ := C.has i y e
    exact ⟨c, e1, fun v hv => by
      obtain ⟨x, r, z⟩ := e2 v hv
      exact ⟨x, r, cellK (C.all y c e1).1 z⟩⟩
theorem among_stay {pos : Pos} {cv : Value} (l m : List Value) (h : TriplesOk l) (hc : codeAmong pos l = some cv) : codeAmong pos (l ++ m) = some cv := by
  fun_induction TriplesOk l with
  | case1 => simp [codeAmong] at hc
  | case2 a t b u x rest ih =>
    simp only [List.cons_append, codeAmong] at hc ⊢
    split at hc
    · rename_i q
      rw [if_pos q]
      exact hc
    · rename_i q
      rw [if_neg q]
      exact ih h hc
  | case3 l h1 h2 => exact h.elim
variable [TB]
def LamHC (f : Addr) (q : Str) (params : Arguments) (body : Expr) (scope : Scope) (cl : List (Str × Addr)) (c' : Addr) : HO := .ext fun h => ∃ pm ctv, h.get? f = some (lamC q params body scope cl pm c' ctv)
theorem lamHC_tbl {f : Addr} {q : Str} {params : Arguments} {body : Expr} {scope : Scope} {cl : List (Str × Addr)} {c' : Addr} : NoTbl (LamHC f q params body scope cl c') := fun ps z => by
  have z' : HO.ext _ = HO.tbl ps := z
  cases z'
theorem lamHC_ok {P : Program} {w : World} {H : Hp} {h : Heap} {f : Addr} {q : Str} {params : Arguments} {body : Expr} {scope : Scope} {cl : List (Str × Addr)} {c' : Addr} {pm ctv : Value} (e : h.get? f = some (lamC q params body scope cl pm c' ctv)) : ObjOk P w H h f (LamHC f q params body scope cl c') :=
  ⟨⟨pm, ctv, e⟩, ⟨_, e⟩, fun h1 h2 z k => by
    obtain ⟨pm, ctv, q⟩ := z
    exact ⟨pm, ctv, k _ q⟩⟩
theorem lamHC_at {P : Program} {w : World} {H : Hp} {h : Heap} {f : Addr} {q : Str} {params : Arguments} {body : Expr} {scope : Scope} {cl : List (Str × Addr)} {c' : Addr} (hok : HOk P w H h) (e : H f = some (LamHC f q params body scope cl c')) : ∃ pm ctv, h.get? f = some (lamC q params body scope cl pm c' ctv) := by
  have x : ObjOk P w H h f (.ext fun h => ∃ pm ctv, h.get? f = some (lamC q params body scope cl pm c' ctv)) := hok f _ e
  exact x.1
section
variable {X : Cx} {pins : List (Addr × Obj)} {σ : L2.St} {H : Hp} {s : Shared}
/-- what the table tells of a place -/
def TabAt (H : Hp) (P : Addr) (pos : Pos) (c' : Addr) : Prop := ∃ ps : Array Value, H P = some (.tbl ps) ∧ TriplesOk ps.toList ∧ codeAmong pos ps.toList = some (.ref c')
theorem among_new {pos : Pos} {cv : Value} (l : List Value) (h : TriplesOk l) (hn : codeAmong pos l = none) : codeAmong pos (l ++ [rawInt pos.line, rawInt pos.col, cv]) = some cv := by
  fun_induction TriplesOk l with
  | case1 => simp [codeAmong, rawInt]
  | case2 a t b u x rest ih =>
    simp only [List.cons_append, codeAmong] at hn ⊢
    split at hn
    · cases hn
    · rename_i q
      rw [if_neg q]
      exact ih h hn
  | case3 l h1 h2 => exact h.elim
theorem lam_makeC {c P : Addr} {params : Arguments} {body : Expr} {scope : Scope} {pos : Pos} {E : Value → Shared → Prop} {Q : Value → Shared → Prop} (I : Inv X pins σ H s) (hB : BaseOk X.mg X.base) (hcode : X.env.code = .ref c)
    (hm : (c, P, X.env.qual ++ "<lambda>") ∈ TB.T) (hT : TabOk H) (hdef : defaultsOf params X.env = ([], [])) (hcl : ∀ y ∈ scope.names, y.2 = .free → ∃ c, X.env.cells.lookup y.1 = some c)
    (h : ∀ (f c' : Addr) (H1 : Hp) (s' : Shared), Inv X pins σ H1 s' → ExtN H H1 → TabOk H1 → (∀ b, H1 b = none → H b = none) → H f = none → H1 f = some (LamHC f (X.env.qual ++ "<lambda>") params body scope (cloFrom X.env.cells scope.names []) c') → TabAt H1 P pos c' → Q (.ref f) s') :
    wpAny (model X.prog X.w) X.A (eval (.Lambda params body scope pos) X.env) Q E s := by
  have TBB := hB _ hm
  have hmem : (P, X.env.qual ++ "<lambda>") ∈ TB.T.map (·.2) := List.mem_map.mpr ⟨_, hm, rfl⟩
  have hu : ∀ p ∈ TB.T.map (·.2), p.1 = P → p.2 = X.env.qual ++ "<lambda>" := fun p hp e => by
    obtain ⟨p', hp', rfl⟩ := List.mem_map.mp hp
    exact TB.uq p' hp' _ hm e
  obtain ⟨ps, hP, ht, ha⟩ := hT _ hmem
  refine PySem.W.kla_eval hdef ?_
  have bP : s.heap.BuiltinsAt X.mg P := TBB.bm.keeps I.bk
  have hP' : s.heap.get? P = some { cls := .none, data := .fields ps } := I.hok P _ hP
  cases hc : codeAmong pos ps.toList with
  | none =>
    refine PySem.W.kla_makeFunction (mg := X.mg) (c := c) (P := P) (ps := ps) (closure_ok hcl) I.ok.glob (I.mod.glob.keeps I.bk) hcode (TBB.code.keeps I.bk) hP' ht hc TBB.gP bP fun c' ctv h' tk hx hge hlt hrec htb => ?_
    obtain ⟨c2, oc, vs, t, e2, hoc, hd, hv⟩ := hrec
    cases e2
    have nC : H c' = none := I.hok.fresh hge
    have I1 := inv_table (t' := tk) (more := #[rawInt pos.line, rawInt pos.col, .ref c']) (h' := h') I hP hx htb hge ⟨oc, vs, t, hoc, hd, hv⟩
    have hE : ExtN H (upd (upd H P (.tbl (ps ++ #[rawInt pos.line, rawInt pos.col, .ref c']))) c' (CodeO c' (X.env.qual ++ "<lambda>"))) := fun b o e n => by
      rw [upd_ne (ne_of_none e nC), upd_ne (fun z => n ps (Option.some.inj (e.symm.trans (by rw [z]; exact hP))))]
      exact e
    have eL : (ps ++ #[rawInt pos.line, rawInt pos.col, .ref c']).toList = ps.toList ++ [rawInt pos.line, rawInt pos.col, .ref c'] := by simp
    have T1 : TabOk (upd (upd H P (.tbl (ps ++ #[rawInt pos.line, rawInt pos.col, .ref c']))) c' (CodeO c' (X.env.qual ++ "<lambda>"))) := fun p hp => by
      by_cases hb : p.1 = P
      · rw [hu p hp hb, hb]
        refine ⟨_, by rw [upd_ne (ne_of_none hP nC), upd_same], by rw [eL]; exact PySem.TriplesOk_snoc _ _ _ _ ht, fun p' cv hcv => ?_⟩
        rw [eL] at hcv
        rcases among_app _ ht hcv with z | z
        · obtain ⟨c0, e1, e2⟩ := ha p' cv z
          exact ⟨c0, e1, hE _ _ e2 codeO_ne⟩
        · exact ⟨c', z, upd_same⟩
      · obtain ⟨ps', a1, a2, a3⟩ := hT p hp
        refine ⟨ps', by rw [upd_ne (ne_of_none a1 nC), upd_ne hb]; exact a1, a2, fun p' cv hcv => ?_⟩
        obtain ⟨c0, e1, e2⟩ := a3 p' cv hcv
        exact ⟨c0, e1, hE _ _ e2 codeO_ne⟩
    have nf : (upd (upd H P (.tbl (ps ++ #[rawInt pos.line, rawInt pos.col, .ref c']))) c' (CodeO c' (X.env.qual ++ "<lambda>"))) h'.objs.size = none := I1.hok.fresh (Nat.le_refl _)
    have I2 := I1.laid (t' := tk) (a := h'.objs.size) (o := LamHC h'.objs.size (X.env.qual ++ "<lambda>") params body scope (cloFrom X.env.cells scope.names []) c') (h' := h'.push (lamC (X.env.qual ++ "<lambda>") params body scope (cloFrom X.env.cells scope.names []) ((X.mg "__name__").getD .none) c' ctv)) (fun b u e => Heap.get?_push_of_some _ e) (Nat.le_refl _) (lamHC_ok (Heap.get?_push_size _ rfl))
    have nfH : H h'.objs.size = none := I.hok.fresh (Nat.le_trans hge (Nat.le_of_lt hlt))
    have nPf : P ≠ h'.objs.size := fun z => by rw [z, nfH] at hP; cases hP
    refine h h'.objs.size c' _ _ I2 (hE.trans (ExtN.of fun b o e => by rw [upd_ne (ne_of_none e nf)]; exact e)) (T1.new nf) (fun b z => ?_) nfH upd_same ⟨_, by rw [upd_ne nPf, upd_ne (ne_of_none hP nC), upd_same], by rw [eL]; exact PySem.TriplesOk_snoc _ _ _ _ ht, by rw [eL]; exact among_new _ ht hc⟩
    · by_cases q : b = h'.objs.size
      · rw [q]; exact nfH
      · rw [upd_ne q] at z
        by_cases q2 : b = c'
        · rw [q2]; exact nC
        · rw [upd_ne q2] at z
          by_cases q3 : b = P
          · rw [q3, upd_same] at z; cases z
          · rw [upd_ne q3] at z; exact z
  | some cv =>
    obtain ⟨c', e, hco⟩ := ha pos cv hc
    subst e
    refine PySem.W.kla_makeFunctionHit (mg := X.mg) (c := c) (P := P) (ps := ps) (closure_ok hcl) I.ok.glob (I.mod.glob.keeps I.bk) hcode (TBB.code.keeps I.bk) hP' ht hc bP fun ctv h' tk hx hsz => ?_
    have I1 : Inv X pins σ H { s with heap := h', toks := tk } := I.kept fun b o e => hx b o e
    have nf : H h'.objs.size = none := I.hok.fresh hsz
    have I2 := I1.laid (t' := tk) (a := h'.objs.size) (o := LamHC h'.objs.size (X.env.qual ++ "<lambda>") params body scope (cloFrom X.env.cells scope.names []) c') (h' := h'.push (lamC (X.env.qual ++ "<lambda>") params body scope (cloFrom X.env.cells scope.names []) ((X.mg "__name__").getD .none) c' ctv)) (fun b u e => Heap.get?_push_of_some _ e) (Nat.le_refl _) (lamHC_ok (Heap.get?_push_size _ rfl))
    have nPf : P ≠ h'.objs.size := fun z => by rw [z, nf] at hP; cases hP
    refine h h'.objs.size c' _ _ I2 (ExtN.of fun b o e => by rw [upd_ne (ne_of_none e nf)]; exact e) (TabOk.new hT nf) (fun b z => ?_) nf upd_same ⟨ps, by rw [upd_ne nPf]; exact hP, ht, hc⟩
    · by_cases q : b = h'.objs.size
      · rw [q]; exact nf
      · rw [upd_ne q] at z; exact z
end
def tLamC (q : Str) (params : Arguments) (body : Expr) (scope : Scope) (cl : List (Str × Addr)) (P : Addr) (pos : Pos) : TE := fun _ H Q => TabOk H ∧ ∀ (f c' : Addr) (H1 : Hp), ExtN H H1 → TabOk H1 → (∀ b, H1 b = none → H b = none) → H f = none → H1 f = some (LamHC f q params body scope cl c') → TabAt H1 P pos c' → Q (.ref f) H1
theorem pe_lamC {X : Cx} {c P : Addr} {params : Arguments} {body : Expr} {scope : Scope} {pos : Pos} (hB : BaseOk X.mg X.base) (hcode : X.env.code = .ref c) (hm : (c, P, X.env.qual ++ "<lambda>") ∈ TB.T) (hfree : ∀ y ∈ scope.names, y.2 = .free → X.env.scope.names.lookup y.1 = some .cell ∨ X.env.scope.names.lookup y.1 = some .free)
    (hdef : defaultsOf params X.env = ([], []) := by rfl) : PE X (.Lambda params body scope pos) (tLamC (X.env.qual ++ "<lambda>") params body scope (cloFrom X.env.cells scope.names []) P pos) := by
  refine ⟨fun pins s σ H Q I h => ?_⟩
  exact lam_makeC I hB hcode hm h.1 hdef (fun y hy e => (hfree y hy e).elim (fun z => I.ok.has _ (.inl z)) fun z => I.ok.has _ (.inr z)) fun f c' H1 s' I' e t dm nf a b => ⟨.ref f, H1, I', rfl, h.2 f c' H1 e t dm nf a b⟩
end Y

set_option Elab.async false
set_option linter.all false
set_option maxRecDepth 100000
set_option maxHeartbeats 4000000
namespace Y
open PySem PySem.Spec PyProof.Rows L2 LamX NdefX
set_option autoImplicit false
@[reducible] def TB.wi (t : TB) (cv : Nat → Option (Addr × HO × List V)) : TB := ⟨t.T, t.uq, cv⟩
/-! ### data without closures -/
mutual
def noClo : D → Bool
  | .lst xs => noClos xs
  | .tup xs => noClos xs
  | .ins _ fs => noCloF fs
  | .dK ks => noCloK ks
  | .dT ks => noCloT ks
  | .exc _ fs => noCloF fs
  | .clo _ _ => false
  | _ => true
def noClos : List D → Bool
  | [] => true
  | d :: r => noClo d && noClos r
def noCloF : List (Str × D) → Bool
  | [] => true
  | (_, d) :: r => noClo d && noCloF r
def noCloK : List (Key × D) → Bool
  | [] => true
  | (_, d) :: r => noClo d && noCloK r
def noCloT : List (List Key × D) → Bool
  | [] => true
  | (_, d) :: r => noClo d && noCloT r
end
mutual
theorem Rep.any (t t' : TB) {K : PySem.W.Frag} {mg : Mg} {F : Hp} : ∀ {v : V} {d : D}, @Rep t K mg F v d → noClo d = true → @Rep t' K mg F v d
  | _, _, @Rep.non .(t) _ _ _, _ => @Rep.non t' K mg F
  | _, _, @Rep.bl .(t) _ _ _ b, _ => @Rep.bl t' K mg F b
  | _, _, @Rep.int .(t) _ _ _ b, _ => @Rep.int t' K mg F b
  | _, _, @Rep.str .(t) _ _ _ b, _ => @Rep.str t' K mg F b
  | _, _, @Rep.raw .(t) _ _ _ b, _ => @Rep.raw t' K mg F b
  | _, _, @Rep.lst .(t) _ _ _ _ _ _ a b, n => @Rep.lst t' K mg F _ _ _ a (Reps.any t t' b (by simpa [noClo] using n))
  | _, _, @Rep.tup .(t) _ _ _ _ _ _ a b, n => @Rep.tup t' K mg F _ _ _ a (Reps.any t t' b (by simpa [noClo] using n))
  | _, _, @Rep.ins .(t) _ _ _ _ _ _ _ _ _ a b c, n => @Rep.ins t' K mg F _ _ _ _ _ _ a b (RepF.any t t' c (by simpa [noClo] using n))
  | _, _, @Rep.dK .(t) _ _ _ _ _ _ a b, n => @Rep.dK t' K mg F _ _ _ a (RepK.any' t t' b (by simpa [noClo] using n))
  | _, _, @Rep.dT .(t) _ _ _ _ _ _ a b, n => @Rep.dT t' K mg F _ _ _ a (RepT.any t t' b (by simpa [noClo] using n))
  | _, _, @Rep.exc .(t) _ _ _ _ _ _ _ _ _ a b c d, n => @Rep.exc t' K mg F _ _ _ _ _ _ a b c (RepF.any t t' d (by simpa [noClo] using n))
  | _, _, @Rep.fnv .(t) _ _ _ _ _ a, _ => @Rep.fnv t' K mg F _ _ a
  | _, _, @Rep.clo .(t) _ _ _ _ _ _ _ _ a b c d, n => by simp [noClo] at n
theorem Reps.any (t t' : TB) {K : PySem.W.Frag} {mg : Mg} {F : Hp} : ∀ {v : List V} {d : List D}, @Reps t K mg F v d → noClos d = true → @Reps t' K mg F v d
  | _, _, @Reps.nil .(t) _ _ _, _ => @Reps.nil t' K mg F
  | _, _, @Reps.cons .(t) _ _ _ _ _ _ _ a b, n => @Reps.cons t' K mg F _ _ _ _ (Rep.any t t' a (by simp [noClos] at n; exact n.1)) (Reps.any t t' b (by simp [noClos] at n; exact n.2))
theorem RepF.any (t t' : TB) {K : PySem.W.Frag} {mg : Mg} {F : Hp} : ∀ {v : List (Str × V)} {d : List (Str × D)}, @RepF t K mg F v d → noCloF d = true → @RepF t' K mg F v d
  | _, _, @RepF.nil .(t) _ _ _, _ => @RepF.nil t' K mg F
  | _, _, @RepF.cons .(t) _ _ _ _ _ _ _ _ a b, n => @RepF.cons t' K mg F _ _ _ _ _ (Rep.any t t' a (by simp [noCloF] at n; exact n.1)) (RepF.any t t' b (by simp [noCloF] at n; exact n.2))
theorem RepK.any' (t t' : TB) {K : PySem.W.Frag} {mg : Mg} {F : Hp} : ∀ {v : List (Key × V)} {d : List (Key × D)}, @RepK t K mg F v d → noCloK d = true → @RepK t' K mg F v d
  | _, _, @RepK.nil .(t) _ _ _, _ => @RepK.nil t' K mg F
  | _, _, @RepK.cons .(t) _ _ _ _ _ _ _ _ a b, n => @RepK.cons t' K mg F _ _ _ _ _ (Rep.any t t' a (by simp [noCloK] at n; exact n.1)) (RepK.any' t t' b (by simp [noCloK] at n; exact n.2))
theorem RepT.any (t t' : TB) {K : PySem.W.Frag} {mg : Mg} {F : Hp} : ∀ {v : List (List Key × V)} {d : List (List Key × D)}, @RepT t K mg F v d → noCloT d = true → @RepT t' K mg F v d
  | _, _, @RepT.nil .(t) _ _ _, _ => @RepT.nil t' K mg F
  | _, _, @RepT.cons .(t) _ _ _ _ _ _ _ _ a b, n => @RepT.cons t' K mg F _ _ _ _ _ (Rep.any t t' a (by simp [noCloT] at n; exact n.1)) (RepT.any t t' b (by simp [noCloT] at n; exact n.2))
end
section
variable [TB]
/-! ### a lambda's promise -/
def CodeR (h : Heap) (c' : Addr) (q : Str) : Prop := ∃ (oc : Obj) (vs : Array Value) (t : Tok), h.get? c' = some oc ∧ oc.data = .fields vs ∧ vs[1]? = some (.str q t)
def LamOk (P : Program) (w : World) (K : PySem.W.Frag) (mg : Mg) (q : Str) (params : Arguments) (body : Expr) (scope : Scope) (k : Nat) (ps fr : List Str) (fn : Fn) : Prop :=
  ∀ base, BaseOk mg base → ∀ (f c' : Addr) (cl : List (Str × Addr)) (pm ctv : Value) (A : Around) (outer : List Env) (s : Shared) (H : Hp) (us : List Value) (vs ws : List V) (Q : VK) (E : XK), Room k A → Env0 P w K mg base A outer s H →
    s.heap.get? f = some (lamC q params body scope cl pm c' ctv) → CodeR s.heap c' q → CellsAt cl fr (ws.map some) s.heap H → Vals vs us → vs.length = ps.length → cSp K mg fn (vs ++ ws) H Q E →
    codeAny (model P w) A (.call (.ref f) ⟨us, []⟩) (CR (L2.CX P w) outer P w H s Q E) s
theorem ret_ok {K : PySem.W.Frag} {mg : Mg} {W : WX} {f : M RV} {E : Ends} {σ : L2.St} {H : Hp} (h : cS K mg W (sRet f) E σ H) : cE K mg W f σ H E.rt := by
  obtain ⟨e, F, R, h⟩ := h
  refine ⟨e, F, R, post_imp (postS_seq h) ?_⟩
  rintro v H1 ⟨r, e1, F1, q1, R1, s1, h1⟩
  cases r with
  | val d => exact h1 v σ F1 H1 s1 R1 q1
  | own c => exact h1 v σ F1 H1 s1 R1 q1
  | pk i =>
    unfold retR at h1
    dsimp only at h1
    have q1 : σ[i]? = some (some v) := q1
    split at h1
    · rename_i d es
      obtain ⟨u, h2, h3⟩ := R1.ok i _ _ es q1
      cases h2
      exact h1 v σ F1 H1 s1 R1 h3
    · rename_i c es
      obtain ⟨p, o, h2, hF, hH, hc⟩ := R1.ok i _ _ es q1
      cases h2
      refine h1 _ σ F1 H1 (s1.drop fun c' z => by rw [es] at z; cases z) R1.drop ⟨p, o, rfl, hF, hH, hc, ?_, s1.newO p ⟨i, false, c, es, q1⟩⟩
      rintro ⟨j, f, c', h3, h4⟩
      rcases get_set_of h3 with ⟨_, z⟩ | ⟨n, h3⟩
      · cases z
      · exact n (R1.inj i j _ _ _ _ _ es h3 q1 h4)
    · exact h1.elim
theorem lam_den {P : Program} {w : World} {K : PySem.W.Frag} {mg : Mg} {q : Str} {params : Arguments} {body : Expr} {scope : Scope} {k np n : Nat} {N ps fr : List Str} {fb : M RV} (S : NScope N ps fr scope) (hnp : ps.length + fr.length = np) (hn : N.length = n) (hle : np ≤ n)
    (hb : ∀ (cl : List (Str × Addr)) (pm : Value) (c' : Addr) (ctv : Value) (us : List Value), us.length = ps.length → bindArgs (PySem.W.kla_fn "<lambda>" q params body scope cl pm (.ref c') ctv) ⟨us, []⟩ = pure (ps.zip us))
    (hbody : ∀ (base : Heap), BaseOk mg base → ∀ (A : Around) (outer : List Env) (s : Shared) (H : Hp) (E : XK) (f c' : Addr) (cl : List (Str × Addr)), Room k (A.deeper (envF (lamNF q params scope cl c') f s.heap.objs.size)) →
      Takes (ncx (L2.CX P w) P w K mg base N (lamNF q params scope cl c') f A outer s H E) (fun c d _ H => E c d H) → DE (ncx (L2.CX P w) P w K mg base N (lamNF q params scope cl c') f A outer s H E) (fun c d _ H => E c d H) body fb) :
    LamOk P w K mg q params body scope (k + 1) ps fr (fnD np n (sRet fb)) := by
  intro base hB f c' cl pm ctv A outer s H us vs ws Q E hr e0 hf hc C r hl h
  refine lamC_run hf hc S hr e0 C (hb cl pm c' ctv us (by rw [← r.length]; exact hl)) r hl fun hr' => ⟨_, hbody base hB A outer s H E f c' cl hr' (takes_of rfl rfl rfl rfl), ?_⟩
  have z := ret_ok (entry_ok (N := N) hn hle h)
  have e : startF N vs (ws.map some) = L2.start N (vs ++ ws) := by
    unfold startF L2.start
    rw [List.map_append, List.append_assoc, List.length_map, List.length_append, Nat.sub_sub]
  rw [e]
  exact z
/-! ### the call of what was handed in -/
structure CloAt (Z : Cx) (cl : List (Str × Addr)) (fr : List Str) (ws : List V) (P : Addr) (pos : Pos) (c' : Addr) : Prop where
  cells : CellsAt cl fr (ws.map some) Z.s_0.heap Z.H_0
  tab : TabAt Z.H_0 P pos c'
  ex : Z.ex = []
def eCb (i n : Nat) (fn : Fn) (as : M (List RV)) : M RV := fun e => match e[i]? with
  | some (.val (.clo 0 _)) => (M.bind as fun rs => fun e => match e[i]? with
    | some (.val (.clo 0 caps)) => if rs.length = n then callK fn (rs ++ caps.map .val) e else .bad
    | _ => .bad) e
  | _ => .bad
theorem Args.app {K : PySem.W.Frag} {mg : Mg} {F : Hp} {σ : L2.St} : ∀ {vs ws : List V} {rs qs : List RV}, Args K mg F σ vs rs → Args K mg F σ ws qs → Args K mg F σ (vs ++ ws) (rs ++ qs)
  | _, _, _, _, .nil, h => h
  | _, _, _, _, .cons a b, h => .cons a (Args.app b h)
theorem Args.len {K : PySem.W.Frag} {mg : Mg} {F : Hp} {σ : L2.St} : ∀ {vs : List V} {rs : List RV}, Args K mg F σ vs rs → vs.length = rs.length
  | _, _, .nil => rfl
  | _, _, .cons a b => congrArg (· + 1) (Args.len b)
theorem args_of {K : PySem.W.Frag} {mg : Mg} {F : Hp} {σ : L2.St} : ∀ {ws : List V} {ds : List D}, Reps K mg F ws ds → Args K mg F σ ws (ds.map .val)
  | _, _, .nil => .nil
  | _, _, .cons a b => .cons a (args_of b)
section
variable {Z : Cx} {W : WX} {q : Str} {params : Arguments} {body : Expr} {scope : Scope} {cl : List (Str × Addr)} {fr ps : List Str} {ws : List V} {P c c' f : Addr} {pos p1 p2 : Pos} {k : Nat} {fnL : Fn} {a : Str} {e1 : Expr} {es : List Expr} {as : M (List RV)}
theorem cb_run {pins : List (Addr × Obj)} {σ : L2.St} {H : Hp} {s : Shared} {Q : VK} {us : List Value} {vs : List V} (CA : CloAt Z cl fr ws P pos c') (hm : (c, P, q) ∈ TB.T) (L : LamOk Z.prog Z.w Z.K Z.mg q params body scope k ps fr fnL) (hB : BaseOk Z.mg Z.base) (hr : Room k Z.A) (tk : Takes Z W)
    (I : Inv Z pins σ H s) (hT : TabOk H) (hf : H f = some (LamHC f q params body scope cl c')) (r : Vals vs us) (hl : vs.length = ps.length) (h : cSp Z.K Z.mg fnL (vs ++ ws) H Q (fun c d H => W c d σ H)) :
    wpAny (model Z.prog Z.w) Z.A (call (.ref f) us) (EP Z pins σ Q) Z.xe s := by
  obtain ⟨pm, ctv, ho⟩ := lamHC_at I.hok hf
  have un := I.base
  have un' : Un Z.fs [] Z.H_0 H Z.s_0.heap s.heap := by
    have e := CA.ex
    have z : Un Z.fs Z.ex Z.H_0 H Z.s_0.heap s.heap := un
    rw [e] at z
    exact z
  have C := cells_later CA.cells un'
  obtain ⟨ps0, t1, t2, t3⟩ := CA.tab
  obtain ⟨more, t4⟩ := un'.tbls P ps0 t1
  obtain ⟨ps1, u1, u2, u3⟩ := hT (P, q) (List.mem_map.mpr ⟨_, hm, rfl⟩)
  have u1 : H P = some (.tbl ps1) := u1
  rw [t4] at u1
  cases u1
  obtain ⟨c0, e0, hco⟩ := u3 pos (.ref c') (by rw [Array.toList_append]; exact among_stay _ _ t2 t3)
  cases e0
  have hc := I.hok c' _ hco
  obtain ⟨hcr, _, _⟩ := hc
  refine wpAny_call (codeAny_mono (L Z.base hB f c' cl pm ctv Z.A Z.stack s H us vs ws Q (fun c d H => W c d σ H) hr I.env0 ho hcr C r hl h) fun r s' hq => ?_)
  cases r with
  | error e => exact passAt tk σ pins H s e s' I hq
  | ok fl =>
    cases fl with
    | ret u => exact I.after hq
    | next => exact False.elim hq
    | brk => exact False.elim hq
    | cont => exact False.elim hq
theorem de_cb (i : Nat) (CA : CloAt Z cl fr ws P pos c') (hcv : TB.cv 0 = some (f, LamHC f q params body scope cl c', ws)) (hm : (c, P, q) ∈ TB.T) (L : LamOk Z.prog Z.w Z.K Z.mg q params body scope k ps fr fnL) (hB : BaseOk Z.mg Z.base) (hr : Room k Z.A) (tk : Takes Z W) (ha : DA Z W (e1 :: es) as)
    (hN : Z.N[i]? = some a := by rfl) (hv : Vis Z.env.scope a := by first | exact Or.inl rfl | exact Or.inr (Or.inl rfl) | exact Or.inr (Or.inr rfl)) (hd : (a == ("__debug__" : Str)) = false := by decide) (hcd : (a == ("__classdict__" : Str)) = false := by decide)
    (he : starEach (e1 :: es) Z.env = (false, eval e1 Z.env) :: starEach es Z.env := by rfl) (hpl : (backTo p2 (starEach es Z.env)).any (·.1) = false := by rfl) :
    DE Z W (.Call (.Name a p1) (e1 :: es) [] p2) (eCb i ps.length fnL as) := by
  refine ⟨fun pins s σ H Q I h => ?_⟩
  obtain ⟨e, F, R, h⟩ := h
  unfold eCb at h
  split at h
  · rename_i caps0 es0
    have clo_at : ∀ {e : Sl} {F H : Hp} {caps : List D}, Rel Z.K Z.mg F e σ H → e[i]? = some (.val (.clo 0 caps)) → σ[i]? = some (some (.ref f)) ∧ F f = some (LamHC f q params body scope cl c') ∧ Reps Z.K Z.mg F ws caps := fun {e F H caps} R es => by
      have hl : i < σ.length := by rw [← R.len]; exact (List.getElem?_eq_some_iff.mp es).1
      obtain ⟨v, h1, h2⟩ := R.ok i _ _ es (List.getElem?_eq_getElem hl)
      cases h2 with
      | clo g1 g2 g3 g4 =>
        rw [hcv] at g1
        cases g1
        exact ⟨by rw [List.getElem?_eq_getElem hl, h1], g2, g4⟩
    obtain ⟨hs, hF, _⟩ := clo_at R es0
    refine wpAny_Call_Name_kw (thn ((pe_var (pos := p1) hN hv hd hcd).run pins s σ H (fun v H1 => v = .ref f ∧ H1 = H) I ⟨.ref f, hs, rfl, rfl⟩) fun u s1 ⟨v, H1, I1, r1, q1⟩ => ?_)
    obtain ⟨ev, eH⟩ := q1
    subst ev
    rw [eH] at I1
    obtain rfl : u = Value.ref f := r1
    have fnAt : ∀ {pins : List (Addr × Obj)} {s : Shared} {H : Hp}, Inv Z pins σ H s → H f = some (LamHC f q params body scope cl c') → PySem.W.FnAt f s.heap := fun {pins s H} I e => by
      obtain ⟨pm, ctv, ho⟩ := lamHC_at I.hok e
      exact ⟨_, _, _, _, ho⟩
    refine PySem.W.callWith_F (first := []) (fnAt I1 (R.sub _ _ hF)) (thn (ha.run p2 pins s1 σ H _ I1 ⟨e, F, R, post_imp (post_seq up_V h) (fun vs H2 z => z)⟩) fun us s2 ⟨vs, H2, I2, r, q⟩ => ?_) he hpl
    obtain ⟨rs, e2, F2, q2, R2, st2, h2⟩ := q
    split at h2
    · rename_i caps es2
      obtain ⟨_, hF2, hcaps⟩ := clo_at R2 es2
      split at h2
      · rename_i hn
        refine ⟨fnAt I2 (R2.sub _ _ hF2), ?_⟩
        show wpAny _ _ (call (.ref f) us) _ _ _
        have q2 : Args Z.K Z.mg F2 σ vs rs := q2
        exact cb_run CA hm L hB hr tk I2 R2.tab (R2.sub _ _ hF2) r (by rw [q2.len]; exact hn) (callK_ok R2 (q2.app (args_of hcaps)) h2)
      · exact h2.elim
    · exact h2.elim
  · exact h.elim
end
end
end Y

set_option Elab.async false
set_option linter.all false
set_option maxRecDepth 100000
set_option maxHeartbeats 4000000
namespace Y
open PySem PySem.Spec PyProof.Rows L2 LamX NdefX
set_option autoImplicit false
variable [TB]
/-! ### a def called with a lambda as its last argument -/
def capsM : List Nat → M (List D)
  | [] => M.ret []
  | j :: js => M.bind (frz (.pk j)) fun d => M.bind (capsM js) fun ds => M.ret (d :: ds)
def hoK (fnG : Fn) (ds caps : List D) : M RV := fun e => if noClos ds && noClos caps then (match fnG (ds.map .val ++ [.val (.clo 0 caps)]) with
  | .ok (.val d) _ => if noClo d then .ok (.val d) e else .bad
  | .ex x _ => if noCloF x.fs then .ex x e else .bad
  | _ => .bad) else .bad
def eHO (fnG : Fn) (js : List Nat) (as : M (List RV)) : M RV := M.bind as fun rs => M.bind (capsM js) fun caps => fun e => match valsOf rs with
  | some ds => hoK fnG ds caps e
  | none => .bad
section
variable {K : PySem.W.Frag} {mg : Mg} {F0 H0 H : Hp} {e0 : Sl} {σ : L2.St}
theorem frz_pk {F : Hp} {e e' : Sl} {j : Nat} {d : D} (R : Rel K mg F e σ H) (s : Stp F0 H0 e0 σ F H e σ) (w : frz (.pk j) e = .ok d e') : ∃ F' v, Stp F0 H0 e0 σ F' H e' σ ∧ Rel K mg F' e' σ H ∧ σ[j]? = some (some v) ∧ Rep K mg F' v d ∧ Same F F' := by
  unfold frz at w
  dsimp only at w
  split at w
  · rename_i x es
    cases w
    have hl : j < σ.length := by rw [← R.len]; exact (List.getElem?_eq_some_iff.mp es).1
    obtain ⟨u, h1, h2⟩ := R.ok j _ _ es (List.getElem?_eq_getElem hl)
    exact ⟨F, u, s, R, by rw [List.getElem?_eq_getElem hl, h1], h2, Same.refl _⟩
  · rename_i c es
    cases w
    obtain ⟨p, o, hp, hH, hc⟩ := own_at R es
    obtain ⟨F', s1, R1, r1⟩ := frz_own R es hp (Stp.refl (F := F) (H := H) (e := e) (σ := σ))
    exact ⟨F', _, s.trans s1, R1, hp, r1, s1.fro⟩
  · cases w
theorem caps_ok : ∀ {js : List Nat} {F : Hp} {e e' : Sl} {caps : List D}, Rel K mg F e σ H → Stp F0 H0 e0 σ F H e σ → capsM js e = .ok caps e' → ∃ F' ws, Stp F0 H0 e0 σ F' H e' σ ∧ Rel K mg F' e' σ H ∧ js.map (slotAt σ) = ws.map some ∧ Reps K mg F' ws caps ∧ Same F F'
  | [], F, e, e', caps, R, s, w => by
    cases w
    exact ⟨F, [], s, R, rfl, .nil, Same.refl _⟩
  | j :: js, F, e, e', caps, R, s, w => by
    unfold capsM M.bind at w
    cases w1 : frz (.pk j) e with
    | bad => rw [w1] at w; cases w
    | ex x e2 => rw [w1] at w; cases w
    | ok d e2 =>
      rw [w1] at w
      dsimp only at w
      cases w2 : capsM js e2 with
      | bad => rw [w2] at w; cases w
      | ex x e3 => rw [w2] at w; cases w
      | ok ds e3 =>
        rw [w2] at w
        cases w
        obtain ⟨F1, v, s1, R1, hv, r1, m1⟩ := frz_pk R s w1
        obtain ⟨F2, ws, s2, R2, e2', r2, m2⟩ := caps_ok R1 s1 w2
        refine ⟨F2, v :: ws, s2, R2, ?_, .cons (r1.mono m2) r2, m1.trans m2⟩
        rw [List.map_cons, List.map_cons, e2', slotAt_of hv]
theorem caps_noex : ∀ {js : List Nat} {e e' : Sl} {x : Xn}, capsM js e = .ex x e' → False
  | [], e, e', x, w => by cases w
  | j :: js, e, e', x, w => by
    unfold capsM M.bind at w
    cases w1 : frz (.pk j) e with
    | bad => rw [w1] at w; cases w
    | ex x e2 => exact frz_noex w1
    | ok d e2 =>
      rw [w1] at w
      dsimp only at w
      cases w2 : capsM js e2 with
      | bad => rw [w2] at w; cases w
      | ex x e3 => exact caps_noex w2
      | ok ds e3 => rw [w2] at w; cases w
/-- what a callee with plain arguments does beside our slots -/
theorem Rel.over {F F' H' : Hp} {e a a' : Sl} {σ' : L2.St} (R : Rel K mg F e σ H) (s : Stp F H a σ' F' H' a' σ') (hno : ∀ b, ¬ Own a σ' b) (sub : Same F' H') (tab : TabOk H') (ftb : ∀ b o, F' b = some o → NoTbl o) : Stp F H e σ F' H' e σ ∧ Rel K mg F' e σ H' := by
  have nm : ∀ b, NM H a σ' b → H b = none := fun b z => z.elim id fun z => absurd z (hno b)
  refine ⟨⟨s.fro, fun b o z _ m => s.kept b o z (hno b) m, s.dom, fun b z z' => .inl (nm b (s.newF b z z')), fun b z => .inr z, fun i c z => ⟨⟨c, z⟩, rfl⟩, rfl⟩, ⟨sub, R.len, fun i t o es ex => ?_, R.inj, tab, ftb⟩⟩
  have z := R.ok i t o es ex
  cases t with
  | no => trivial
  | val d => obtain ⟨v, z1, z2⟩ := z; exact ⟨v, z1, z2.mono s.fro⟩
  | own f c1 =>
    obtain ⟨b, o', z1, z2, z3, z4⟩ := z
    refine ⟨b, o', z1, ?_, s.kept b o' z3 (hno b) z4.notbl, z4.mono s.fro⟩
    cases y : F' b with
    | none => rfl
    | some u =>
      have := nm b (s.newF b z2 (by rw [y]; exact fun k => nomatch k))
      rw [z3] at this; cases this
theorem ContOk.noext {F : Hp} {p : Heap → Prop} : ∀ {c : Cont}, ¬ ContOk K mg F c (.ext p)
  | .lst _, ⟨vs, e, _⟩ => by cases e
  | .ins _ _, ⟨C, dx, gs, e, _⟩ => by cases e
  | .dK _, ⟨gs, e, _⟩ => by cases e
  | .dT _, ⟨gs, e, _⟩ => by cases e
end
def HoOk [t : TB] (P : Program) (w : World) (K : PySem.W.Frag) (mg : Mg) (x : Str) (k : Nat) (ps : List Str) (q : Str) (params : Arguments) (body : Expr) (scope : Scope) (fr : List Str) (np n : Nat) (dn : M Flo) : Prop :=
  ∃ (g : Addr) (fd : FuncData) (pg : Arguments) (bg : List Stmt) (sg : Scope) (Ng : List Str), FunD K x x pg bg sg [] [] g fd ∧ mg x = some (.ref g) ∧ BA fd ps ∧ FnScope Ng ps sg ∧ ps.length = np ∧ Ng.length = n ∧ np ≤ n ∧
  ∀ (cv : Nat → Option (Addr × HO × List V)) (base : Heap), BaseOk mg base → ∀ (A : Around) (outer : List Env) (s : Shared) (H : Hp) (E : XK) (f c c' Pt : Addr) (cl : List (Str × Addr)) (ws : List V) (pos : Pos),
    cv 0 = some (f, LamHC f q params body scope cl c', ws) → (c, Pt, q) ∈ t.T → Room k (A.deeper (envOfC x sg s.heap.objs.size g fd.code)) → CloAt (cxOf (L2.CX P w) P w K mg base Ng x sg g fd.code A outer s H E) cl fr ws Pt pos c' →
    @DSs (t.wi cv) (cxOf (L2.CX P w) P w K mg base Ng x sg g fd.code A outer s H E) (fun c d _ H => E c d H) bg dn
def cAL (K : PySem.W.Frag) (mg : Mg) (W : WX) (q : Str) (params : Arguments) (body : Expr) (scope : Scope) (cl : List (Str × Addr)) (P : Addr) (pos : Pos) (as : M (List RV)) : TA := fun σ H Q => cA K mg W as σ H fun vs H1 => tLamC q params body scope cl P pos σ H1 fun y H2 => Q (vs ++ [y]) H2
abbrev DAL (X : Cx) (W : WX) (params : Arguments) (body : Expr) (scope : Scope) (P : Addr) (lpos : Pos) (es : List Expr) (as : M (List RV)) : Prop := PA X es (cAL X.K X.mg W (X.env.qual ++ "<lambda>") params body scope (cloFrom X.env.cells scope.names []) P lpos as)
section
variable {X : Cx} {W : WX} {params : Arguments} {body : Expr} {scope : Scope} {P c : Addr} {lpos p pos : Pos} {a e1 : Expr} {es : List Expr} {f : M RV} {as : M (List RV)} {x : Str} {k : Nat} {fr ps : List Str} {js : List Nat}
theorem dal_lam (hB : BaseOk X.mg X.base) (hcode : X.env.code = .ref c) (hm : (c, P, X.env.qual ++ "<lambda>") ∈ TB.T) (hfree : ∀ y ∈ scope.names, y.2 = .free → X.env.scope.names.lookup y.1 = some .cell ∨ X.env.scope.names.lookup y.1 = some .free)
    (hdef : defaultsOf params X.env = ([], []) := by rfl) (hs : starEach [.Lambda params body scope lpos] X.env = (false, eval (.Lambda params body scope lpos) X.env) :: starEach [] X.env := by rfl) : DAL X W params body scope P lpos [.Lambda params body scope lpos] aNil :=
  paW (pa_cons (pe_lamC hB hcode hm hfree hdef) pa_nil hs) fun σ H Q ⟨e, F, R, h⟩ => post_ret R h .nil
theorem dal_cons (ha : DE X W a f) (hr : DAL X W params body scope P lpos es as) (hs : starEach (a :: es) X.env = (false, eval a X.env) :: starEach es X.env := by rfl) : DAL X W params body scope P lpos (a :: es) (aCons (aV f) as) :=
  paW (pa_cons ha hr hs) fun σ H Q h => aCons_ok (Q := fun vs H1 => tLamC (X.env.qual ++ "<lambda>") params body scope (cloFrom X.env.cells scope.names []) P lpos σ H1 fun y H2 => Q (vs ++ [y]) H2) h
theorem pe_callHO {g : Addr} {fd : FuncData} {pg : Arguments} {bg : List Stmt} {sg : Scope} {Ng : List Str} {t : TA} (FD : FunD X.K x x pg bg sg [] [] g fd) (Sg : FnScope Ng ps sg) (hr : Room (k + 1) X.A) (hg : Gl X x) (hm : X.mg x = some (.ref g)) (hb : BA fd ps) (tk : Takes X W) (ha : PA X (e1 :: es) t)
    (hdb : (x == ("__debug__" : Str)) = false := by decide) (he : starEach (e1 :: es) X.env = (false, eval e1 X.env) :: starEach es X.env := by rfl) (hpl : (backTo pos (starEach es X.env)).any (·.1) = false := by rfl) :
    PE X (.Call (.Name x p) (e1 :: es) [] pos) (fun σ H Q => t σ H fun vs H1 => vs.length = ps.length ∧ ∀ pins s, Inv X pins σ H1 s → Room k (X.A.deeper (envOfC x sg s.heap.objs.size g fd.code)) →
      ∃ t', PSs (cxOf (L2.CX X.prog X.w) X.prog X.w X.K X.mg X.base Ng x sg g fd.code X.A X.stack s H1 (fun c d H => W c d σ H)) bg t' ∧ t' { nx := fun _ H' => Q .non H', rt := Q } (L2.start Ng vs) H1) := by
  refine ⟨fun pins s σ H Q I h => ?_⟩
  refine wpAny_Call_Name_kw (ld_glob I hg hm ?_ hdb)
  refine PySem.W.callWith_K (h₀ := X.base) I.ok.mod.kin FD.kp (thn (ha.run pos pins s σ H _ I h) fun us s1 ⟨vs, H1, I1, r, hl, q⟩ => ⟨I1.kIn, ?_⟩) he hpl
  obtain ⟨oc, od, dV, kV, doc, pm, an, cdv, ct, osl, rfl, lk, hcd, _, _⟩ := FD.ex
  refine wpAny_call (codeAny_mono (run_ofS (CX := L2.CX X.prog X.w) (E := fun c d H => W c d σ H) lk hcd Sg hr I1.env0 (.of_eq (hb us (by rw [← r.length]; exact hl))) r hl fun hr' => q pins s1 I1 hr') fun r s' hq => ?_)
  cases r with
  | error e => exact passAt tk σ pins H1 s1 e s' I1 hq
  | ok fl =>
    cases fl with
    | ret u => exact I1.after hq
    | next => exact False.elim hq
    | brk => exact False.elim hq
    | cont => exact False.elim hq
end
section
variable {params : Arguments} {body : Expr} {scope : Scope} {lpos p pos : Pos} {e1 : Expr} {es : List Expr} {as : M (List RV)} {x : Str} {k np n : Nat} {fr ps : List Str} {js : List Nat} {dn : M Flo}
theorem de_ho [t : TB] {X : Cx} {W : WX} {P c : Addr} (G : HoOk X.prog X.w X.K X.mg x k ps (X.env.qual ++ "<lambda>") params body scope fr np n dn) (hB : BaseOk X.mg X.base) (hr : Room (k + 1) X.A) (tk : Takes X W) (hg : Gl X x) (hm : (c, P, X.env.qual ++ "<lambda>") ∈ TB.T)
    (ha : DAL X W params body scope P lpos (e1 :: es) as) (hfree : ∀ y ∈ scope.names, y.2 = .free → X.env.scope.names.lookup y.1 = some .cell ∨ X.env.scope.names.lookup y.1 = some .free) (hfr : ∀ y ∈ fr, (y, NameKind.free) ∈ scope.names) (hjs : js.map (fun j => X.N[j]?) = fr.map some)
    (hdb : (x == ("__debug__" : Str)) = false := by decide) (he : starEach (e1 :: es) X.env = (false, eval e1 X.env) :: starEach es X.env := by rfl) (hpl : (backTo pos (starEach es X.env)).any (·.1) = false := by rfl) :
    DE X W (.Call (.Name x p) (e1 :: es) [] pos) (eHO (fnD np n dn) js as) := by
  obtain ⟨g, fd, pg, bg, sg, Ng, FD, hmx, hb, Sg, hnp, hn, hle, G⟩ := G
  refine peW (pe_callHO FD Sg hr hg hmx hb tk ha hdb he hpl) fun σ H Q ⟨e, F, R, h⟩ => ?_
  refine ⟨e, F, R, post_imp (post_seq0 h) ?_⟩
  rintro vs H1 ⟨rs, e1', F1, q1, R1, s1, h1⟩
  have q1 : Args X.K X.mg F1 σ vs rs := q1
  refine ⟨R1.tab, fun f c' H2 hE hT hd nf a1 a2 => ?_⟩
  have sm : SmT H1 H2 := ⟨fun b o q n => hE b o q n, hT, hd⟩
  have R2 := R1.ext sm
  have S2 := s1.trans (Stp.ext R1 sm)
  unfold M.bind at h1
  cases w : capsM js e1' with
  | bad => rw [w] at h1; exact h1.elim
  | ex x e' => exact (caps_noex w).elim
  | ok caps e3 =>
    rw [w] at h1
    obtain ⟨F4, ws, S4, R4, ews, rc, m4⟩ := caps_ok R2 S2 w
    cases wv : valsOf rs with
    | none => rw [wv] at h1; exact h1.elim
    | some ds =>
      simp only [wv] at h1
      have rd := q1.reps wv
      unfold hoK at h1
      split at h1
      · rename_i hnc
        rw [Bool.and_eq_true] at hnc
        -- the closure is told as data, in the callee
        have nfF : F4 f = none ∨ F4 f = some (LamHC f (X.env.qual ++ "<lambda>") params body scope (cloFrom X.env.cells scope.names []) c') := by
          cases z : F4 f with
          | none => exact .inl rfl
          | some o => exact .inr (by rw [← a1, ← R4.sub _ _ z])
        have hnO : ¬ Own e3 σ f := fun ⟨i, fx, cc, h3, h4⟩ => by
          obtain ⟨b, o, e5, _, hH, hc⟩ := R4.ok i _ _ h3 h4
          cases e5
          rw [a1] at hH
          cases hH
          exact hc.noext
        have hH0 : H f = none := S2.dom f |> fun _ => s1.dom f nf
        obtain ⟨F5, S5, R5, m5, hF5⟩ : ∃ F5, Stp F H e σ F5 H2 e3 σ ∧ Rel X.K X.mg F5 e3 σ H2 ∧ Same F4 F5 ∧ F5 f = some (LamHC f (X.env.qual ++ "<lambda>") params body scope (cloFrom X.env.cells scope.names []) c') := by
          rcases nfF with z | z
          · exact ⟨upd F4 f _, Stp.freeze R4 a1 z S4 (.inl hH0), R4.freeze a1 hnO z lamHC_tbl, same_upd' z, upd_same⟩
          · exact ⟨F4, S4, R4, Same.refl _, z⟩
        have hlen : (vs ++ [V.ref f]).length = ps.length ∨ (vs ++ [V.ref f]).length ≠ ps.length := Decidable.em _
        rcases hlen with hlen | hlen
        · refine ⟨hlen, fun pins s I hr' => ?_⟩
          -- the callee's world
          let cv : Nat → Option (Addr × HO × List V) := fun j => if j = 0 then some (f, LamHC f (X.env.qual ++ "<lambda>") params body scope (cloFrom X.env.cells scope.names []) c', ws) else none
          have hcv : cv 0 = some (f, LamHC f (X.env.qual ++ "<lambda>") params body scope (cloFrom X.env.cells scope.names []) c', ws) := rfl
          have C0 := cells_of I (Caps.made I.ok hfree hfr hjs)
          rw [ews] at C0
          refine ⟨_, G cv X.base hB X.A X.stack s H2 _ f c c' P (cloFrom X.env.cells scope.names []) ws lpos hcv hm hr' ⟨C0, a2, rfl⟩, ?_⟩
          refine @entry_ok (t.wi cv) X.K X.mg Ng np n dn (vs ++ [V.ref f]) H2 Q _ hn hle ?_
          have rds : @Reps (t.wi cv) X.K X.mg F5 (vs ++ [V.ref f]) (ds ++ [D.clo 0 caps]) := by
            refine @Reps.append (t.wi cv) X.K X.mg F5 _ _ _ _ (Reps.any t (t.wi cv) ((rd.mono m4).mono m5) hnc.1) ?_
            exact @Reps.cons (t.wi cv) X.K X.mg F5 _ _ _ _ (@Rep.clo (t.wi cv) X.K X.mg F5 0 f _ ws caps hcv hF5 lamHC_tbl (Reps.any t (t.wi cv) (rc.mono m5) hnc.2)) (@Reps.nil (t.wi cv) X.K X.mg F5)
          have eA : ds.map Slot.val ++ [Slot.val (D.clo 0 caps)] = (ds ++ [D.clo 0 caps]).map Slot.val := by rw [List.map_append]; rfl
          rw [eA] at h1
          have hno : ∀ b, ¬ Own ((ds ++ [D.clo 0 caps]).map Slot.val) ((vs ++ [V.ref f]).map some) b := fun b ⟨i, fx, cc, h3, _⟩ => by
            rw [List.getElem?_map] at h3
            obtain ⟨d0, _, z⟩ := Option.map_eq_some_iff.mp h3
            cases z
          refine ⟨(ds ++ [D.clo 0 caps]).map Slot.val, F5, ?_, ?_, ?_⟩
          · refine @Rel.mk (t.wi cv) X.K X.mg F5 _ _ H2 R5.sub ?_ (fun i sl o es ex => ?_) (fun i j fx gx cc dd b ei ej si sj => ?_) R5.tab R5.ftb
            · rw [List.length_map, List.length_map]; exact (@Reps.length (t.wi cv) X.K X.mg F5 _ _ rds).symm
            · rw [List.getElem?_map] at es ex
              obtain ⟨d0, g1, rfl⟩ := Option.map_eq_some_iff.mp es
              obtain ⟨v0, g2, g3⟩ := @Reps.get (t.wi cv) X.K X.mg F5 _ _ _ _ rds g1
              rw [g2] at ex
              cases ex
              exact ⟨v0, rfl, g3⟩
            · exact absurd ⟨i, fx, cc, ei, si⟩ (hno b)
          · rw [List.all_map]
            exact List.all_eq_true.mpr fun _ _ => rfl
          · cases wr : fnD np n dn ((ds ++ [D.clo 0 caps]).map Slot.val) with
            | bad => rw [wr] at h1; exact h1.elim
            | ex y a' =>
              rw [wr] at h1
              dsimp only at h1
              split at h1
              · rename_i hx
                intro cls d' F' H' s' R' z
                obtain ⟨s6, R6⟩ := R5.over s' hno (@Rel.sub (t.wi cv) _ _ _ _ _ _ R') (@Rel.tab (t.wi cv) _ _ _ _ _ _ R') (@Rel.ftb (t.wi cv) _ _ _ _ _ _ R')
                refine h1 cls d' F' H' (S5.trans s6) R6 ?_
                obtain ⟨C1, dx, gs, z1, z2, z3, z4, z5⟩ := z
                exact ⟨C1, dx, gs, z1, z2, z3, z4, RepF.any (t.wi cv) t z5 hx⟩
              · exact h1.elim
            | ok r a' =>
              rw [wr] at h1
              cases r with
              | own cc => exact h1.elim
              | pk i => exact h1.elim
              | val d' =>
                dsimp only at h1
                split at h1
                · rename_i hx
                  intro v F' H' s' R' z
                  obtain ⟨s6, R6⟩ := R5.over s' hno (@Rel.sub (t.wi cv) _ _ _ _ _ _ R') (@Rel.tab (t.wi cv) _ _ _ _ _ _ R') (@Rel.ftb (t.wi cv) _ _ _ _ _ _ R')
                  exact h1 v F' H' (S5.trans s6) R6 (Rep.any (t.wi cv) t z hx)
                · exact h1.elim
        · -- another number of arguments: the plain form is bad
          exfalso
          have e1 : fnD np n dn (ds.map Slot.val ++ [Slot.val (D.clo 0 caps)]) = .bad := by
            unfold fnD
            rw [if_neg]
            rw [List.length_append, List.length_map, ← rd.length, ← hnp]
            intro z
            exact hlen (by rw [List.length_append]; exact z)
          rw [e1] at h1
          exact h1.elim
      · exact h1.elim
end
end Y

set_option Elab.async false
set_option linter.all false
set_option maxRecDepth 100000
set_option maxHeartbeats 4000000
namespace Y
open PySem PySem.Spec PyProof.Rows L2
set_option autoImplicit false
variable [TB]
/-! ### & | << >> -/
def andI : D → D → M RV := kI2 fun i j => some (.int (Builtin.bitAnd i j))
def orI : D → D → M RV := kI2 fun i j => some (.int (Builtin.bitOr i j))
def shlI : D → D → M RV := kI2 fun i j => if 0 ≤ j ∧ j ≤ 1000000 ∧ i.natAbs < 2 ^ 64 then some (.int (i * 2 ^ j.toNat)) else none
def shrI : D → D → M RV := kI2 fun i j => if 0 ≤ j then some (.int (i / 2 ^ j.toNat)) else none
section
variable {X : Cx} {W : WX} {a b : Expr} {f g : M RV} {pos apos p : Pos}
theorem de_band (ha : DE X W a f) (hb : DE X W b g) : DE X W (.BinOp a .BitAnd b pos) (rd2 f g andI) := de_bin op_and (k2_I0 fun _ _ _ => .int _) ha hb
theorem de_bor (ha : DE X W a f) (hb : DE X W b g) : DE X W (.BinOp a .BitOr b pos) (rd2 f g orI) := de_bin op_or (k2_I0 fun _ _ _ => .int _) ha hb
theorem de_shl (ha : DE X W a f) (hb : DE X W b g) : DE X W (.BinOp a .LShift b pos) (rd2 f g shlI) := de_bin op_shl (k2_I fun i j d h => by
  split at h
  · rename_i hc; cases h; exact ⟨hc, fun F => .int _⟩
  · cases h) ha hb
theorem de_shr (ha : DE X W a f) (hb : DE X W b g) : DE X W (.BinOp a .RShift b pos) (rd2 f g shrI) := de_bin op_shr (k2_I fun i j d h => by
  split at h
  · rename_i hc; cases h; exact ⟨hc, fun F => .int _⟩
  · cases h) ha hb
def bitsK : D → M RV
  | .int i => fun e => .ok (.val (.int (Builtin.Int.intBits i : Nat))) e
  | _ => M.bad
def strK : D → M RV
  | .int i => fun e => if i.natAbs.log2 < 1920 then .ok (.val (.str (toString i))) e else .bad
  | _ => M.bad
theorem de_strOf (hg : Gl X "str") (hm : X.mg "str" = none) (ha : DE X W a f) (he : starEach [a] X.env = (false, eval a X.env) :: starEach [] X.env := by rfl) (hpl : (backTo pos (starEach [] X.env)).any (·.1) = false := by rfl) :
    DE X W (.Call (.Name "str" p) [a] [] pos) (rd1 f strK) := de_t1 call_str_int (fun F H e σ x d Q R rx h => by
  unfold strK at h
  split at h
  · rename_i i
    split at h
    · rename_i hl
      exact ⟨i, by rw [show x = .int i from rx], hl, post_val R h (.str _)⟩
    · exact h.elim
  · exact h.elim) hg hm (by decide +kernel) ha (he := he) (hpl := hpl)
def minM : D → M RV
  | .lst ds => fun e => match intsOf ds with
    | some (n :: ns) => .ok (.val (.int (ns.foldl min n))) e
    | _ => .bad
  | _ => M.bad
theorem de_minL (hc : X.calm = true) (hg : Gl X "min") (hm : X.mg "min" = none) (ha : DE X W a f) (he : starEach [a] X.env = (false, eval a X.env) :: starEach [] X.env := by rfl) (hpl : (backTo pos (starEach [] X.env)).any (·.1) = false := by rfl) :
    DE X W (.Call (.Name "min" p) [a] [] pos) (rd1 f minM) := de_b1 (cr_min hc) (fun F H e σ x d Q R rx h => by
  unfold minM at h
  split at h
  · obtain ⟨l, vs, rfl, q, r⟩ := rx
    split at h
    · rename_i n ns w
      rw [Reps.ints r w] at q
      refine ⟨l, n :: ns, rfl, q, by simp, fun m hm' hle => ?_⟩
      obtain ⟨f1, f2, f3⟩ := fold_min ns n
      have e1 : m = ns.foldl min n := by
        refine Int.le_antisymm (hle _ ?_) ?_
        · rcases f3 with z | z
          · rw [z]; exact List.mem_cons_self
          · exact List.mem_cons_of_mem _ z
        · rcases List.mem_cons.mp hm' with z | z
          · rw [z]; exact f1
          · exact f2 m z
      rw [e1]
      exact post_val R h (.int _)
    · exact h.elim
  · exact h.elim) hg hm (by decide +kernel) ha (he := he) (hpl := hpl)
end
/-! ### sorted, of all sorts of data -/
def leD (a b : D) : Bool := PySem.W.dataLe false pyD a b
def tupNB : D → Bool
  | .tup (_ :: _) => true
  | _ => false
def plainNB : D → Bool
  | .non => false
  | .tup _ => false
  | _ => true
def okSortA (ds : List D) : Bool := (ds.all fun d => okD d && decide (dpD d ≤ 60)) && ((ds.all fun a => ds.all fun b => PySem.W.alike (pyD a) (pyD b)) && (ds.all tupNB || ds.all plainNB))
def sortedA : D → M RV
  | .lst ds => fun e => if okSortA ds = true ∧ ds.length ≤ 10000 then .ok (.own (.lst (ds.mergeSort leD))) e else .bad
  | _ => M.bad
def rSortA (K : PySem.W.Frag) (mg : Mg) : List V → Hp → VK → Prop := fun vs H Q => ∃ (l : Addr) (bs : List (V × D)), vs = [.ref l] ∧ SqL K H l (bs.map Prod.fst) ∧ (∀ b ∈ bs, Rep K mg H b.1 b.2) ∧ okSortA (bs.map Prod.snd) = true ∧ bs.length ≤ 10000 ∧
  ∀ p, H p = none → Q (.ref p) (upd H p (.lst ((bs.mergeSort fun a b => leD a.2 b.2).map Prod.fst)))
theorem cr_sortA {X : Cx} {k : Nat} (hr : Room k X.A) : CallR X (.builtin "sorted") (rSortA X.K X.mg) := by
  intro pins s σ H vs us Q I r h
  obtain ⟨l, bs, rfl, hS, hR, hk, hn, hQ⟩ := h
  obtain rfl := Vals.ref1 r
  obtain ⟨its, rv, hL, hz⟩ := I.list hS
  unfold okSortA at hk
  simp only [Bool.and_eq_true, Bool.or_eq_true] at hk
  obtain ⟨hk1, hk2, hk3⟩ := hk
  rw [List.all_eq_true] at hk1 hk2
  have each : ∀ b ∈ bs, okD b.2 = true ∧ dpD b.2 ≤ 60 := fun b hb => by
    have := hk1 b.2 (List.mem_map.mpr ⟨b, hb, rfl⟩)
    simp only [Bool.and_eq_true, decide_eq_true_eq] at this
    exact this
  have hE : PySem.W.EachIs (fun u (b : V × D) => RelV b.1 u) its bs := each_vals rv fun b hb u ru => ru
  have hE2 : PySem.W.EachIs (fun u (b : V × D) => ∃ as, Reads s.heap u (pyD b.2) as) its bs := each_vals rv fun b hb u ru => by
    obtain ⟨h2, h4⟩ := each b hb
    exact Dp.reads I _ _ _ ((hR b hb).dp (okD_pyD h2).1) ru
  have un := hr.un
  refine PySem.W.sorted_data (enc := fun b : V × D => pyD b.2) hL.isList hE hE2 ?al ?so (Nat.le_of_lt (small_line hn)) ?dp ?fin
  case al =>
    intro d hd d' hd'
    obtain ⟨b, hb, rfl⟩ := List.mem_map.mp hd
    obtain ⟨b', hb', rfl⟩ := List.mem_map.mp hd'
    exact (List.all_eq_true.mp (hk2 b.2 (List.mem_map.mpr ⟨b, hb, rfl⟩))) b'.2 (List.mem_map.mpr ⟨b', hb', rfl⟩)
  case so =>
    rcases hk3 with z | z
    · refine .inl fun d hd => ?_
      obtain ⟨b, hb, rfl⟩ := List.mem_map.mp hd
      have t := List.all_eq_true.mp z b.2 (List.mem_map.mpr ⟨b, hb, rfl⟩)
      have ok := (okD_pyD (each b hb).1).1
      obtain ⟨v, d⟩ := b
      cases d with
      | tup ds =>
        cases ds with
        | nil => cases t
        | cons x xs =>
          have ok : toPy (.tup (x :: xs)) = some (pyD (.tup (x :: xs))) := ok
          unfold toPy at ok
          obtain ⟨ps, q1, q2⟩ := Option.map_eq_some_iff.mp ok
          unfold toPys at q1
          split at q1
          · cases q1
            exact ⟨_, _, q2.symm⟩
          · cases q1
      | _ => cases t
    · refine .inr fun d hd => ?_
      obtain ⟨b, hb, rfl⟩ := List.mem_map.mp hd
      have t := List.all_eq_true.mp z b.2 (List.mem_map.mpr ⟨b, hb, rfl⟩)
      have ok := (okD_pyD (each b hb).1).1
      obtain ⟨v, d⟩ := b
      cases d with
      | non => cases t
      | tup _ => cases t
      | bl x => exact ⟨(fun z => by cases z), (fun xs z => by cases z)⟩
      | int x => exact ⟨(fun z => by cases z), (fun xs z => by cases z)⟩
      | str x => exact ⟨(fun z => by cases z), (fun xs z => by cases z)⟩
      | lst ds =>
        have ok : toPy (.lst ds) = some (pyD (.lst ds)) := ok
        unfold toPy at ok
        obtain ⟨ps, q1, q2⟩ := Option.map_eq_some_iff.mp ok
        refine ⟨fun z => ?_, fun xs z => ?_⟩
        · have : pyD (.lst ds) = PyData.none := z
          rw [this] at q2; cases q2
        · have : pyD (.lst ds) = PyData.tuple xs := z
          rw [this] at q2; cases q2
      | _ => cases ok
  case dp =>
    intro b hb
    obtain ⟨h2, h4⟩ := each b hb
    have := (okD_pyD h2).2
    omega
  case fin =>
    intro out hlen eo
    have rv' := vals_each (R := fun u (b : V × D) => RelV b.1 u) eo fun b u z => z
    obtain ⟨ep, he'⟩ := PyProof.Rows.sortedAll_at s.heap its out.toArray
    have np : H (s.heap.objs.size + 1) = none := I.hok.fresh (Nat.le_succ _)
    refine ⟨.ref _, upd H (s.heap.objs.size + 1) (.lst ((bs.mergeSort fun a b => leD a.2 b.2).map Prod.fst)), I.laid (t' := s.toks) (fun _ _ => PyProof.Rows.sortedAll_old) (Nat.le_succ _) ⟨?_, out, ep, rv', he'⟩, rfl, hQ _ np⟩
    rw [List.length_map, List.length_mergeSort]
    exact Nat.le_of_lt (small_line hn)
section
variable {X : Cx} {W : WX} {a b : Expr} {es : List Expr} {f g : M RV} {as ks : M (List RV)} {fn : Fn} {pos p : Pos} {k n : Nat} {x : Str} {ps nms : List Str} {is : List Nat} {kws : List Keyword}
theorem de_sortA (hr : Room k X.A) (hg : Gl X "sorted") (hm : X.mg "sorted" = none) (ha : DE X W a f) (he : starEach [a] X.env = (false, eval a X.env) :: starEach [] X.env := by rfl) (hpl : (backTo pos (starEach [] X.env)).any (·.1) = false := by rfl) :
    DE X W (.Call (.Name "sorted" p) [a] [] pos) (rd1 f sortedA) := de_b1 (cr_sortA hr) (fun F H e σ x d Q R rx h => by
  unfold sortedA at h
  split at h
  · rename_i ds
    split at h
    · rename_i hk
      obtain ⟨l, vs, rfl, sq, rs⟩ := rx
      have hlen := rs.length
      have hz := zip_rep rs
      refine ⟨l, vs.zip ds, rfl, by rw [zip_fst hlen]; exact sq, fun b hb => (hz b hb).mono R.sub, by rw [zip_snd hlen]; exact hk.1, by rw [List.length_zip]; omega, fun p hp => ?_⟩
      have e3 : ((vs.zip ds).mergeSort fun a b => leD a.2 b.2).map Prod.snd = ds.mergeSort leD := by
        rw [PySem.W.sort_maps (s := leD) Prod.snd fun _ _ _ _ => rfl, zip_snd hlen]
      rw [← e3] at h
      exact post_newL R h (reps_of fun b hb => hz b ((List.mergeSort_perm _ _).subset hb)) hp
    · exact h.elim
  · exact h.elim) hg hm (by decide +kernel) ha (he := he) (hpl := hpl)
/-! ### defs called with keywords -/
def BAK (fd : FuncData) (ps : List Str) (n : Nat) (nms : List Str) (is : List Nat) : Prop := ∀ us ws : List Value, us.length = n → ws.length = nms.length → bindArgs fd ⟨us, nms.zip ws⟩ = pure (ps.zip (pickL is (us ++ ws)))
def CallKw (P : Program) (w : World) (K : PySem.W.Frag) (mg : Mg) (x : Str) (k : Nat) (ps : List Str) (fn : Fn) (n : Nat) (nms : List Str) (is : List Nat) : Prop := ∃ f fd, (∀ base, BaseOk mg base → FnOk P w K mg base (L2.CX P w) k f fd ps (cSp K mg fn)) ∧ mg x = some (.ref f) ∧ PySem.W.keepIn K (.ref f) = true ∧ BAK fd ps n nms is
theorem FunD.bak {K : PySem.W.Frag} {x qual : Str} {params : Arguments} {body : List Stmt} {scope : Scope} {f : Addr} {fd : FuncData} (F : FunD K x qual params body scope [] [] f fd)
    (h : ∀ (kV doc pm : Value) (an : Option Addr) (cdv ct : Value) (us ws : List Value), us.length = n → ws.length = nms.length → bindArgs (PySem.W.fnOf x qual params body scope .none kV doc pm an cdv ct) ⟨us, nms.zip ws⟩ = pure (ps.zip (pickL is (us ++ ws)))) : BAK fd ps n nms is := by
  obtain ⟨oc, od, dV, kV, doc, pm, an, cdv, ct, osl, rfl, lk, hcd, hD, hK⟩ := F.ex
  rcases hD with ⟨_, rfl⟩ | ⟨e, _⟩
  · exact fun us ws hl hl2 => h kV doc pm an cdv ct us ws hl hl2
  · exact absurd rfl e
theorem DefAt.okK {P : Program} {w : World} {K : PySem.W.Frag} {mg : Mg} {x : Str} {st : Stmt} (d : DefAt K mg x st ps) (h : ∀ f fd, FunD K x x (defArgs st) (defBody st) (defScope st) [] [] f fd → ∀ base, BaseOk mg base → FnOk P w K mg base (L2.CX P w) k f fd ps (cSp K mg fn))
    (hk : ∀ (kV doc pm : Value) (an : Option Addr) (cdv ct : Value) (us ws : List Value), us.length = n → ws.length = nms.length → bindArgs (PySem.W.fnOf x x (defArgs st) (defBody st) (defScope st) .none kV doc pm an cdv ct) ⟨us, nms.zip ws⟩ = pure (ps.zip (pickL is (us ++ ws)))) : CallKw P w K mg x k ps fn n nms is := by
  obtain ⟨f, fd, F, m, b⟩ := d
  exact ⟨f, fd, h f fd F, m, F.kp, FunD.bak F hk⟩
def eCallK (fn : Fn) (n m : Nat) (is : List Nat) (as ks : M (List RV)) : M RV := M.bind as fun rs => M.bind ks fun rk => fun e => if rs.length = n ∧ rk.length = m then callK fn (pickL is (rs ++ rk)) e else .bad
theorem args_get {K : PySem.W.Frag} {mg : Mg} {F : Hp} {σ : L2.St} : ∀ {vs : List V} {rs : List RV} (i : Nat), Args K mg F σ vs rs → (vs[i]? = none ∧ rs[i]? = none) ∨ ∃ v r, vs[i]? = some v ∧ rs[i]? = some r ∧ ArgOk K mg F σ v r
  | _, _, i, .nil => .inl ⟨rfl, rfl⟩
  | _, _, 0, .cons r t => .inr ⟨_, _, rfl, rfl, r⟩
  | _, _, i + 1, .cons r t => by simpa using args_get i t
theorem args_pick {K : PySem.W.Frag} {mg : Mg} {F : Hp} {σ : L2.St} {vs : List V} {rs : List RV} (r : Args K mg F σ vs rs) : ∀ is : List Nat, Args K mg F σ (pickL is vs) (pickL is rs)
  | [] => .nil
  | i :: is => by
    unfold pickL
    rw [List.filterMap_cons, List.filterMap_cons]
    rcases args_get i r with ⟨h1, h2⟩ | ⟨v, u, h1, h2, h3⟩
    · rw [h1, h2]; exact args_pick r is
    · rw [h1, h2]; exact .cons h3 (args_pick r is)
theorem run_kw {pins : List (Addr × Obj)} {σ : L2.St} {H : Hp} {s : Shared} {Q : VK} {us ws : List Value} {vs zs : List V} {f : Addr} {fd : FuncData} (G : FnOk X.prog X.w X.K X.mg X.base (L2.CX X.prog X.w) k f fd ps (cSp X.K X.mg fn)) (hr : Room k X.A) (hb : BAK fd ps n nms is) (tk : Takes X W)
    (I : Inv X pins σ H s) (r : Vals vs us) (rz : Vals zs ws) (l1 : vs.length = n) (l2 : zs.length = nms.length) (h : cSp X.K X.mg fn (pickL is (vs ++ zs)) H Q (fun c d H => W c d σ H)) : wpAny (model X.prog X.w) X.A (call (.ref f) us (nms.zip ws)) (EP X pins σ Q) X.xe s := by
  refine wpAny_call (codeAny_mono (G.run X.A X.stack s H ⟨us, nms.zip ws⟩ (pickL is (us ++ ws)) (pickL is (vs ++ zs)) Q (fun c d H => W c d σ H) hr I.env0 (.of_eq (hb us ws (r.length.symm.trans l1) (rz.length.symm.trans l2))) (vals_pick (r.append rz) is) h) fun r s' hq => ?_)
  cases r with
  | error e => exact passAt tk σ pins H s e s' I hq
  | ok fl =>
    cases fl with
    | ret u => exact I.after hq
    | next => exact False.elim hq
    | brk => exact False.elim hq
    | cont => exact False.elim hq
theorem de_callKw0 (G : CallKw X.prog X.w X.K X.mg x k ps fn 0 nms is) (hB : BaseOk X.mg X.base) (hr : Room k X.A) (tk : Takes X W) (hg : Gl X x) (hk : DK X W kws ks)
    (hall : (backToKw pos (keywordEach kws X.env)).all (·.1.isSome) = true := by rfl) (hks : (backToKw pos (keywordEach kws X.env)).filterMap (·.1) = nms := by rfl) (hdb : (x == ("__debug__" : Str)) = false := by decide)
    (hpl : ((backTo pos (starEach [] X.env)).any (·.1) || (backToKw pos (keywordEach kws X.env)).any (·.1.isNone)) = false := by rfl) :
    DE X W (.Call (.Name x p) [] kws pos) (eCallK fn 0 nms.length is aNil ks) := by
  obtain ⟨fa, fd, G, m, hk', hb⟩ := G
  refine ⟨fun pins s σ H Q I h => ?_⟩
  obtain ⟨e, F, R, h⟩ := h
  refine wpAny_Call_Name_kw (ld_glob I hg m ?_ hdb)
  refine PySem.W.callWith_KW0 (h₀ := X.base) I.ok.mod.kin hk' hall ?_ hpl
  have h1 : post X.K X.mg W (rV X.K X.mg) F H e σ ((M.bind ks fun rk => fun e => if ([] : List RV).length = 0 ∧ rk.length = nms.length then callK fn (pickL is ([] ++ rk)) e else .bad) e) Q := h
  refine thn (hk.run pos pins s σ H _ I ⟨e, F, R, post_imp (post_seq up_V h1) (fun zs H2 z => z)⟩) fun ws s2 ⟨zs, H2, I2, rz, q2⟩ => ⟨I2.kIn, ?_⟩
  obtain ⟨rk, e2, F2, q2, R2, st2, h2⟩ := q2
  rw [hks]
  split at h2
  · rename_i hl
    have q2 : Args X.K X.mg F2 σ zs rk := q2
    exact run_kw (us := []) (vs := []) (G X.base hB) hr hb tk I2 .nil rz rfl (by rw [q2.len]; exact hl.2) (callK_ok R2 (args_pick (by simpa using q2) is) h2)
  · exact h2.elim
theorem de_callKw (G : CallKw X.prog X.w X.K X.mg x k ps fn n nms is) (hB : BaseOk X.mg X.base) (hr : Room k X.A) (tk : Takes X W) (hg : Gl X x) (ha : DA X W (a :: es) as) (hk : DK X W kws ks)
    (hall : (backToKw pos (keywordEach kws X.env)).all (·.1.isSome) = true := by rfl) (hks : (backToKw pos (keywordEach kws X.env)).filterMap (·.1) = nms := by rfl) (hdb : (x == ("__debug__" : Str)) = false := by decide)
    (he : starEach (a :: es) X.env = (false, eval a X.env) :: starEach es X.env := by rfl) (hpl : ((backTo pos (starEach (a :: es) X.env)).any (·.1) || (backToKw pos (keywordEach kws X.env)).any (·.1.isNone)) = false := by rfl) :
    DE X W (.Call (.Name x p) (a :: es) kws pos) (eCallK fn n nms.length is as ks) := by
  obtain ⟨fa, fd, G, m, hk', hb⟩ := G
  refine ⟨fun pins s σ H Q I h => ?_⟩
  obtain ⟨e, F, R, h⟩ := h
  refine wpAny_Call_Name_kw (ld_glob I hg m ?_ hdb)
  refine PySem.W.callWith_KW (h₀ := X.base) I.ok.mod.kin hk' hall (thn (ha.run pos pins s σ H _ I ⟨e, F, R, post_imp (post_seq up_V h) (fun zs H2 z => z)⟩) fun us s1 ⟨vs, H1, I1, r, q⟩ => ?_) hpl he
  obtain ⟨rs, e1, F1, q1, R1, st1, h1⟩ := q
  refine thn (hk.run pos pins s1 σ H1 _ I1 ⟨e1, F1, R1, post_imp (post_seq up_V h1) (fun zs H2 z => z)⟩) fun ws s2 ⟨zs, H2, I2, rz, q2⟩ => ⟨I2.kIn, ?_⟩
  obtain ⟨rk, e2, F2, q2, R2, st2, h2⟩ := q2
  rw [hks]
  split at h2
  · rename_i hl
    have q1 : Args X.K X.mg F1 σ vs rs := q1
    have q2 : Args X.K X.mg F2 σ zs rk := q2
    exact run_kw (G X.base hB) hr hb tk I2 r rz (by rw [q1.len]; exact hl.1) (by rw [q2.len]; exact hl.2) (callK_ok R2 (args_pick ((Args.mono st2.fro q1).app q2) is) h2)
  · exact h2.elim
end
end Y

set_option Elab.async false
set_option linter.all false
set_option maxRecDepth 100000
set_option maxHeartbeats 4000000
namespace Y
open PySem PySem.Spec L2 He
set_option autoImplicit false
/-! ### where a lambda stands in a text -/
def stAt (b : List Stmt) (i : Nat) : Stmt := b.getD i (.Pass ⟨0, 0, 0, 0⟩)
def eNone : Expr := .Constant .none 0 ⟨0, 0, 0, 0⟩
def stVal : Stmt → Expr
  | .Assign _ v _ => v
  | .Return (some v) _ => v
  | .Expr v _ => v
  | .If c _ _ _ => c
  | _ => eNone
def stBody : Stmt → List Stmt
  | .If _ b _ _ => b
  | .For _ _ b _ _ => b
  | _ => []
def stElse : Stmt → List Stmt
  | .If _ _ b _ => b
  | _ => []
def eKid : Expr → Nat → Expr
  | .Call f _ _ _, 0 => f
  | .Call _ as _ _, n + 1 => as.getD n eNone
  | .Compare a _ _ _, 0 => a
  | .Compare _ _ bs _, n + 1 => bs.getD n eNone
  | .UnaryOp _ a _, _ => a
  | .BoolOp _ as _, n => as.getD n eNone
  | .List as _, n => as.getD n eNone
  | .Tuple as _ _, n => as.getD n eNone
  | .BinOp a _ _ _, 0 => a
  | .BinOp _ _ b _, _ => b
  | _, _ => eNone
def noArgs : Arguments := match (Expr.Lambda default eNone default ⟨0, 0, 0, 0⟩) with
  | .Lambda p _ _ _ => p
  | _ => default
def lamP : Expr → Arguments
  | .Lambda p _ _ _ => p
  | _ => default
def lamB : Expr → Expr
  | .Lambda _ b _ _ => b
  | e => e
def lamS : Expr → Scope
  | .Lambda _ _ s _ => s
  | _ => default
variable [TB]
/-! ### defs that make lambdas -/
def DefAtL (K : PySem.W.Frag) (mg : Mg) (x : Str) (st : Stmt) (ps : List Str) : Prop := ∃ f fd c Pt, FunD K x x (defArgs st) (defBody st) (defScope st) [] [] f fd ∧ mg x = some (.ref f) ∧ BA fd ps ∧ fd.code = .ref c ∧ (c, Pt, x ++ ".<locals>." ++ "<lambda>") ∈ TB.T
theorem DefAtL.okL {P : Program} {w : World} {K : PySem.W.Frag} {mg : Mg} {x : Str} {st : Stmt} {ps : List Str} {k : Nat} {fn : Fn} (d : DefAtL K mg x st ps) (h : ∀ f fd, FunD K x x (defArgs st) (defBody st) (defScope st) [] [] f fd → ∀ c Pt, fd.code = .ref c → (c, Pt, x ++ ".<locals>." ++ "<lambda>") ∈ TB.T → ∀ base, BaseOk mg base → FnOk P w K mg base (L2.CX P w) k f fd ps (cSp K mg fn)) : CallOk P w K mg x k ps fn := by
  obtain ⟨f, fd, c, Pt, F, m, b, hc, hm⟩ := d
  exact ⟨f, fd, h f fd F c Pt hc hm, m, F.kp, b⟩
theorem dss_bad {X : Cx} {W : WX} {b : List Stmt} : DSs X W b M.bad := ⟨fun pins s σ H E I h => by
  obtain ⟨e, F, R, h⟩ := h
  exact h.elim⟩
def codeB (K : PySem.W.Frag) (p : Defn) : Bool := match K.lookup (fAd K p) with
  | some ⟨_, _, .func fd, _⟩ => (match fd.code with
    | .ref c => decide (c = codeOf K p)
    | _ => false)
  | _ => false
theorem codeB_ok {K : PySem.W.Frag} {p : Defn} {x qual : Str} {params : Arguments} {body : List Stmt} {scope : Scope} {dvs : List V} {kws : List (Str × V)} {fd : FuncData} (h : codeB K p = true) (F : FunD K x qual params body scope dvs kws (fAd K p) fd) : fd.code = .ref (codeOf K p) := by
  obtain ⟨oc, od, dV, kV, doc, pm, an, cdv, ct, osl, e, lk, hcd, _, _⟩ := F.ex
  unfold codeB at h
  rw [lk] at h
  dsimp only at h
  split at h
  · rename_i c e
    rw [e, of_decide_eq_true h]
  · cases h
end Y

set_option Elab.async false
set_option linter.all false
set_option maxRecDepth 100000
set_option maxHeartbeats 4000000
namespace Y
open PySem PySem.Spec L2
set_option autoImplicit false
variable [TB]
/-! ### a fresh list, handed to a def that may change it -/
def eCallO (fn : Fn) (f : M RV) : M RV := M.bind f fun r => fun e => match r with
  | .own c => (match fn [.own true c] with
    | .ok (.val d) _ => .ok (.val d) e
    | .ex x _ => .ex x e
    | _ => .bad)
  | _ => .bad
section
variable {X : Cx} {W : WX} {a : Expr} {f : M RV} {fn : Fn} {pos p : Pos} {k : Nat} {ps : List Str} {x : Str}
theorem fresh_back {K : PySem.W.Frag} {mg : Mg} {F0 H0 F H F' H' : Hp} {e0 e sl' : Sl} {σ : L2.St} {b : Addr} {c : Cont} (R : Rel K mg F e σ H) (s1 : Stp F0 H0 e0 σ F H e σ) (hn : ¬ Own e σ b) (hN : NM H0 e0 σ b)
    (s : Stp F H [.own true c] [some (.ref b)] F' H' sl' [some (.ref b)]) (R' : Rel K mg F' sl' [some (.ref b)] H') : Stp F0 H0 e0 σ F' H' e σ ∧ Rel K mg F' e σ H' := by
  have ow : ∀ y, Own [.own true c] [some (.ref b)] y → y = b := fun y ⟨i, fx, cc, h1, h2⟩ => by
    cases i with
    | zero =>
      have : some (V.ref b) = some (V.ref y) := by simpa using h2
      cases this
      rfl
    | succ i => simp at h1
  refine ⟨⟨s1.fro.trans s.fro, fun y o h n m => ?_, fun y h => s1.dom y (s.dom y h), fun y h h' => ?_, s1.newO, s1.fix, s1.len⟩, ⟨R'.sub, R.len, fun i t o es ex => ?_, R.inj, R'.tab, R'.ftb⟩⟩
  · refine s.kept y o (s1.kept y o h n m) (fun z => ?_) m
    rw [ow y z] at h n
    rcases hN with q | q
    · rw [h] at q; cases q
    · exact n q
  · cases q : F y with
    | some o => exact s1.newF y h (by rw [q]; exact fun z => nomatch z)
    | none =>
      rcases s.newF y q h' with z | z
      · exact .inl (s1.dom y z)
      · rw [ow y z]; exact hN
  · have z := R.ok i t o es ex
    cases t with
    | no => trivial
    | val d => obtain ⟨v, z1, z2⟩ := z; exact ⟨v, z1, z2.mono s.fro⟩
    | own fx c1 =>
      obtain ⟨y, o', z1, z2, z3, z4⟩ := z
      have ny : ¬ Own [.own true c] [some (.ref b)] y := fun w => by
        rw [ow y w] at z1
        exact hn ⟨i, fx, c1, es, by rw [ex, z1]⟩
      refine ⟨y, o', z1, ?_, s.kept y o' z3 ny z4.notbl, z4.mono s.fro⟩
      cases w : F' y with
      | none => rfl
      | some u =>
        rcases s.newF y z2 (by rw [w]; exact fun k => nomatch k) with q | q
        · rw [z3] at q; cases q
        · exact absurd q ny
theorem de_callO (G : CallOk X.prog X.w X.K X.mg x k ps fn) (hB : BaseOk X.mg X.base) (hr : Room k X.A) (tk : Takes X W) (hg : Gl X x) (ha : DE X W a f)
    (hdb : (x == ("__debug__" : Str)) = false := by decide) (he : starEach [a] X.env = (false, eval a X.env) :: starEach [] X.env := by rfl) (hpl : (backTo pos (starEach [] X.env)).any (·.1) = false := by rfl) :
    DE X W (.Call (.Name x p) [a] [] pos) (eCallO fn f) := by
  obtain ⟨fa, fd, G, m, hk, hb⟩ := G
  refine peW (pe_callSD (dvs := []) (E := fun σ c d H => W c d σ H) (G X.base hB) hr hg m hk (.all hb) .nil (fun σ => passAt tk σ) (pa_cons ha pa_nil he) hdb he hpl) fun σ H Q ⟨e, F, R, h⟩ => ?_
  refine ⟨e, F, R, post_imp (post_seq0 h) ?_⟩
  rintro v H1 ⟨r, e1, F1, q1, R1, s1, h1⟩
  cases r with
  | val d => exact h1.elim
  | pk i => exact h1.elim
  | own c =>
    obtain ⟨b, o, rfl, hf, hh, hc, hn, hN⟩ := q1
    dsimp only at h1
    show cSp X.K X.mg fn ([V.ref b] ++ []) H1 Q _
    refine ⟨[.own true c], F1, ⟨R1.sub, rfl, fun i t u es ex => ?_, fun i j fx gx cc dd y ei ej si sj => ?_, R1.tab, R1.ftb⟩, rfl, ?_⟩
    · cases i with
      | zero =>
        have e1 : Slot.own true c = t := by simpa using es
        have e2 : some (V.ref b) = u := by simpa using ex
        subst e1 e2
        exact ⟨b, o, rfl, hf, hh, hc⟩
      | succ i => simp at es
    · cases i with
      | zero => cases j with
        | zero => rfl
        | succ j => simp at ej
      | succ i => simp at ei
    · cases w : fn [.own true c] with
      | bad => rw [w] at h1; exact h1.elim
      | ex y sl =>
        rw [w] at h1
        intro cls d F' H' s' R' z
        obtain ⟨s2, R2⟩ := fresh_back R1 s1 hn hN s' R'
        exact h1 cls d F' H' s2 R2 z
      | ok r sl =>
        rw [w] at h1
        cases r with
        | own _ => exact h1.elim
        | pk _ => exact h1.elim
        | val d =>
          intro v F' H' s' R' z
          obtain ⟨s2, R2⟩ := fresh_back R1 s1 hn hN s' R'
          exact h1 v F' H' s2 R2 z
end
end Y

set_option Elab.async false
set_option linter.all false
set_option maxRecDepth 100000
set_option maxHeartbeats 4000000
namespace Y
open PySem PySem.Spec L2
set_option autoImplicit false
variable [TB]
/-! ### reckoning with the newer denotations -/
@[simp] theorem v_lenAL (xs : List D) (e : Sl) : lenA (.lst xs) e = .ok (.val (.int xs.length)) e := id rfl
@[simp] theorem v_lenAT (xs : List D) (e : Sl) : lenA (.tup xs) e = .ok (.val (.int xs.length)) e := id rfl
@[simp] theorem v_lenAK (xs : List (Key × D)) (e : Sl) : lenA (.dK xs) e = .ok (.val (.int xs.length)) e := id rfl
@[simp] theorem v_lenAS (x : Str) (e : Sl) : lenA (.str x) e = gB (decide (x.length ≤ sizeLine)) (.ok (.val (.int x.length)) e) := gB_if _ _
@[simp] theorem v_ixAL (xs : List D) (i : Int) (e : Sl) : ixA (.lst xs) (.int i) e = oB (atI xs i) (okV e) := v_ixL xs i e
@[simp] theorem v_ixAT (xs : List D) (i : Int) (e : Sl) : ixA (.tup xs) (.int i) e = oB (atI xs i) (okV e) := v_ixT xs i e
@[simp] theorem v_ixAI (kvs : List (Key × D)) (i : Int) (e : Sl) : ixA (.dK kvs) (.int i) e = oB (valD kvs (.inl i)) (okV e) := by
  unfold ixA
  dsimp only [keyD]
  cases valD kvs (.inl i) <;> rfl
@[simp] theorem v_ixAS (kvs : List (Key × D)) (i : Str) (e : Sl) : ixA (.dK kvs) (.str i) e = oB (valD kvs (.inr i)) (okV e) := by
  unfold ixA
  dsimp only [keyD]
  cases valD kvs (.inr i) <;> rfl
@[simp] theorem v_inAL (a : D) (xs : List D) (e : Sl) : inA a (.lst xs) e = oB (inL a (.lst xs)) (okB e) := by
  rw [← v_inK]
  cases a <;> rfl
@[simp] theorem v_inAT (a : D) (xs : List D) (e : Sl) : inA a (.tup xs) e = oB (inL a (.tup xs)) (okB e) := by
  rw [← v_inK]
  cases a <;> rfl
@[simp] theorem v_ninAL (a : D) (xs : List D) (e : Sl) : ninA a (.lst xs) e = oB ((inL a (.lst xs)).map not) (okB e) := by
  rw [← v_ninK]
  cases a <;> rfl
@[simp] theorem v_ninAT (a : D) (xs : List D) (e : Sl) : ninA a (.tup xs) e = oB ((inL a (.tup xs)).map not) (okB e) := by
  rw [← v_ninK]
  cases a <;> rfl
@[simp] theorem v_andI (i j : Int) (e : Sl) : andI (.int i) (.int j) e = .ok (.val (.int (Builtin.bitAnd i j))) e := id rfl
@[simp] theorem v_strK (i : Int) (e : Sl) : strK (.int i) e = gB (decide (i.natAbs.log2 < 1920)) (.ok (.val (.str (toString i))) e) := gB_if _ _
@[simp] theorem v_sortedA (xs : List D) (e : Sl) : sortedA (.lst xs) e = gB (decide (okSortA xs = true ∧ xs.length ≤ 10000)) (.ok (.own (.lst (xs.mergeSort leD))) e) := gB_if _ _
@[simp] theorem v_sortLK (xs : List D) (e : Sl) : sortLK (.lst xs) e = gB (decide (okSort xs = true ∧ xs.length ≤ 10000)) (.ok (.own (.lst (xs.mergeSort leLD))) e) := gB_if _ _
/-! pop -/
def popD (i : Nat) (e : Sl) (b : Bool) (xs : List D) (j : Nat) (d : D) : Res RV := .ok (.val d) (e.set i (.own b (.lst (xs.eraseIdx j))))
def popJ (i : Nat) (e : Sl) (b : Bool) (xs : List D) (j : Nat) : Res RV := oB xs[j]? (popD i e b xs j)
@[simp] theorem v_popJ (i : Nat) (e : Sl) (b : Bool) (xs : List D) (j : Nat) : popJ i e b xs j = oB xs[j]? (popD i e b xs j) := id rfl
@[simp] theorem v_popD (i : Nat) (e : Sl) (b : Bool) (xs : List D) (j : Nat) (d : D) : popD i e b xs j d = .ok (.val d) (e.set i (.own b (.lst (xs.eraseIdx j)))) := id rfl
def popS (i : Nat) (e : Sl) (k : Int) : Slot → Res RV
  | .own b (.lst xs) => gB (decide (-(2 ^ 63) ≤ k ∧ k < 2 ^ 63)) (oB (seqIndex? k xs.length) (popJ i e b xs))
  | _ => .bad
@[simp] theorem v_popS (i : Nat) (e : Sl) (k : Int) (b : Bool) (xs : List D) : popS i e k (.own b (.lst xs)) = gB (decide (-(2 ^ 63) ≤ k ∧ k < 2 ^ 63)) (oB (seqIndex? k xs.length) (popJ i e b xs)) := id rfl
def popK (i : Nat) (e : Sl) : D → Res RV
  | .int k => oB e[i]? (popS i e k)
  | _ => .bad
@[simp] theorem v_popK (i : Nat) (e : Sl) (k : Int) : popK i e (.int k) = oB e[i]? (popS i e k) := id rfl
def popC (i : Nat) (r : RV) (e : Sl) : Res RV := oB (rdat e r) (popK i e)
@[simp] theorem v_popC (i : Nat) (r : RV) (e : Sl) : popC i r e = oB (rdat e r) (popK i e) := id rfl
def pop0 (i : Nat) (f : M RV) (e : Sl) : Slot → Res RV
  | .own _ (.lst _) => (f e).bnd (popC i)
  | _ => .bad
@[simp] theorem v_pop0 (i : Nat) (f : M RV) (e : Sl) (b : Bool) (xs : List D) : pop0 i f e (.own b (.lst xs)) = (f e).bnd (popC i) := id rfl
@[simp] theorem v_ePop (i : Nat) (f : M RV) (e : Sl) : ePop i f e = oB e[i]? (pop0 i f e) := by
  unfold ePop
  cases e[i]? with
  | none => rfl
  | some s =>
    cases s with
    | no => rfl
    | val d => rfl
    | own b c =>
      cases c with
      | lst xs =>
        show M.bind f _ e = (f e).bnd (popC i)
        unfold M.bind
        cases f e with
        | bad => rfl
        | ex x e' => rfl
        | ok r e' =>
          show _ = oB (rdat e' r) (popK i e')
          dsimp only
          cases rdat e' r with
          | none => rfl
          | some d =>
            cases d with
            | int k =>
              show _ = oB e'[i]? (popS i e' k)
              cases e'[i]? with
              | none => rfl
              | some s' =>
                cases s' with
                | no => rfl
                | val _ => rfl
                | own b' c' =>
                  cases c' with
                  | lst ys =>
                    show _ = gB _ _
                    dsimp only
                    rw [← gB_if]
                    split
                    · cases seqIndex? k ys.length with
                      | none => rfl
                      | some j =>
                        show _ = oB ys[j]? (popD i e' b' ys j)
                        dsimp only
                        cases ys[j]? <;> rfl
                    · rfl
                  | _ => rfl
            | _ => rfl
      | _ => rfl
/-! fresh lists handed in -/
def coC (fn : Fn) (r : RV) (e : Sl) : Res RV := match r with
  | .own c => (match fn [.own true c] with
    | .ok (.val d) _ => .ok (.val d) e
    | .ex x _ => .ex x e
    | _ => .bad)
  | _ => .bad
theorem v_coC {fn : Fn} {c : Cont} {d : D} {sl : Sl} (e : Sl) (h : fn [.own true c] = .ok (.val d) sl) : coC fn (.own c) e = .ok (.val d) e := by
  unfold coC
  dsimp only
  rw [h]
@[simp] theorem v_eCallO (fn : Fn) (f : M RV) (e : Sl) : eCallO fn f e = (f e).bnd (coC fn) := by
  unfold eCallO M.bind
  cases f e with
  | bad => rfl
  | ex x e' => rfl
  | ok r e' => cases r <;> rfl
/-! keyword calls -/
def ckD (fn : Fn) (n m : Nat) (is : List Nat) (rs rk : List RV) (e : Sl) : Res RV := gB (decide (rs.length = n ∧ rk.length = m)) (callK fn (pickL is (rs ++ rk)) e)
@[simp] theorem v_ckD (fn : Fn) (n m : Nat) (is : List Nat) (rs rk : List RV) (e : Sl) : ckD fn n m is rs rk e = gB (decide (rs.length = n ∧ rk.length = m)) (callK fn (pickL is (rs ++ rk)) e) := id rfl
def ckC (fn : Fn) (n m : Nat) (is : List Nat) (ks : M (List RV)) (rs : List RV) (e : Sl) : Res RV := (ks e).bnd (ckD fn n m is rs)
@[simp] theorem v_ckC (fn : Fn) (n m : Nat) (is : List Nat) (ks : M (List RV)) (rs : List RV) (e : Sl) : ckC fn n m is ks rs e = (ks e).bnd (ckD fn n m is rs) := id rfl
@[simp] theorem v_eCallK (fn : Fn) (n m : Nat) (is : List Nat) (as ks : M (List RV)) (e : Sl) : eCallK fn n m is as ks e = (as e).bnd (ckC fn n m is ks) := by
  unfold eCallK M.bind
  cases as e with
  | bad => rfl
  | ex x e' => rfl
  | ok rs e' =>
    show _ = (ks e').bnd (ckD fn n m is rs)
    dsimp only
    cases ks e' with
    | bad => rfl
    | ex x e2 => rfl
    | ok rk e2 => exact gB_if _ _
/-! comprehensions with two sources -/
section
variable {t t1 : D → M Unit} {p p1 : M Bool} {it1 : M (List D)} {f : M RV} {vs vs1 : List Nat}
def l2d (vs : List Nat) (acc : List D) (e : Sl) : Res (List D) := .ok acc (wip e vs)
@[simp] theorem v_l2d (vs : List Nat) (acc : List D) (e : Sl) : l2d vs acc e = .ok acc (wip e vs) := id rfl
def l2c (t1 : D → M Unit) (p1 : M Bool) (f : M RV) (vs vs1 : List Nat) (acc ds1 : List D) (e : Sl) : Res (List D) := (noEx (lcRun t1 p1 f vs1 ds1 acc (wip e vs1))).bnd (l2d vs)
@[simp] theorem v_l2c (t1 : D → M Unit) (p1 : M Bool) (f : M RV) (vs vs1 : List Nat) (acc ds1 : List D) (e : Sl) : l2c t1 p1 f vs vs1 acc ds1 e = (noEx (lcRun t1 p1 f vs1 ds1 acc (wip e vs1))).bnd (l2d vs) := id rfl
def l2b (it1 : M (List D)) (t1 : D → M Unit) (p1 : M Bool) (f : M RV) (vs vs1 : List Nat) (acc : List D) (c : Bool) (e : Sl) : Res (List D) := match c with
  | true => (noEx (it1 e)).bnd (l2c t1 p1 f vs vs1 acc)
  | false => .ok acc (wip e vs)
@[simp] theorem v_l2bt (it1 : M (List D)) (t1 : D → M Unit) (p1 : M Bool) (f : M RV) (vs vs1 : List Nat) (acc : List D) (e : Sl) : l2b it1 t1 p1 f vs vs1 acc true e = (noEx (it1 e)).bnd (l2c t1 p1 f vs vs1 acc) := id rfl
@[simp] theorem v_l2bf (it1 : M (List D)) (t1 : D → M Unit) (p1 : M Bool) (f : M RV) (vs vs1 : List Nat) (acc : List D) (e : Sl) : l2b it1 t1 p1 f vs vs1 acc false e = .ok acc (wip e vs) := id rfl
def l2a (p : M Bool) (it1 : M (List D)) (t1 : D → M Unit) (p1 : M Bool) (f : M RV) (vs vs1 : List Nat) (acc : List D) (_u : Unit) (e : Sl) : Res (List D) := (noEx (p e)).bnd (l2b it1 t1 p1 f vs vs1 acc)
@[simp] theorem v_l2a (p : M Bool) (it1 : M (List D)) (t1 : D → M Unit) (p1 : M Bool) (f : M RV) (vs vs1 : List Nat) (acc : List D) (u : Unit) (e : Sl) : l2a p it1 t1 p1 f vs vs1 acc u e = (noEx (p e)).bnd (l2b it1 t1 p1 f vs vs1 acc) := id rfl
def l2S (t : D → M Unit) (p : M Bool) (it1 : M (List D)) (t1 : D → M Unit) (p1 : M Bool) (f : M RV) (vs vs1 : List Nat) (d : D) (acc : List D) (e : Sl) : Res (List D) := (noEx (t d e)).bnd (l2a p it1 t1 p1 f vs vs1 acc)
@[simp] theorem v_l2S (t : D → M Unit) (p : M Bool) (it1 : M (List D)) (t1 : D → M Unit) (p1 : M Bool) (f : M RV) (vs vs1 : List Nat) (d : D) (acc : List D) (e : Sl) : l2S t p it1 t1 p1 f vs vs1 d acc e = (noEx (t d e)).bnd (l2a p it1 t1 p1 f vs vs1 acc) := id rfl
theorem l2_step {d : D} {r acc acc' : List D} {e e' : Sl} (h : l2S t p it1 t1 p1 f vs vs1 d acc e = .ok acc' e') : lc2Run t p it1 t1 p1 f vs vs1 (d :: r) acc e = lc2Run t p it1 t1 p1 f vs vs1 r acc' e' := by
  conv => lhs; unfold lc2Run
  unfold l2S at h
  cases w1 : t d e with
  | bad => rw [w1] at h; cases h
  | ex x e1 => rw [w1] at h; cases h
  | ok u e1 =>
    rw [w1] at h
    have h : l2a p it1 t1 p1 f vs vs1 acc u e1 = .ok acc' e' := h
    unfold l2a at h
    dsimp only
    cases w2 : p e1 with
    | bad => rw [w2] at h; cases h
    | ex x e2 => rw [w2] at h; cases h
    | ok c e2 =>
      rw [w2] at h
      have h : l2b it1 t1 p1 f vs vs1 acc c e2 = .ok acc' e' := h
      cases c with
      | false =>
        cases h
        rfl
      | true =>
        have h : (noEx (it1 e2)).bnd (l2c t1 p1 f vs vs1 acc) = .ok acc' e' := h
        dsimp only
        cases w3 : it1 e2 with
        | bad => rw [w3] at h; cases h
        | ex x e3 => rw [w3] at h; cases h
        | ok ds1 e3 =>
          rw [w3] at h
          have h : (noEx (lcRun t1 p1 f vs1 ds1 acc (wip e3 vs1))).bnd (l2d vs) = .ok acc' e' := h
          dsimp only
          cases w4 : lcRun t1 p1 f vs1 ds1 acc (wip e3 vs1) with
          | bad => rw [w4] at h; cases h
          | ex x e4 => rw [w4] at h; cases h
          | ok a4 e4 =>
            rw [w4] at h
            cases h
            rfl
theorem l2_nil {acc : List D} {e : Sl} : lc2Run t p it1 t1 p1 f vs vs1 [] acc e = .ok acc e := id rfl
theorem l2_flat {α : Type} (enc : α → D) (g : α → List D) {e : Sl} : ∀ (xs : List α) (acc : List D), (∀ a ∈ xs, ∀ acc, l2S t p it1 t1 p1 f vs vs1 (enc a) acc e = .ok (acc ++ g a) e) → lc2Run t p it1 t1 p1 f vs vs1 (xs.map enc) acc e = .ok (acc ++ xs.flatMap g) e
  | [], acc, _ => by simp [l2_nil]
  | a :: xs, acc, h => by
    rw [List.map_cons, l2_step (h a List.mem_cons_self acc), l2_flat enc g xs (acc ++ g a) fun b hb => h b (List.mem_cons_of_mem _ hb), List.flatMap_cons, List.append_assoc]
def l2C (e0 : Sl) (vs : List Nat) (acc : List D) (e : Sl) : Res RV := .ok (.own (.lst acc)) (unw e0 e vs)
@[simp] theorem v_l2C (e0 : Sl) (vs : List Nat) (acc : List D) (e : Sl) : l2C e0 vs acc e = .ok (.own (.lst acc)) (unw e0 e vs) := id rfl
def l2B (t : D → M Unit) (p : M Bool) (it1 : M (List D)) (t1 : D → M Unit) (p1 : M Bool) (f : M RV) (vs vs1 : List Nat) (ds : List D) (e : Sl) : Res RV := gB (noOwn e vs) ((noEx (lc2Run t p it1 t1 p1 f vs vs1 ds [] (wip e vs))).bnd (l2C e vs))
@[simp] theorem v_l2B (t : D → M Unit) (p : M Bool) (it1 : M (List D)) (t1 : D → M Unit) (p1 : M Bool) (f : M RV) (vs vs1 : List Nat) (ds : List D) (e : Sl) : l2B t p it1 t1 p1 f vs vs1 ds e = gB (noOwn e vs) ((noEx (lc2Run t p it1 t1 p1 f vs vs1 ds [] (wip e vs))).bnd (l2C e vs)) := id rfl
@[simp] theorem v_eLc2 (it : M (List D)) (t : D → M Unit) (p : M Bool) (it1 : M (List D)) (t1 : D → M Unit) (p1 : M Bool) (f : M RV) (vs vs1 : List Nat) (e : Sl) : eLc2 it t p it1 t1 p1 f vs vs1 e = (it e).bnd (l2B t p it1 t1 p1 f vs vs1) := by
  unfold eLc2 M.bind
  cases it e with
  | bad => rfl
  | ex x e' => rfl
  | ok ds e' =>
    show _ = gB _ _
    dsimp only
    rw [← gB_iff]
    split
    · cases lc2Run t p it1 t1 p1 f vs vs1 ds [] (wip e' vs) <;> rfl
    · rfl
end
end Y
namespace Y
open PySem PySem.Spec L2
set_option autoImplicit false
variable [TB]
/-! ### a slot's own list is told as data, ahead of something -/
def fzO (j : Nat) (e : Sl) : Option Slot → Sl
  | some (.own false c) => e.set j (.val c.dat)
  | _ => e
def fzS (e : Sl) (j : Nat) : Sl := fzO j e e[j]?
@[simp] theorem v_fzS (e : Sl) (j : Nat) : fzS e j = fzO j e e[j]? := id rfl
@[simp] theorem v_fzOo (j : Nat) (e : Sl) (c : Cont) : fzO j e (some (.own false c)) = e.set j (.val c.dat) := id rfl
@[simp] theorem v_fzOv (j : Nat) (e : Sl) (d : D) : fzO j e (some (.val d)) = e := id rfl
@[simp] theorem v_fzOn (j : Nat) (e : Sl) : fzO j e (some .no) = e := id rfl
def eFz {α : Type} (js : List Nat) (f : M α) : M α := fun e => f (js.foldl fzS e)
@[simp] theorem v_eFz {α : Type} (js : List Nat) (f : M α) (e : Sl) : eFz js f e = f (js.foldl fzS e) := id rfl
theorem fz_one {K : PySem.W.Frag} {mg : Mg} {F H : Hp} {e : Sl} {σ : L2.St} (j : Nat) (R : Rel K mg F e σ H) : ∃ F', Stp F H e σ F' H (fzS e j) σ ∧ Rel K mg F' (fzS e j) σ H := by
  unfold fzS
  cases w : e[j]? with
  | none => exact ⟨F, Stp.refl, R⟩
  | some s =>
    cases s with
    | no => exact ⟨F, Stp.refl, R⟩
    | val d => exact ⟨F, Stp.refl, R⟩
    | own b c =>
      cases b with
      | true => exact ⟨F, Stp.refl, R⟩
      | false =>
        obtain ⟨p, o, hp, hH, hc⟩ := own_at R w
        obtain ⟨F', s1, R1, _⟩ := frz_own R w hp (Stp.refl (F := F) (H := H) (e := e) (σ := σ))
        exact ⟨F', s1, R1⟩
theorem fz_all {K : PySem.W.Frag} {mg : Mg} {H : Hp} {σ : L2.St} : ∀ (js : List Nat) {F : Hp} {e : Sl}, Rel K mg F e σ H → ∃ F', Stp F H e σ F' H (js.foldl fzS e) σ ∧ Rel K mg F' (js.foldl fzS e) σ H
  | [], F, e, R => ⟨F, Stp.refl, R⟩
  | j :: js, F, e, R => by
    obtain ⟨F1, s1, R1⟩ := fz_one j R
    obtain ⟨F2, s2, R2⟩ := fz_all js R1
    exact ⟨F2, s1.trans s2, R2⟩
theorem de_fz {X : Cx} {W : WX} {a : Expr} {f : M RV} (js : List Nat) (h : DE X W a f) : DE X W a (eFz js f) := peW h fun σ H Q ⟨e, F, R, z⟩ => by
  obtain ⟨F', s, R'⟩ := fz_all js R
  exact ⟨_, F', R', post_from up_V s z⟩
theorem ds_fz {X : Cx} {W : WX} {a : Stmt} {f : M Flo} (js : List Nat) (h : DS X W a f) : DS X W a (eFz js f) := psW h fun E σ H ⟨e, F, R, z⟩ => by
  obtain ⟨F', s, R'⟩ := fz_all js R
  exact ⟨_, F', R', postS_from s z⟩
end Y

set_option Elab.async false
set_option linter.all false
set_option maxRecDepth 100000
set_option maxHeartbeats 4000000
namespace Lw
open PySem PySem.Spec L2 Y
set_option autoImplicit false
variable [TB]
def topS (i : Nat) : Stmt := PySem.Challenge.pw_crewlags_k23_greatest_cliques_of_graphs.main.body.getD i (.Pass ⟨0, 0, 0, 0⟩)
abbrev s_is_int : Stmt := topS 6
abbrev s_divisor_of : Stmt := topS 7
abbrev s_is_number : Stmt := topS 8
abbrev s_halves_of : Stmt := topS 9
abbrev s_number_of : Stmt := topS 10
abbrev s_plus : Stmt := topS 11
abbrev s_is_less : Stmt := topS 12
abbrev s_is_amount : Stmt := topS 13
abbrev s_sum_of : Stmt := topS 14
abbrev s_is_name : Stmt := topS 26
abbrev s_is_index : Stmt := topS 27
abbrev s_is_pair : Stmt := topS 28
abbrev s_is_row : Stmt := topS 29
abbrev s_closure : Stmt := topS 30
abbrev s_has_ring : Stmt := topS 31
abbrev s_check_names : Stmt := topS 32
abbrev s_check_before : Stmt := topS 33
abbrev s_is_machine : Stmt := topS 34
abbrev s_are_skills : Stmt := topS 35
abbrev s_are_asks : Stmt := topS 36
abbrev s_skills_among : Stmt := topS 37
abbrev s_sets_of : Stmt := topS 38
abbrev s_lacking_skills : Stmt := topS 39
abbrev s_check_crew : Stmt := topS 40
abbrev s_Shape : Stmt := inClass (topS 41) 0
abbrev s_check_shape : Stmt := topS 42
abbrev s_check_durations : Stmt := topS 44
abbrev s_fault_of_row : Stmt := topS 46
abbrev s_check_graph : Stmt := topS 48
abbrev s_cliques_of : Stmt := topS 50
abbrev s_time_in : Stmt := topS 51
abbrev s_time_of : Stmt := topS 52
abbrev s__law_well : Stmt := topS 54
abbrev s__law_draw : Stmt := topS 55
abbrev s__law_pick : Stmt := topS 56
abbrev s__law_row : Stmt := topS 57
abbrev s__law_number : Stmt := topS 58
abbrev s__law_numbers : Stmt := topS 59
abbrev s__law_lengths : Stmt := topS 60
abbrev s__law_sets : Stmt := topS 61
abbrev s__law_is_clique : Stmt := topS 62
abbrev s__law_due : Stmt := topS 63
abbrev s__law_right : Stmt := topS 64
abbrev s_law : Stmt := topS 65
structure Fld_Shape (K : PySem.W.Frag) (C : Addr) : Prop where
  n_names : NoAttr K C "names"
  n_before : NoAttr K C "before"
  n_machines : NoAttr K C "machines"
  n_crew : NoAttr K C "crew"
  n_asks : NoAttr K C "asks"
structure Txt (K : PySem.W.Frag) (mg : Mg) : Prop where
  d_is_int : DefAt K mg "is_int" s_is_int ["value"]
  d_divisor_of : DefAt K mg "divisor_of" s_divisor_of ["one", "other"]
  d_is_number : DefAt K mg "is_number" s_is_number ["value"]
  d_halves_of : DefAt K mg "halves_of" s_halves_of ["number"]
  d_number_of : DefAt K mg "number_of" s_number_of ["top", "bottom"]
  d_plus : DefAt K mg "plus" s_plus ["one", "other"]
  d_is_less : DefAt K mg "is_less" s_is_less ["one", "other"]
  d_is_amount : DefAt K mg "is_amount" s_is_amount ["value"]
  d_sum_of : DefAt K mg "sum_of" s_sum_of ["numbers"]
  d_is_name : DefAt K mg "is_name" s_is_name ["value"]
  d_is_index : DefAt K mg "is_index" s_is_index ["value", "many"]
  d_is_pair : DefAt K mg "is_pair" s_is_pair ["value", "many"]
  d_is_row : DefAt K mg "is_row" s_is_row ["value", "most"]
  d_closure : DefAt K mg "closure" s_closure ["many", "pairs"]
  d_has_ring : DefAt K mg "has_ring" s_has_ring ["many", "pairs"]
  d_check_names : DefAt K mg "check_names" s_check_names ["names"]
  d_check_before : DefAt K mg "check_before" s_check_before ["many", "before"]
  d_is_machine : DefAt K mg "is_machine" s_is_machine ["value", "many"]
  d_are_skills : DefAt K mg "are_skills" s_are_skills ["value"]
  d_are_asks : DefAt K mg "are_asks" s_are_asks ["value"]
  d_skills_among : DefAt K mg "skills_among" s_skills_among ["crew", "asks"]
  d_sets_of : DefAtL K mg "sets_of" s_sets_of ["things"]
  d_lacking_skills : DefAt K mg "lacking_skills" s_lacking_skills ["crew", "asks"]
  d_check_crew : DefAt K mg "check_crew" s_check_crew ["many", "crew", "asks"]
  d_check_shape : DefAt K mg "check_shape" s_check_shape ["shape"]
  d_check_durations : DefAt K mg "check_durations" s_check_durations ["shape", "durations"]
  d_fault_of_row : DefAt K mg "fault_of_row" s_fault_of_row ["value", "is_right"]
  d_check_graph : DefAtL K mg "check_graph" s_check_graph ["shape", "graph"]
  d_cliques_of : DefAt K mg "cliques_of" s_cliques_of ["graph", "many"]
  d_time_in : DefAt K mg "time_in" s_time_in ["graph", "durations"]
  d_time_of : DefAt K mg "time_of" s_time_of ["shape", "graph", "durations"]
  d__law_well : DefAt K mg "_law_well" s__law_well ["_law_script", "_law_k"]
  d__law_draw : DefAt K mg "_law_draw" s__law_draw ["_law_well_here", "_law_many"]
  d__law_pick : DefAt K mg "_law_pick" s__law_pick ["_law_well_here", "_law_some"]
  d__law_row : DefAt K mg "_law_row" s__law_row ["_law_well_here", "_law_many"]
  d__law_number : DefAt K mg "_law_number" s__law_number ["_law_sixths"]
  d__law_numbers : DefAt K mg "_law_numbers" s__law_numbers ["_law_row_here"]
  d__law_lengths : DefAt K mg "_law_lengths" s__law_lengths ["_law_well_here", "_law_many"]
  d__law_sets : DefAt K mg "_law_sets" s__law_sets ["_law_many"]
  d__law_is_clique : DefAt K mg "_law_is_clique" s__law_is_clique ["_law_edges", "_law_some"]
  d__law_due : DefAt K mg "_law_due" s__law_due ["_law_edges", "_law_lengths_here"]
  d__law_right : DefAt K mg "_law_right" s__law_right ["_law_well_here"]
  d_law : DefAt K mg "law" s_law ["_law_script"]
  b_abs : mg "abs" = none
  b_all : mg "all" = none
  b_any : mg "any" = none
  b_bool : mg "bool" = none
  b_dict : mg "dict" = none
  b_enumerate : mg "enumerate" = none
  b_int : mg "int" = none
  b_isinstance : mg "isinstance" = none
  b_len : mg "len" = none
  b_list : mg "list" = none
  b_max : mg "max" = none
  b_min : mg "min" = none
  b_range : mg "range" = none
  b_set : mg "set" = none
  b_sorted : mg "sorted" = none
  b_str : mg "str" = none
  b_sum : mg "sum" = none
  b_tuple : mg "tuple" = none
  g_LETTERS : ∃ t, mg "LETTERS" = some (.str "abcdefghijklmnopqrstuvwxyz" t)
  g_MAX_AMOUNT : ∃ t, mg "MAX_AMOUNT" = some (.int 1000 t)
  g_MAX_ASKS : ∃ t, mg "MAX_ASKS" = some (.int 3 t)
  g_MAX_MACHINES : ∃ t, mg "MAX_MACHINES" = some (.int 4 t)
  g_MAX_MANY : ∃ t, mg "MAX_MANY" = some (.int 7 t)
  g_MAX_NAME : ∃ t, mg "MAX_NAME" = some (.int 12 t)
  g_MAX_PAIRS : ∃ t, mg "MAX_PAIRS" = some (.int 30 t)
  g_MAX_SKILLS : ∃ t, mg "MAX_SKILLS" = some (.int 5 t)
  g_MAX_WORKERS : ∃ t, mg "MAX_WORKERS" = some (.int 8 t)
  g_SIGNS : ∃ t, mg "SIGNS" = some (.str "abcdefghijklmnopqrstuvwxyz0123456789-" t)
  c_Shape : ∃ C, ClsF K mg "Shape" C ∧ Fld_Shape K C
  i_Shape : ∃ C f fd, mg "Shape" = some (.ref C) ∧ Mk K C f ∧ (∃ kws, FunD K "__init__" "Shape.__init__" (defArgs s_Shape) (defBody s_Shape) (defScope s_Shape) [] kws f fd) ∧ FormOk K mg fd ["self", "names", "before", "machines", "crew", "asks"] 1 [] (fun a b => pickL [0, 1, 2, 3, 4] (a ++ b ++ [.tup [], .tup [], .tup [], .tup []]))
theorem sc_is_int : FnScope ["value"] ["value"] (defScope s_is_int) := ⟨rfl, rfl, rfl, by decide +kernel, rfl, by decide +kernel, by decide +kernel⟩
def dn_is_int : M Flo :=
  sRet (eAnd (rd1 (eVar 0) (isiK ["int"])) (eNot (rd1 (eVar 0) (isiK ["bool"]))))
def fn_is_int : Fn := fnD 1 1 dn_is_int
theorem sc_divisor_of : FnScope ["one", "other"] ["one", "other"] (defScope s_divisor_of) := ⟨rfl, rfl, rfl, by decide +kernel, rfl, by decide +kernel, by decide +kernel⟩
noncomputable def wc_divisor_of_1 (e : Sl) : Res Bool :=
  (asB (rd2 (eVar 1) (eC (.int 0)) neK)) e
noncomputable def wb_divisor_of_1 (e : Sl) : Res Flo :=
  (sPar [0, 1] (aCons (aO (eVar 1)) (aCons (aO (rd2 (eVar 0) (eVar 1) modI)) (aNil)))) e
noncomputable def dn_divisor_of : M Flo :=
  sSeq (sWhile (wc_divisor_of_1)
  (wb_divisor_of_1))
  (sRet (rd1 (eVar 0) absK))
noncomputable def fn_divisor_of : Fn := fnD 2 2 dn_divisor_of
theorem sc_is_number : FnScope ["value"] ["value"] (defScope s_is_number) := ⟨rfl, rfl, rfl, by decide +kernel, rfl, by decide +kernel, by decide +kernel⟩
noncomputable def dn_is_number : M Flo :=
  sSeq (sIf (asB (eCall fn_is_int (aCons (aV (eVar 0)) (aNil))))
  (sRet (eC (.bl true)))
  (sNil))
  (sSeq (sIf (mOr (mNot (asB (rd1 (eVar 0) (isiK ["tuple"])))) (mOr (asB (rd2 (rd1 (eVar 0) lenA) (eC (.int 2)) neK)) (mOr (mNot (asB (eCall fn_is_int (aCons (aV (rd2 (eVar 0) (eC (.int 0)) ixA)) (aNil))))) (mNot (asB (eCall fn_is_int (aCons (aV (rd2 (eVar 0) (eC (.int 1)) ixA)) (aNil))))))))
  (sRet (eC (.bl false)))
  (sNil))
  (sRet (eAnd (rd2 (rd2 (eVar 0) (eC (.int 1)) ixA) (eC (.int 1)) gtI) (rd2 (eCall fn_divisor_of (aCons (aV (rd2 (eVar 0) (eC (.int 0)) ixA)) (aCons (aV (rd2 (eVar 0) (eC (.int 1)) ixA)) (aNil)))) (eC (.int 1)) eqK))))
noncomputable def fn_is_number : Fn := fnD 1 1 dn_is_number
theorem sc_halves_of : FnScope ["number"] ["number"] (defScope s_halves_of) := ⟨rfl, rfl, rfl, by decide +kernel, rfl, by decide +kernel, by decide +kernel⟩
def dn_halves_of : M Flo :=
  sRet (eIf (asB (rd1 (eVar 0) (isiK ["int"]))) (eTup (aCons (aV (eVar 0)) (aCons (aV (eC (.int 1))) (aNil)))) (eVar 0))
def fn_halves_of : Fn := fnD 1 1 dn_halves_of
theorem sc_number_of : FnScope ["top", "bottom", "divisor"] ["top", "bottom"] (defScope s_number_of) := ⟨rfl, rfl, rfl, by decide +kernel, rfl, by decide +kernel, by decide +kernel⟩
noncomputable def dn_number_of : M Flo :=
  sSeq (sIf (asB (rd2 (eVar 1) (eC (.int 0)) ltI))
  (sPar [0, 1] (aCons (aO (rd1 (eVar 0) negI)) (aCons (aO (rd1 (eVar 1) negI)) (aNil))))
  (sNil))
  (sSeq (sIf (asB (rd2 (eVar 1) (eC (.int 1)) eqK))
  (sRet (eVar 0))
  (sNil))
  (sSeq (sSet 2 (eCall fn_divisor_of (aCons (aV (eVar 0)) (aCons (aV (eVar 1)) (aNil)))))
  (sRet (eIf (asB (rd2 (eVar 1) (eVar 2) eqK)) (rd2 (eVar 0) (eVar 2) fdivI) (eTup (aCons (aV (rd2 (eVar 0) (eVar 2) fdivI)) (aCons (aV (rd2 (eVar 1) (eVar 2) fdivI)) (aNil))))))))
noncomputable def fn_number_of : Fn := fnD 2 3 dn_number_of
theorem sc_plus : FnScope ["one", "other", "top", "bottom", "more", "below"] ["one", "other"] (defScope s_plus) := ⟨rfl, rfl, rfl, by decide +kernel, rfl, by decide +kernel, by decide +kernel⟩
noncomputable def dn_plus : M Flo :=
  sSeq (sIf (mAnd (asB (rd1 (eVar 0) (isiK ["int"]))) (asB (rd1 (eVar 1) (isiK ["int"]))))
  (sRet (rd2 (eVar 0) (eVar 1) addK))
  (sNil))
  (sSeq (sAsg (eCall fn_halves_of (aCons (aV (eVar 0)) (aNil))) (tTupD 2 (tsCons (tName 2) (tsCons (tName 3) (tsNil)))))
  (sSeq (sAsg (eCall fn_halves_of (aCons (aV (eVar 1)) (aNil))) (tTupD 2 (tsCons (tName 4) (tsCons (tName 5) (tsNil)))))
  (sRet (eCall fn_number_of (aCons (aV (rd2 (rd2 (eVar 2) (eVar 5) mulK) (rd2 (eVar 4) (eVar 3) mulK) addK)) (aCons (aV (rd2 (eVar 3) (eVar 5) mulK)) (aNil)))))))
noncomputable def fn_plus : Fn := fnD 2 6 dn_plus
theorem sc_is_less : FnScope ["one", "other", "top", "bottom", "more", "below"] ["one", "other"] (defScope s_is_less) := ⟨rfl, rfl, rfl, by decide +kernel, rfl, by decide +kernel, by decide +kernel⟩
def dn_is_less : M Flo :=
  sSeq (sAsg (eCall fn_halves_of (aCons (aV (eVar 0)) (aNil))) (tTupD 2 (tsCons (tName 2) (tsCons (tName 3) (tsNil)))))
  (sSeq (sAsg (eCall fn_halves_of (aCons (aV (eVar 1)) (aNil))) (tTupD 2 (tsCons (tName 4) (tsCons (tName 5) (tsNil)))))
  (sRet (rd2 (rd2 (eVar 2) (eVar 5) mulK) (rd2 (eVar 4) (eVar 3) mulK) ltI)))
def fn_is_less : Fn := fnD 2 6 dn_is_less
theorem sc_is_amount : FnScope ["value"] ["value"] (defScope s_is_amount) := ⟨rfl, rfl, rfl, by decide +kernel, rfl, by decide +kernel, by decide +kernel⟩
noncomputable def dn_is_amount : M Flo :=
  sRet (eAnd (eCall fn_is_number (aCons (aV (eVar 0)) (aNil))) (rd2 (rd2 (eCall fn_halves_of (aCons (aV (eVar 0)) (aNil))) (eC (.int 0)) ixA) (eC (.int 0)) geI))
noncomputable def fn_is_amount : Fn := fnD 1 1 dn_is_amount
theorem sc_sum_of : FnScope ["numbers", "found", "number"] ["numbers"] (defScope s_sum_of) := ⟨rfl, rfl, rfl, by decide +kernel, rfl, by decide +kernel, by decide +kernel⟩
noncomputable def lb_sum_of_1 (e : Sl) : Res Flo :=
  (sSet 1 (eCall fn_plus (aCons (aV (eVar 1)) (aCons (aV (eVar 2)) (aNil))))) e
noncomputable def dn_sum_of : M Flo :=
  sSeq (sSet 1 (eC (.int 0)))
  (sSeq (sFor (itSeq (eVar 0)) (tName 2)
  (lb_sum_of_1))
  (sRet (eVar 1)))
noncomputable def fn_sum_of : Fn := fnD 1 3 dn_sum_of
theorem sc_is_name : FnScope ["value", "sign"] ["value"] (defScope s_is_name) := ⟨rfl, rfl, rfl, by decide +kernel, rfl, by decide +kernel, by decide +kernel⟩
def le_is_name_1 (e : Sl) : Res RV :=
  (rd2 (eVar 1) (eC (.str "abcdefghijklmnopqrstuvwxyz0123456789-")) inA) e
def dn_is_name : M Flo :=
  sSeq (sIf (mOr (mNot (asB (rd1 (eVar 0) (isiK ["str"])))) (mOr (mNot (asB (chI (fun i j => decide (i ≤ j)) (fun i j => decide (i ≤ j)) (eC (.int 1)) (rd1 (eVar 0) lenA) (eC (.int 12))))) (asB (rd2 (rd2 (eVar 0) (eC (.int 0)) ixA) (eC (.str "abcdefghijklmnopqrstuvwxyz")) ninA))))
  (sRet (eC (.bl false)))
  (sNil))
  (sRet (rd1 (eLc (itStr (eVar 0)) (tName 1) (tYesD) (le_is_name_1) [1]) allK))
def fn_is_name : Fn := fnD 1 2 dn_is_name
theorem sc_is_index : FnScope ["value", "many"] ["value", "many"] (defScope s_is_index) := ⟨rfl, rfl, rfl, by decide +kernel, rfl, by decide +kernel, by decide +kernel⟩
def dn_is_index : M Flo :=
  sRet (eAnd (eCall fn_is_int (aCons (aV (eVar 0)) (aNil))) (chI (fun i j => decide (i ≤ j)) (fun i j => decide (i < j)) (eC (.int 0)) (eVar 0) (eVar 1)))
def fn_is_index : Fn := fnD 2 2 dn_is_index
theorem sc_is_pair : FnScope ["value", "many", "one"] ["value", "many"] (defScope s_is_pair) := ⟨rfl, rfl, rfl, by decide +kernel, rfl, by decide +kernel, by decide +kernel⟩
def le_is_pair_1 (e : Sl) : Res RV :=
  (eCall fn_is_index (aCons (aV (eVar 2)) (aCons (aV (eVar 1)) (aNil)))) e
def dn_is_pair : M Flo :=
  sSeq (sIf (mOr (mNot (asB (rd1 (eVar 0) (isiK ["tuple"])))) (mOr (asB (rd2 (rd1 (eVar 0) lenA) (eC (.int 2)) neK)) (mNot (asB (rd1 (eLc (itSeq (eVar 0)) (tName 2) (tYesD) (le_is_pair_1) [2]) allK)))))
  (sRet (eC (.bl false)))
  (sNil))
  (sRet (rd2 (rd2 (eVar 0) (eC (.int 0)) ixA) (rd2 (eVar 0) (eC (.int 1)) ixA) neK))
def fn_is_pair : Fn := fnD 2 3 dn_is_pair
theorem sc_is_row : FnScope ["value", "most"] ["value", "most"] (defScope s_is_row) := ⟨rfl, rfl, rfl, by decide +kernel, rfl, by decide +kernel, by decide +kernel⟩
def dn_is_row : M Flo :=
  sRet (eAnd (rd1 (eVar 0) (isiK ["list", "tuple"])) (rd2 (rd1 (eVar 0) lenA) (eVar 1) leI))
def fn_is_row : Fn := fnD 2 2 dn_is_row
theorem sc_closure : FnScope ["many", "pairs", "after", "index", "pair", "middle"] ["many", "pairs"] (defScope s_closure) := ⟨rfl, rfl, rfl, by decide +kernel, rfl, by decide +kernel, by decide +kernel⟩
def lp_closure_1 (e : Sl) : Res Bool :=
  (asB (rd2 (rd2 (eVar 4) (eC (.int 0)) ixA) (eVar 3) eqK)) e
def le_closure_1 (e : Sl) : Res RV :=
  (rd2 (eVar 4) (eC (.int 1)) ixA) e
def le_closure_2 (e : Sl) : Res RV :=
  (eTup (aCons (aV (eVar 3)) (aCons (aV (eLc (itSeq (eVar 1)) (tName 4) (lp_closure_1) (le_closure_1) [4])) (aNil)))) e
def lb_closure_1 (e : Sl) : Res Flo :=
  (sIf (asB (rd2 (eVar 5) (rd2 (eVar 2) (eVar 3) ixA) inA))
  (sSetKey 2 (rd2 (rd2 (eVar 2) (eVar 3) ixA) (rd2 (eVar 2) (eVar 5) ixA) addK) (eVar 3))
  (sNil)) e
def lb_closure_2 (e : Sl) : Res Flo :=
  (sFor (itW1 (eVar 0)) (tName 3)
  (lb_closure_1)) e
def le_closure_3 (e : Sl) : Res RV :=
  (eTup (aCons (aV (eVar 3)) (aCons (aV (rd1 (rd2 (eVar 2) (eVar 3) ixA) ssK)) (aNil)))) e
def dn_closure : M Flo :=
  sSeq (sSet 2 (rd1 (eFz [3] (eLc (itW1 (eVar 0)) (tName 3) (tYesD) (le_closure_2) [3])) dictK))
  (sSeq (sFor (itW1 (eVar 0)) (tName 5)
  (lb_closure_2))
  (sRet (rd1 (eFz [3] (eLc (itW1 (eVar 0)) (tName 3) (tYesD) (le_closure_3) [3])) dictK)))
def fn_closure : Fn := fnD 2 6 dn_closure
theorem sc_has_ring : FnScope ["many", "pairs", "after", "index"] ["many", "pairs"] (defScope s_has_ring) := ⟨rfl, rfl, rfl, by decide +kernel, rfl, by decide +kernel, by decide +kernel⟩
def le_has_ring_1 (e : Sl) : Res RV :=
  (rd2 (eVar 3) (rd2 (eVar 2) (eVar 3) ixA) inA) e
def dn_has_ring : M Flo :=
  sSeq (sSet 2 (eCall fn_closure (aCons (aV (eVar 0)) (aCons (aV (eVar 1)) (aNil)))))
  (sRet (rd1 (eLc (itW1 (eVar 0)) (tName 3) (tYesD) (le_has_ring_1) [3]) anyK))
def fn_has_ring : Fn := fnD 2 4 dn_has_ring
theorem sc_check_names : FnScope ["names", "index", "name"] ["names"] (defScope s_check_names) := ⟨rfl, rfl, rfl, by decide +kernel, rfl, by decide +kernel, by decide +kernel⟩
def lb_check_names_1 (e : Sl) : Res Flo :=
  (sIf (mOr (mNot (asB (eCall fn_is_name (aCons (aV (eVar 2)) (aNil))))) (asB (rd2 (eVar 2) (eSl (eVar 0) (oNo) (oSome (eVar 1))) inA)))
  (sBad)
  (sNil)) e
def dn_check_names : M Flo :=
  sSeq (sIf (mOr (mNot (asB (eCall fn_is_row (aCons (aV (eVar 0)) (aCons (aV (eC (.int 7))) (aNil)))))) (asB (rd2 (rd1 (eVar 0) lenA) (eC (.int 0)) eqK)))
  (sBad)
  (sNil))
  (sFor (itEnum (eVar 0)) (tTupD 2 (tsCons (tName 1) (tsCons (tName 2) (tsNil))))
  (lb_check_names_1))
def fn_check_names : Fn := fnD 1 3 dn_check_names
theorem sc_check_before : FnScope ["many", "before", "index", "pair"] ["many", "before"] (defScope s_check_before) := ⟨rfl, rfl, rfl, by decide +kernel, rfl, by decide +kernel, by decide +kernel⟩
def lb_check_before_1 (e : Sl) : Res Flo :=
  (sIf (mOr (mNot (asB (eCall fn_is_pair (aCons (aV (eVar 3)) (aCons (aV (eVar 0)) (aNil)))))) (asB (eCall fn_has_ring (aCons (aV (eVar 0)) (aCons (aV (eSl (eVar 1) (oNo) (oSome (rd2 (eVar 2) (eC (.int 1)) addK)))) (aNil))))))
  (sBad)
  (sNil)) e
def dn_check_before : M Flo :=
  sSeq (sIf (mNot (asB (eCall fn_is_row (aCons (aV (eVar 1)) (aCons (aV (eC (.int 30))) (aNil))))))
  (sBad)
  (sNil))
  (sFor (itEnum (eVar 1)) (tTupD 2 (tsCons (tName 2) (tsCons (tName 3) (tsNil))))
  (lb_check_before_1))
def fn_check_before : Fn := fnD 2 4 dn_check_before
theorem sc_is_machine : FnScope ["value", "many", "demands", "one"] ["value", "many"] (defScope s_is_machine) := ⟨rfl, rfl, rfl, by decide +kernel, rfl, by decide +kernel, by decide +kernel⟩
def le_is_machine_1 (e : Sl) : Res RV :=
  (eCall fn_is_index (aCons (aV (eVar 3)) (aCons (aV (rd2 (rd2 (eVar 0) (eC (.int 0)) ixA) (eC (.int 1)) addK)) (aNil)))) e
def dn_is_machine : M Flo :=
  sSeq (sIf (mOr (mNot (asB (rd1 (eVar 0) (isiK ["tuple"])))) (mOr (asB (rd2 (rd1 (eVar 0) lenA) (eC (.int 2)) neK)) (mNot (asB (eCall fn_is_index (aCons (aV (rd2 (eVar 0) (eC (.int 0)) ixA)) (aCons (aV (rd2 (eC (.int 1000)) (eC (.int 1)) addK)) (aNil))))))))
  (sRet (eC (.bl false)))
  (sNil))
  (sSeq (sSet 2 (rd2 (eVar 0) (eC (.int 1)) ixA))
  (sSeq (sIf (mOr (mNot (asB (rd1 (eVar 2) (isiK ["tuple"])))) (asB (rd2 (rd1 (eVar 2) lenA) (eVar 1) neK)))
  (sRet (eC (.bl false)))
  (sNil))
  (sRet (rd1 (eLc (itSeq (eVar 2)) (tName 3) (tYesD) (le_is_machine_1) [3]) allK))))
def fn_is_machine : Fn := fnD 2 4 dn_is_machine
theorem sc_are_skills : FnScope ["value", "one"] ["value"] (defScope s_are_skills) := ⟨rfl, rfl, rfl, by decide +kernel, rfl, by decide +kernel, by decide +kernel⟩
def le_are_skills_1 (e : Sl) : Res RV :=
  (eCall fn_is_name (aCons (aV (eVar 1)) (aNil))) e
def dn_are_skills : M Flo :=
  sSeq (sIf (mOr (mNot (asB (rd1 (eVar 0) (isiK ["tuple"])))) (mOr (asB (rd2 (rd1 (eVar 0) lenA) (eC (.int 5)) gtI)) (mNot (asB (rd1 (eLc (itSeq (eVar 0)) (tName 1) (tYesD) (le_are_skills_1) [1]) allK)))))
  (sRet (eC (.bl false)))
  (sNil))
  (sRet (rd2 (rd1 (eVar 0) lsK) (rd1 (eVar 0) lenA) eqK))
def fn_are_skills : Fn := fnD 1 2 dn_are_skills
theorem sc_are_asks : FnScope ["value", "one"] ["value"] (defScope s_are_asks) := ⟨rfl, rfl, rfl, by decide +kernel, rfl, by decide +kernel, by decide +kernel⟩
def lb_are_asks_1 (e : Sl) : Res Flo :=
  (sSeq (sIf (mOr (mNot (asB (rd1 (eVar 1) (isiK ["tuple"])))) (mOr (asB (rd2 (rd1 (eVar 1) lenA) (eC (.int 2)) neK)) (mOr (mNot (asB (eCall fn_is_name (aCons (aV (rd2 (eVar 1) (eC (.int 0)) ixA)) (aNil))))) (mNot (asB (eCall fn_is_int (aCons (aV (rd2 (eVar 1) (eC (.int 1)) ixA)) (aNil))))))))
  (sRet (eC (.bl false)))
  (sNil))
  (sIf (mNot (asB (chI (fun i j => decide (i ≤ j)) (fun i j => decide (i ≤ j)) (eC (.int 1)) (rd2 (eVar 1) (eC (.int 1)) ixA) (eC (.int 8)))))
  (sRet (eC (.bl false)))
  (sNil))) e
def le_are_asks_1 (e : Sl) : Res RV :=
  (rd2 (eVar 1) (eC (.int 0)) ixA) e
def dn_are_asks : M Flo :=
  sSeq (sIf (mOr (mNot (asB (rd1 (eVar 0) (isiK ["tuple"])))) (asB (rd2 (rd1 (eVar 0) lenA) (eC (.int 3)) gtI)))
  (sRet (eC (.bl false)))
  (sNil))
  (sSeq (sFor (itSeq (eVar 0)) (tName 1)
  (lb_are_asks_1))
  (sRet (rd2 (rd1 (eFz [1] (eLc (itSeq (eVar 0)) (tName 1) (tYesD) (le_are_asks_1) [1])) lsK) (rd1 (eVar 0) lenA) eqK)))
def fn_are_asks : Fn := fnD 1 2 dn_are_asks
theorem sc_skills_among : FnScope ["crew", "asks", "known", "worker", "skill", "some", "one"] ["crew", "asks"] (defScope s_skills_among) := ⟨rfl, rfl, rfl, by decide +kernel, rfl, by decide +kernel, by decide +kernel⟩
def li_skills_among_1 (e : Sl) : Res (List D) :=
  (itSeq (eVar 3)) e
def le_skills_among_1 (e : Sl) : Res RV :=
  (eVar 4) e
def li_skills_among_2 (e : Sl) : Res (List D) :=
  (itSeq (eVar 5)) e
def le_skills_among_2 (e : Sl) : Res RV :=
  (rd2 (eVar 6) (eC (.int 0)) ixA) e
def dn_skills_among : M Flo :=
  sSeq (sSet 2 (eLc2 (itSeq (eVar 0)) (tName 3) (tYesD) (li_skills_among_1) (tName 4) (tYesD) (le_skills_among_1) [3, 4] [4]))
  (sRet (rd1 (rd2 (eVar 2) (eLc2 (itSeq (eVar 1)) (tName 5) (tYesD) (li_skills_among_2) (tName 6) (tYesD) (le_skills_among_2) [5, 6] [6]) addK) ssK))
def fn_skills_among : Fn := fnD 2 7 dn_skills_among
theorem sc_sets_of : FnScope ["things", "found", "thing", "one"] ["things"] (defScope s_sets_of) := ⟨rfl, rfl, rfl, by decide +kernel, rfl, by decide +kernel, by decide +kernel⟩
def le_sets_of_1 (e : Sl) : Res RV :=
  (rd2 (eVar 3) (eTup (aCons (aV (eVar 2)) (aNil))) addK) e
def lb_sets_of_1 (e : Sl) : Res Flo :=
  (sSet 1 (rd2 (eVar 1) (eLc (itSeq (eVar 1)) (tName 3) (tYesD) (le_sets_of_1) [3]) addK)) e
def dn_sets_of : M Flo :=
  sSeq (sSet 1 (eLst (aCons (aV (eTup (aNil))) (aNil))))
  (sSeq (sFor (itSeq (eVar 0)) (tName 2)
  (lb_sets_of_1))
  (sRet (rd1 (eVar 1) sortLK)))
def fn_sets_of : Fn := fnD 1 4 dn_sets_of
theorem sc_lacking_skills : FnScope ["crew", "asks", "skills", "asked", "some", "one", "worker", "skill"] ["crew", "asks"] (defScope s_lacking_skills) := ⟨rfl, rfl, rfl, by decide +kernel, rfl, by decide +kernel, by decide +kernel⟩
def li_lacking_skills_1 (e : Sl) : Res (List D) :=
  (itSeq (eVar 4)) e
def lp_lacking_skills_1 (e : Sl) : Res Bool :=
  (asB (rd2 (rd2 (eVar 5) (eC (.int 0)) ixA) (eVar 2) inA)) e
def le_lacking_skills_1 (e : Sl) : Res RV :=
  (rd2 (eVar 5) (eC (.int 1)) ixA) e
def le_lacking_skills_2 (e : Sl) : Res RV :=
  (rd2 (eVar 7) (eVar 2) inA) e
def lp_lacking_skills_2 (e : Sl) : Res Bool :=
  (asB (rd1 (eLc (itSeq (eVar 6)) (tName 7) (tYesD) (le_lacking_skills_2) [7]) anyK)) e
def le_lacking_skills_3 (e : Sl) : Res RV :=
  (eVar 6) e
def lb_lacking_skills_1 (e : Sl) : Res Flo :=
  (sSeq (sSet 3 (rd1 (eLc2 (itSeq (eVar 1)) (tName 4) (tYesD) (li_lacking_skills_1) (tName 5) (lp_lacking_skills_1) (le_lacking_skills_1) [4, 5] [5]) sumK))
  (sIf (asB (rd2 (eVar 3) (rd1 (eLc (itSeq (eVar 0)) (tName 6) (lp_lacking_skills_2) (le_lacking_skills_3) [6]) lenA) gtI))
  (sRet (eVar 2))
  (sNil))) e
def dn_lacking_skills : M Flo :=
  sSeq (sFor (itSeq (eCall fn_sets_of (aCons (aV (eCall fn_skills_among (aCons (aV (eVar 0)) (aCons (aV (eVar 1)) (aNil))))) (aNil)))) (tName 2)
  (lb_lacking_skills_1))
  (sRet (eC .non))
def fn_lacking_skills : Fn := fnD 2 8 dn_lacking_skills
theorem sc_check_crew : FnScope ["many", "crew", "asks", "index", "worker", "some"] ["many", "crew", "asks"] (defScope s_check_crew) := ⟨rfl, rfl, rfl, by decide +kernel, rfl, by decide +kernel, by decide +kernel⟩
def lb_check_crew_1 (e : Sl) : Res Flo :=
  (sIf (mOr (mNot (asB (eCall fn_are_skills (aCons (aV (eVar 4)) (aNil))))) (asB (rd2 (rd1 (eCall fn_skills_among (aCons (aV (eSl (eVar 1) (oNo) (oSome (rd2 (eVar 3) (eC (.int 1)) addK)))) (aCons (aV (eTup (aNil))) (aNil)))) lenA) (eC (.int 5)) gtI)))
  (sBad)
  (sNil)) e
def lb_check_crew_2 (e : Sl) : Res Flo :=
  (sSeq (sIf (mOr (mNot (asB (eCall fn_are_asks (aCons (aV (eVar 5)) (aNil))))) (asB (rd2 (rd1 (eCall fn_skills_among (aCons (aV (eVar 1)) (aCons (aV (eSl (eVar 2) (oNo) (oSome (rd2 (eVar 3) (eC (.int 1)) addK)))) (aNil)))) lenA) (eC (.int 5)) gtI)))
  (sBad)
  (sNil))
  (sIf (asB (rd1 (eCall fn_lacking_skills (aCons (aV (eVar 1)) (aCons (aV (eTup (aCons (aV (eVar 5)) (aNil)))) (aNil)))) notN))
  (sBad)
  (sNil))) e
def dn_check_crew : M Flo :=
  sSeq (sIf (mNot (asB (eCall fn_is_row (aCons (aV (eVar 1)) (aCons (aV (eC (.int 8))) (aNil))))))
  (sBad)
  (sNil))
  (sSeq (sFor (itEnum (eVar 1)) (tTupD 2 (tsCons (tName 3) (tsCons (tName 4) (tsNil))))
  (lb_check_crew_1))
  (sSeq (sIf (mOr (mNot (asB (eCall fn_is_row (aCons (aV (eVar 2)) (aCons (aV (eC (.int 7))) (aNil)))))) (asB (rd2 (rd1 (eVar 2) lenA) (eTup (aCons (aV (eC (.int 0))) (aCons (aV (eVar 0)) (aNil)))) ninA)))
  (sBad)
  (sNil))
  (sFor (itEnum (eVar 2)) (tTupD 2 (tsCons (tName 3) (tsCons (tName 5) (tsNil))))
  (lb_check_crew_2))))
def fn_check_crew : Fn := fnD 3 6 dn_check_crew
theorem sc_Shape : FnScope ["self", "names", "before", "machines", "crew", "asks", "index", "machine"] ["self", "names", "before", "machines", "crew", "asks"] (defScope s_Shape) := ⟨rfl, rfl, rfl, by decide +kernel, rfl, by decide +kernel, by decide +kernel⟩
def lb_Shape_1 (e : Sl) : Res Flo :=
  (sIf (mNot (asB (eCall fn_is_machine (aCons (aV (eVar 7)) (aCons (aV (rd1 (eVar 1) lenA)) (aNil))))))
  (sBad)
  (sNil)) e
def dn_Shape : M Flo :=
  sSeq (sExpr (eCall fn_check_names (aCons (aV (eVar 1)) (aNil))))
  (sSeq (sExpr (eCall fn_check_before (aCons (aV (rd1 (eVar 1) lenA)) (aCons (aV (eVar 2)) (aNil)))))
  (sSeq (sIf (mNot (asB (eCall fn_is_row (aCons (aV (eVar 3)) (aCons (aV (eC (.int 4))) (aNil))))))
  (sBad)
  (sNil))
  (sSeq (sFor (itEnum (eVar 3)) (tTupD 2 (tsCons (tName 6) (tsCons (tName 7) (tsNil))))
  (lb_Shape_1))
  (sSeq (sExpr (eCall fn_check_crew (aCons (aV (rd1 (eVar 1) lenA)) (aCons (aV (eVar 4)) (aCons (aV (eVar 5)) (aNil))))))
  (sSeq (sFldSet 0 "Shape" "names" (rd1 (eVar 1) tupK))
  (sSeq (sFldSet 0 "Shape" "before" (rd1 (eVar 2) tupK))
  (sSeq (sFldSet 0 "Shape" "machines" (rd1 (eVar 3) tupK))
  (sSeq (sFldSet 0 "Shape" "crew" (rd1 (eVar 4) tupK))
  (sFldSet 0 "Shape" "asks" (rd1 (eVar 5) tupK))))))))))
def fn_Shape : Fn := fnD 6 8 dn_Shape
theorem sc_check_shape : FnScope ["shape"] ["shape"] (defScope s_check_shape) := ⟨rfl, rfl, rfl, by decide +kernel, rfl, by decide +kernel, by decide +kernel⟩
def dn_check_shape : M Flo :=
  sIf (mNot (asB (rd1 (eVar 0) (isiC "Shape"))))
  (sBad)
  (sNil)
def fn_check_shape : Fn := fnD 1 1 dn_check_shape
theorem sc_check_durations : FnScope ["shape", "durations", "index", "one"] ["shape", "durations"] (defScope s_check_durations) := ⟨rfl, rfl, rfl, by decide +kernel, rfl, by decide +kernel, by decide +kernel⟩
noncomputable def lb_check_durations_1 (e : Sl) : Res Flo :=
  (sIf (mNot (asB (eCall fn_is_amount (aCons (aV (eVar 3)) (aNil)))))
  (sBad)
  (sNil)) e
noncomputable def dn_check_durations : M Flo :=
  sSeq (sIf (mOr (mNot (asB (rd1 (eVar 1) (isiK ["tuple"])))) (asB (rd2 (rd1 (eVar 1) lenA) (rd1 (rd1 (eVar 0) (fldK "Shape" "names")) lenA) neK)))
  (sBad)
  (sNil))
  (sFor (itEnum (eVar 1)) (tTupD 2 (tsCons (tName 2) (tsCons (tName 3) (tsNil))))
  (lb_check_durations_1))
noncomputable def fn_check_durations : Fn := fnD 2 4 dn_check_durations
theorem sc_fault_of_row : FnScope ["value", "is_right", "index", "one"] ["value", "is_right"] (defScope s_fault_of_row) := ⟨rfl, rfl, rfl, by decide +kernel, rfl, by decide +kernel, by decide +kernel⟩
def lb_fault_of_row_1 (cb : Fn) (e : Sl) : Res Flo :=
  (sIf (mOr (mNot (asB (eCb 1 1 cb (aCons (aV (eVar 3)) (aNil))))) (asB (rd2 (eVar 3) (eSl (eVar 0) (oNo) (oSome (eVar 2))) inA)))
  (sRet (eVar 2))
  (sNil)) e
def dn_fault_of_row (cb : Fn) : M Flo :=
  sSeq (sIf (mNot (asB (rd1 (eVar 0) (isiK ["list", "tuple"]))))
  (sRet (rd1 (eC (.int 1)) negI))
  (sNil))
  (sSeq (sFor (itEnum (eVar 0)) (tTupD 2 (tsCons (tName 2) (tsCons (tName 3) (tsNil))))
  ((lb_fault_of_row_1 cb)))
  (sRet (eC .non)))
def fn_fault_of_row (cb : Fn) : Fn := fnD 2 4 (dn_fault_of_row cb)
theorem sc_check_graph : FnScope ["shape", "graph", "many", "fault"] ["shape", "graph"] (defScope s_check_graph) := ⟨rfl, rfl, rfl, by decide +kernel, rfl, by decide +kernel, by decide +kernel⟩
def dnL_check_graph_0 : M RV :=
  eAnd (eCall fn_is_pair (aCons (aV (eVar 0)) (aCons (aV (eVar 1)) (aNil)))) (rd2 (rd2 (eVar 0) (eC (.int 0)) ixA) (rd2 (eVar 0) (eC (.int 1)) ixA) ltI)
def fnL_check_graph_0 : Fn := fnD 2 2 (sRet dnL_check_graph_0)
abbrev la_check_graph_0 : Expr := (eKid (stVal (stAt (defBody s_check_graph) 1)) 2)
def dn_check_graph : M Flo :=
  sSeq (sSet 2 (rd1 (rd1 (eVar 0) (fldK "Shape" "names")) lenA))
  (sSeq (sSet 3 (eHO (fn_fault_of_row fnL_check_graph_0) [2] (aCons (aV (eVar 1)) (aNil))))
  (sIf (asB (rd1 (eVar 3) notN))
  (sBad)
  (sNil)))
def fn_check_graph : Fn := fnD 2 4 dn_check_graph
theorem sc_cliques_of : FnScope ["graph", "many", "found", "some", "one", "other"] ["graph", "many"] (defScope s_cliques_of) := ⟨rfl, rfl, rfl, by decide +kernel, rfl, by decide +kernel, by decide +kernel⟩
def li_cliques_of_1 (e : Sl) : Res (List D) :=
  (itSeq (eVar 3)) e
def lp_cliques_of_1 (e : Sl) : Res Bool :=
  (asB (rd2 (eVar 4) (eVar 5) ltI)) e
def le_cliques_of_1 (e : Sl) : Res RV :=
  (rd2 (eTup (aCons (aV (eVar 4)) (aCons (aV (eVar 5)) (aNil)))) (eVar 0) inA) e
def lb_cliques_of_1 (e : Sl) : Res Flo :=
  (sIf (mAnd (asB (rd2 (eVar 3) (eTup (aNil)) neK)) (asB (rd1 (eLc2 (itSeq (eVar 3)) (tName 4) (tYesD) (li_cliques_of_1) (tName 5) (lp_cliques_of_1) (le_cliques_of_1) [4, 5] [5]) allK)))
  (sApp 2 (eVar 3))
  (sNil)) e
def dn_cliques_of : M Flo :=
  sSeq (sSet 2 (eLst (aNil)))
  (sSeq (sFor (itSeq (eCall fn_sets_of (aCons (aV (eLR1 (eVar 1))) (aNil)))) (tName 3)
  (lb_cliques_of_1))
  (sRet (eVar 2)))
def fn_cliques_of : Fn := fnD 2 6 dn_cliques_of
theorem sc_time_in : FnScope ["graph", "durations", "best", "found", "some", "time", "one"] ["graph", "durations"] (defScope s_time_in) := ⟨rfl, rfl, rfl, by decide +kernel, rfl, by decide +kernel, by decide +kernel⟩
noncomputable def le_time_in_1 (e : Sl) : Res RV :=
  (rd2 (eVar 1) (eVar 6) ixA) e
noncomputable def lb_time_in_1 (e : Sl) : Res Flo :=
  (sSeq (sSet 5 (eCall fn_sum_of (aCons (aV (eLc (itSeq (eVar 4)) (tName 6) (tYesD) (le_time_in_1) [6])) (aNil))))
  (sIf (mOr (asB (rd1 (eVar 2) isN)) (asB (eCall fn_is_less (aCons (aV (eVar 2)) (aCons (aV (eVar 5)) (aNil))))))
  (sPar [2, 3] (aCons (aO (eVar 5)) (aCons (aO (eVar 4)) (aNil))))
  (sNil))) e
noncomputable def dn_time_in : M Flo :=
  sSeq (sAsg (eTup (aCons (aV (eC .non)) (aCons (aV (eTup (aNil))) (aNil)))) (tTupD 2 (tsCons (tName 2) (tsCons (tName 3) (tsNil)))))
  (sSeq (sFor (itSeq (eCall fn_cliques_of (aCons (aV (eVar 0)) (aCons (aV (rd1 (eVar 1) lenA)) (aNil))))) (tName 4)
  (lb_time_in_1))
  (sRet (eTup (aCons (aV (eVar 2)) (aCons (aV (eVar 3)) (aNil))))))
noncomputable def fn_time_in : Fn := fnD 2 7 dn_time_in
theorem sc_time_of : FnScope ["shape", "graph", "durations"] ["shape", "graph", "durations"] (defScope s_time_of) := ⟨rfl, rfl, rfl, by decide +kernel, rfl, by decide +kernel, by decide +kernel⟩
noncomputable def dn_time_of : M Flo :=
  sSeq (sExpr (eCall fn_check_shape (aCons (aV (eVar 0)) (aNil))))
  (sSeq (sExpr (eCall fn_check_graph (aCons (aV (eVar 0)) (aCons (aV (eVar 1)) (aNil)))))
  (sSeq (sExpr (eCall fn_check_durations (aCons (aV (eVar 0)) (aCons (aV (eVar 2)) (aNil)))))
  (sRet (eCall fn_time_in (aCons (aV (eVar 1)) (aCons (aV (eVar 2)) (aNil)))))))
noncomputable def fn_time_of : Fn := fnD 3 3 dn_time_of
theorem sc__law_well : FnScope ["_law_script", "_law_k", "_law_cell"] ["_law_script", "_law_k"] (defScope s__law_well) := ⟨rfl, rfl, rfl, by decide +kernel, rfl, by decide +kernel, by decide +kernel⟩
def dn__law_well : M Flo :=
  sSeq (sSet 2 (eIf (asB (rd2 (eVar 1) (rd1 (eVar 0) lenA) ltI)) (rd2 (eVar 0) (eVar 1) ixA) (rd2 (eC (.int 7)) (eVar 1) mulK)))
  (sRet (eLst (aCons (aV (rd2 (eLst (aCons (aV (eC (.int 0))) (aCons (aV (eVar 2)) (aNil)))) (rd1 (rd2 (eVar 2) (rd2 (eC (.int 10)) (eC (.int 18)) powI) geI) intK) ixA)) (aCons (aV (rd2 (rd1 (eVar 2) intK) (eC (.int 2147483647)) modI)) (aCons (aV (eC (.int 0))) (aNil))))))
def fn__law_well : Fn := fnD 2 3 dn__law_well
theorem sc__law_draw : FnScope ["_law_well_here", "_law_many", "_law_found", "_law_number_here"] ["_law_well_here", "_law_many"] (defScope s__law_draw) := ⟨rfl, rfl, rfl, by decide +kernel, rfl, by decide +kernel, by decide +kernel⟩
def dn__law_draw : M Flo :=
  sSeq (sIf (asB (rd2 (rd2 (eVar 0) (eC (.int 0)) ixA) (eC (.int 0)) gtI))
  (sSeq (sSet 2 (rd2 (rd1 (rd2 (eVar 0) (eC (.int 0)) ixA) intK) (eVar 1) modI))
  (sSeq (sSetIx 0 (rd2 (rd2 (eVar 0) (eC (.int 0)) ixA) (eVar 1) fdivI) (eC (.int 0)))
  (sRet (eVar 2))))
  (sNil))
  (sSeq (sSetIx 0 (rd2 (rd2 (eVar 0) (eC (.int 2)) ixA) (eC (.int 1)) addK) (eC (.int 2)))
  (sSeq (sSet 3 (rd2 (rd1 (rd2 (rd2 (rd2 (rd2 (eVar 0) (eC (.int 1)) ixA) (rd2 (eC (.int 7919)) (rd2 (eVar 0) (eC (.int 2)) ixA) mulK) addK) (eC (.int 1)) addK) (eC (.int 48271)) mulK) intK) (eC (.int 2147483647)) modI))
  (sSeq (sSet 3 (rd2 (rd1 (rd2 (eVar 3) (rd2 (rd2 (eVar 3) (eC (.int 1009)) fdivI) (eC (.int 69621)) addK) mulK) intK) (eC (.int 2147483647)) modI))
  (sRet (rd2 (rd1 (rd2 (rd1 (rd2 (eVar 3) (rd2 (rd2 (eVar 3) (eC (.int 2003)) fdivI) (eC (.int 40692)) addK) mulK) intK) (eC (.int 2147483399)) modI) intK) (eVar 1) modI)))))
def fn__law_draw : Fn := fnD 2 4 dn__law_draw
theorem sc__law_pick : FnScope ["_law_well_here", "_law_some"] ["_law_well_here", "_law_some"] (defScope s__law_pick) := ⟨rfl, rfl, rfl, by decide +kernel, rfl, by decide +kernel, by decide +kernel⟩
def dn__law_pick : M Flo :=
  sRet (rd2 (eVar 1) (eCall fn__law_draw (aCons (aIO 0) (aCons (aV (rd1 (eVar 1) lenA)) (aNil)))) ixA)
def fn__law_pick : Fn := fnD 2 2 dn__law_pick
theorem sc__law_row : FnScope ["_law_well_here", "_law_many", "_law_left", "_law_found", "_law_k"] ["_law_well_here", "_law_many"] (defScope s__law_row) := ⟨rfl, rfl, rfl, by decide +kernel, rfl, by decide +kernel, by decide +kernel⟩
def lb__law_row_1 (e : Sl) : Res Flo :=
  (sApp 3 (ePop 2 (eCall fn__law_draw (aCons (aIO 0) (aCons (aV (rd1 (eVar 2) lenA)) (aNil)))))) e
def dn__law_row : M Flo :=
  sSeq (sPar [2, 3] (aCons (aO (eLR1 (eVar 1))) (aCons (aO (eLst (aNil))) (aNil))))
  (sSeq (sFor (itW1 (eVar 1)) (tName 4)
  (lb__law_row_1))
  (sRet (eVar 3)))
def fn__law_row : Fn := fnD 2 5 dn__law_row
theorem sc__law_number : FnScope ["_law_sixths", "_law_bottom", "_law_top"] ["_law_sixths"] (defScope s__law_number) := ⟨rfl, rfl, rfl, by decide +kernel, rfl, by decide +kernel, by decide +kernel⟩
def lb__law_number_1 (e : Sl) : Res Flo :=
  (sIf (asB (rd2 (rd2 (rd1 (rd2 (eVar 0) (eVar 1) mulK) intK) (eC (.int 6)) modI) (eC (.int 0)) eqK))
  (sSeq (sSet 2 (rd2 (rd2 (eVar 0) (eVar 1) mulK) (eC (.int 6)) fdivI))
  (sRet (eIf (asB (rd2 (eVar 1) (eC (.int 1)) eqK)) (eVar 2) (eTup (aCons (aV (eVar 2)) (aCons (aV (eVar 1)) (aNil)))))))
  (sNil)) e
def dn__law_number : M Flo :=
  sSeq (sFor (itSeq (eLst (aCons (aV (eC (.int 1))) (aCons (aV (eC (.int 2))) (aCons (aV (eC (.int 3))) (aNil)))))) (tName 1)
  (lb__law_number_1))
  (sRet (eTup (aCons (aV (eVar 0)) (aCons (aV (eC (.int 6))) (aNil)))))
def fn__law_number : Fn := fnD 1 3 dn__law_number
theorem sc__law_numbers : FnScope ["_law_row_here", "_law_one"] ["_law_row_here"] (defScope s__law_numbers) := ⟨rfl, rfl, rfl, by decide +kernel, rfl, by decide +kernel, by decide +kernel⟩
def le__law_numbers_1 (e : Sl) : Res RV :=
  (eCall fn__law_number (aCons (aV (eVar 1)) (aNil))) e
def dn__law_numbers : M Flo :=
  sRet (rd1 (eLc (itSeq (eVar 0)) (tName 1) (tYesD) (le__law_numbers_1) [1]) tupK)
def fn__law_numbers : Fn := fnD 1 2 dn__law_numbers
theorem sc__law_lengths : FnScope ["_law_well_here", "_law_many", "_law_found", "_law_one", "_law_size"] ["_law_well_here", "_law_many"] (defScope s__law_lengths) := ⟨rfl, rfl, rfl, by decide +kernel, rfl, by decide +kernel, by decide +kernel⟩
def lb__law_lengths_1 (e : Sl) : Res Flo :=
  (sSeq (sSet 4 (eCall fn__law_pick (aCons (aIO 0) (aCons (aV (eLst (aCons (aV (eC (.int 1))) (aCons (aV (eC (.int 6))) (aCons (aV (eC (.int 6))) (aCons (aV (eC (.int 6))) (aCons (aV (eC (.int 24))) (aCons (aV (eC (.int 3))) (aCons (aV (eC (.int 2))) (aCons (aV (rd2 (eC (.int 6)) (rd2 (eC (.int 10)) (eC (.int 9)) powI) mulK)) (aNil))))))))))) (aNil)))))
  (sApp 2 (rd2 (eVar 4) (eCall fn__law_draw (aCons (aIO 0) (aCons (aV (eC (.int 6))) (aNil)))) mulK))) e
def dn__law_lengths : M Flo :=
  sSeq (sSet 2 (eLst (aNil)))
  (sSeq (sFor (itW1 (eVar 1)) (tName 3)
  (lb__law_lengths_1))
  (sRet (eVar 2)))
def fn__law_lengths : Fn := fnD 2 5 dn__law_lengths
theorem sc__law_sets : FnScope ["_law_many", "_law_found", "_law_mask", "_law_some", "_law_one", "_law_size"] ["_law_many"] (defScope s__law_sets) := ⟨rfl, rfl, rfl, by decide +kernel, rfl, by decide +kernel, by decide +kernel⟩
def lp__law_sets_1 (e : Sl) : Res Bool :=
  (asB (rd2 (rd2 (rd2 (eVar 2) (rd2 (eLst (aCons (aV (eC (.int 1))) (aCons (aV (eC (.int 2))) (aCons (aV (eC (.int 4))) (aCons (aV (eC (.int 8))) (aCons (aV (eC (.int 16))) (aCons (aV (eC (.int 32))) (aCons (aV (eC (.int 64))) (aNil))))))))) (eVar 4) ixA) fdivI) (eC (.int 1)) andI) (eC (.int 1)) eqK)) e
def le__law_sets_1 (e : Sl) : Res RV :=
  (eVar 4) e
def lb__law_sets_1 (e : Sl) : Res Flo :=
  (sSeq (sSet 3 (eLc (itW1 (eVar 0)) (tName 4) (lp__law_sets_1) (le__law_sets_1) [4]))
  (sIf (asB (rd2 (eVar 2) (rd2 (eLst (aCons (aV (eC (.int 2))) (aCons (aV (eC (.int 4))) (aCons (aV (eC (.int 8))) (aCons (aV (eC (.int 16))) (aCons (aV (eC (.int 32))) (aCons (aV (eC (.int 64))) (aCons (aV (eC (.int 128))) (aNil))))))))) (rd2 (eVar 0) (eC (.int 1)) subI) ixA) ltI))
  (sApp 1 (eTup (aCons (aV (rd1 (eVar 3) lenA)) (aCons (aV (rd1 (eVar 3) tupK)) (aNil)))))
  (sNil))) e
def le__law_sets_2 (e : Sl) : Res RV :=
  (eVar 3) e
def dn__law_sets : M Flo :=
  sSeq (sSet 1 (eLst (aNil)))
  (sSeq (sFor (itW2 (eC (.int 1)) (rd2 (eC (.int 2)) (eC (.int 7)) powI)) (tName 2)
  (lb__law_sets_1))
  (sRet (eFz [3] (eLc (itSeq (rd1 (eVar 1) sortedA)) (tTupD 2 (tsCons (tName 5) (tsCons (tName 3) (tsNil)))) (tYesD) (le__law_sets_2) [5, 3]))))
def fn__law_sets : Fn := fnD 1 6 dn__law_sets
theorem sc__law_is_clique : FnScope ["_law_edges", "_law_some", "_law_one", "_law_other"] ["_law_edges", "_law_some"] (defScope s__law_is_clique) := ⟨rfl, rfl, rfl, by decide +kernel, rfl, by decide +kernel, by decide +kernel⟩
def lb__law_is_clique_1 (e : Sl) : Res Flo :=
  (sIf (mAnd (asB (rd2 (eVar 2) (eVar 3) ltI)) (asB (rd2 (eTup (aCons (aV (eVar 2)) (aCons (aV (eVar 3)) (aNil)))) (eVar 0) ninA)))
  (sRet (eC (.bl false)))
  (sNil)) e
def lb__law_is_clique_2 (e : Sl) : Res Flo :=
  (sFor (itSeq (eVar 1)) (tName 3)
  (lb__law_is_clique_1)) e
def dn__law_is_clique : M Flo :=
  sSeq (sFor (itSeq (eVar 1)) (tName 2)
  (lb__law_is_clique_2))
  (sRet (eC (.bl true)))
def fn__law_is_clique : Fn := fnD 2 4 dn__law_is_clique
theorem sc__law_due : FnScope ["_law_edges", "_law_lengths_here", "_law_best", "_law_found", "_law_some", "_law_total", "_law_one"] ["_law_edges", "_law_lengths_here"] (defScope s__law_due) := ⟨rfl, rfl, rfl, by decide +kernel, rfl, by decide +kernel, by decide +kernel⟩
def le__law_due_1 (e : Sl) : Res RV :=
  (rd2 (eVar 1) (eVar 6) ixA) e
def lb__law_due_1 (e : Sl) : Res Flo :=
  (sSeq (sSet 5 (rd1 (eLc (itSeq (eVar 4)) (tName 6) (tYesD) (le__law_due_1) [6]) sumK))
  (sIf (mAnd (asB (rd2 (eVar 5) (eVar 2) gtI)) (asB (eCall fn__law_is_clique (aCons (aV (eVar 0)) (aCons (aV (eVar 4)) (aNil))))))
  (sPar [2, 3] (aCons (aO (eVar 5)) (aCons (aO (eVar 4)) (aNil))))
  (sNil))) e
def dn__law_due : M Flo :=
  sSeq (sAsg (eTup (aCons (aV (rd1 (eC (.int 1)) negI)) (aCons (aV (eTup (aNil))) (aNil)))) (tTupD 2 (tsCons (tName 2) (tsCons (tName 3) (tsNil)))))
  (sSeq (sFor (itSeq (eCall fn__law_sets (aCons (aV (rd1 (eVar 1) lenA)) (aNil)))) (tName 4)
  (lb__law_due_1))
  (sRet (eTup (aCons (aV (eCall fn__law_number (aCons (aV (eVar 2)) (aNil)))) (aCons (aV (eVar 3)) (aNil))))))
def fn__law_due : Fn := fnD 2 7 dn__law_due
theorem sc__law_right : FnScope ["_law_well_here", "_law_many", "_law_lengths_here", "_law_often", "_law_one", "_law_figure", "_law_told", "_law_turn", "_law_pairs", "_law_other", "_law_edges", "_law_at", "_law_due_here", "_law_shown", "_law_some"] ["_law_well_here"] (defScope s__law_right) := ⟨rfl, rfl, rfl, by decide +kernel, rfl, by decide +kernel, by decide +kernel⟩
noncomputable def le__law_right_1 (e : Sl) : Res RV :=
  (eCall fn__law_pick (aCons (aIO 0) (aCons (aV (eLst (aCons (aV (eC (.int 0))) (aCons (aV (eC (.int 6))) (aCons (aV (eC (.int 6))) (aCons (aV (rd2 (eVar 2) (eC (.int 0)) ixA)) (aNil))))))) (aNil)))) e
noncomputable def le__law_right_2 (e : Sl) : Res RV :=
  (rd2 (eC (.str "n")) (rd1 (eVar 4) strK) addK) e
noncomputable def lb__law_right_1 (e : Sl) : Res Flo :=
  (sIf (asB (rd2 (eCall fn__law_draw (aCons (aIO 0) (aCons (aV (eVar 3)) (aNil)))) (eC (.int 0)) eqK))
  (sApp 8 (eTup (aCons (aV (eVar 4)) (aCons (aV (eVar 9)) (aNil)))))
  (sNil)) e
noncomputable def lb__law_right_2 (e : Sl) : Res Flo :=
  (sFor (itW2 (rd2 (eVar 4) (eC (.int 1)) addK) (eVar 1)) (tName 9)
  (lb__law_right_1)) e
noncomputable def le__law_right_3 (e : Sl) : Res RV :=
  (rd2 (eVar 8) (eVar 11) ixA) e
noncomputable def lb__law_right_3 (e : Sl) : Res Flo :=
  (sIf (mOr (asB (rd2 (eCall fn_time_of (aCons (aV (eVar 5)) (aCons (aV (eVar 14)) (aCons (aV (eVar 6)) (aNil))))) (eVar 12) neK)) (asB (rd2 (eCallK fn_time_of 0 3 [2, 1, 0] (aNil) (aCons (aV (eVar 6)) (aCons (aV (eVar 14)) (aCons (aV (eVar 5)) (aNil))))) (eVar 12) neK)))
  (sRet (eC (.bl false)))
  (sNil)) e
noncomputable def lb__law_right_4 (e : Sl) : Res Flo :=
  (sSeq (sSet 8 (eLst (aNil)))
  (sSeq (sFor (itW1 (eVar 1)) (tName 4)
  (lb__law_right_2))
  (sSeq (sSet 10 (eLc (itSeq (eCall fn__law_row (aCons (aIO 0) (aCons (aV (rd1 (eVar 8) lenA)) (aNil))))) (tName 11) (tYesD) (le__law_right_3) [11]))
  (sSeq (sPar [12, 13] (aCons (aO (eCall fn__law_due (aCons (aV (eVar 8)) (aCons (aV (eVar 2)) (aNil))))) (aCons (aO (rd1 (eVar 10) lstK)) (aNil))))
  (sSeq (sFor (itSeq (eTup (aCons (aV (eVar 10)) (aCons (aV (rd1 (eVar 10) tupK)) (aCons (aV (eVar 8)) (aNil)))))) (tName 14)
  (lb__law_right_3))
  (sIf (asB (rd2 (eVar 10) (eVar 13) neK))
  (sRet (eC (.bl false)))
  (sNil))))))) e
noncomputable def dn__law_right : M Flo :=
  sSeq (sSet 1 (rd2 (eC (.int 1)) (eCall fn__law_draw (aCons (aIO 0) (aCons (aV (eC (.int 7))) (aNil)))) addK))
  (sSeq (sAsg (eTup (aCons (aV (eCall fn__law_lengths (aCons (aIO 0) (aCons (aV (eVar 1)) (aNil))))) (aCons (aV (eCall fn__law_pick (aCons (aIO 0) (aCons (aV (eLst (aCons (aV (eC (.int 1))) (aCons (aV (eC (.int 2))) (aCons (aV (eC (.int 2))) (aCons (aV (eC (.int 3))) (aCons (aV (eC (.int 9))) (aNil)))))))) (aNil))))) (aNil)))) (tTupD 2 (tsCons (tName 2) (tsCons (tName 3) (tsNil)))))
  (sSeq (sIf (asB (rd2 (eCall fn__law_draw (aCons (aIO 0) (aCons (aV (eC (.int 3))) (aNil)))) (eC (.int 0)) eqK))
  (sSet 2 (eFz [4] (eLc (itW1 (eVar 1)) (tName 4) (tYesD) (le__law_right_1) [4])))
  (sNil))
  (sSeq (sPar [5, 6] (aCons (aO (eMake fn_Shape "Shape" 1 0 (fun a b => pickL [0, 1, 2, 3, 4] (a ++ b ++ [.tup [], .tup [], .tup [], .tup []])) (aCons (aV (rd1 (eFz [4] (eLc (itW1 (eVar 1)) (tName 4) (tYesD) (le__law_right_2) [4])) tupK)) (aNil)) (aNil))) (aCons (aO (eCall fn__law_numbers (aCons (aV (eVar 2)) (aNil)))) (aNil))))
  (sSeq (sFor (itW1 (eC (.int 2))) (tName 7)
  (lb__law_right_4))
  (sRet (eC (.bl true)))))))
noncomputable def fn__law_right : Fn := fnD 1 15 dn__law_right
theorem sc_law : FnScope ["_law_script", "_law_k"] ["_law_script"] (defScope s_law) := ⟨rfl, rfl, rfl, by decide +kernel, rfl, by decide +kernel, by decide +kernel⟩
noncomputable def lb_law_1 (e : Sl) : Res Flo :=
  (sIf (mNot (asB (eCallO fn__law_right (eCall fn__law_well (aCons (aV (eVar 0)) (aCons (aV (eVar 1)) (aNil)))))))
  (sRet (eC (.bl false)))
  (sNil)) e
noncomputable def dn_law : M Flo :=
  sSeq (sFor (itW1 (rd2 (eC (.int 1)) (rd2 (eC (.int 6)) (rd1 (eVar 0) lenA) min2) max2)) (tName 1)
  (lb_law_1))
  (sRet (eC (.bl true)))
noncomputable def fn_law : Fn := fnD 1 2 dn_law
section
variable {P : Program} {w : World} {K : PySem.W.Frag} {mg : Mg}
theorem ok_is_int (T : Txt K mg)  : CallOk P w K mg "is_int" 1 ["value"] fn_is_int :=
  T.d_is_int.ok fun f fd F base hB => fn_denI F sc_is_int rfl rfl (by decide) fun cdv hcv A outer s H E hr tk po => dss_one (ds_ret (de_and (de_isi (by rfl) T.b_isinstance (by rfl) T.b_int (by decide +kernel) (by decide) (de_var 0)) (de_one (de_not (de_isi (by rfl) T.b_isinstance (by rfl) T.b_bool (by decide +kernel) (by decide) (de_var 0))))))
theorem ok_divisor_of (T : Txt K mg)  : CallOk P w K mg "divisor_of" 1 ["one", "other"] fn_divisor_of :=
  T.d_divisor_of.ok fun f fd F base hB => fn_denI F sc_divisor_of rfl rfl (by decide) fun cdv hcv A outer s H E hr tk po => dss_cons (ds_while po (dt_ne hr (de_var 1) (de_int)) (dss_one (ds_par2 0 1 rfl sc_divisor_of.nd (da2_cons (de_var 1) (da2_cons (de_mod (de_var 0) (de_var 1)) (da2_nil))))))
  (dss_one (ds_ret (de_abs (by rfl) T.b_abs (de_var 0))))
theorem ok_is_number (T : Txt K mg) (C_divisor_of : CallOk P w K mg "divisor_of" 1 ["one", "other"] fn_divisor_of) (C_is_int : CallOk P w K mg "is_int" 1 ["value"] fn_is_int) : CallOk P w K mg "is_number" 2 ["value"] fn_is_number :=
  T.d_is_number.ok fun f fd F base hB => fn_denI F sc_is_number rfl rfl (by decide) fun cdv hcv A outer s H E hr tk po => dss_cons (ds_if (dt_val (de_callN C_is_int hB (hr.mono (by decide)) tk (by rfl) (da_cons (de_var 0) (da_nil)))) (dss_one (ds_ret (de_bl))) (dss_nil))
  (dss_cons (ds_if (DW.dt (dw_or (dt_not (dt_val (de_isi (by rfl) T.b_isinstance (by rfl) T.b_tuple (by decide +kernel) (by decide) (de_var 0)))) (dw_or (dt_ne hr (de_lenA (by rfl) T.b_len (de_var 0)) (de_int)) (dw_or (dt_not (dt_val (de_callN C_is_int hB (hr.mono (by decide)) tk (by rfl) (da_cons (de_ixA hr (de_var 0) (de_int)) (da_nil))))) (dw_or1 (dt_not (dt_val (de_callN C_is_int hB (hr.mono (by decide)) tk (by rfl) (da_cons (de_ixA hr (de_var 0) (de_int)) (da_nil)))))))))) (dss_one (ds_ret (de_bl))) (dss_nil))
  (dss_one (ds_ret (de_and (de_gt (de_ixA hr (de_var 0) (de_int)) (de_int)) (de_one (de_eq hr (de_callN C_divisor_of hB (hr.mono (by decide)) tk (by rfl) (da_cons (de_ixA hr (de_var 0) (de_int)) (da_cons (de_ixA hr (de_var 0) (de_int)) (da_nil)))) (de_int)))))))
theorem ok_halves_of (T : Txt K mg)  : CallOk P w K mg "halves_of" 1 ["number"] fn_halves_of :=
  T.d_halves_of.ok fun f fd F base hB => fn_denI F sc_halves_of rfl rfl (by decide) fun cdv hcv A outer s H E hr tk po => dss_one (ds_ret (de_ifExp (dt_val (de_isi (by rfl) T.b_isinstance (by rfl) T.b_int (by decide +kernel) (by decide) (de_var 0))) (de_tup (da_cons (de_var 0) (da_cons (de_int) (da_nil)))) (de_var 0)))
theorem ok_number_of (T : Txt K mg) (C_divisor_of : CallOk P w K mg "divisor_of" 1 ["one", "other"] fn_divisor_of) : CallOk P w K mg "number_of" 2 ["top", "bottom"] fn_number_of :=
  T.d_number_of.ok fun f fd F base hB => fn_denI F sc_number_of rfl rfl (by decide) fun cdv hcv A outer s H E hr tk po => dss_cons (ds_if (dt_lt (de_var 1) (de_int)) (dss_one (ds_par2 0 1 rfl sc_number_of.nd (da2_cons (de_neg (de_var 0)) (da2_cons (de_neg (de_var 1)) (da2_nil))))) (dss_nil))
  (dss_cons (ds_if (dt_eq hr (de_var 1) (de_int)) (dss_one (ds_ret (de_var 0))) (dss_nil))
  (dss_cons (ds_set 2 (de_callN C_divisor_of hB (hr.mono (by decide)) tk (by rfl) (da_cons (de_var 0) (da_cons (de_var 1) (da_nil)))) sc_number_of.nd)
  (dss_one (ds_ret (de_ifExp (dt_eq hr (de_var 1) (de_var 2)) (de_fdiv (de_var 0) (de_var 2)) (de_tup (da_cons (de_fdiv (de_var 0) (de_var 2)) (da_cons (de_fdiv (de_var 1) (de_var 2)) (da_nil)))))))))
theorem ok_plus (T : Txt K mg) (C_halves_of : CallOk P w K mg "halves_of" 1 ["number"] fn_halves_of) (C_number_of : CallOk P w K mg "number_of" 2 ["top", "bottom"] fn_number_of) : CallOk P w K mg "plus" 3 ["one", "other"] fn_plus :=
  T.d_plus.ok fun f fd F base hB => fn_denI F sc_plus rfl rfl (by decide) fun cdv hcv A outer s H E hr tk po => dss_cons (ds_if (DW.dt (dw_and (dt_val (de_isi (by rfl) T.b_isinstance (by rfl) T.b_int (by decide +kernel) (by decide) (de_var 0))) (dw_and1 (dt_val (de_isi (by rfl) T.b_isinstance (by rfl) T.b_int (by decide +kernel) (by decide) (de_var 1)))))) (dss_one (ds_ret (de_add (de_var 0) (de_var 1)))) (dss_nil))
  (dss_cons (ds_asg (de_callN C_halves_of hB (hr.mono (by decide)) tk (by rfl) (da_cons (de_var 0) (da_nil))) (dg_tup rfl (dgs_cons (dg_name 2 sc_plus.nd) (dgs_cons (dg_name 3 sc_plus.nd) (dgs_nil)))))
  (dss_cons (ds_asg (de_callN C_halves_of hB (hr.mono (by decide)) tk (by rfl) (da_cons (de_var 1) (da_nil))) (dg_tup rfl (dgs_cons (dg_name 4 sc_plus.nd) (dgs_cons (dg_name 5 sc_plus.nd) (dgs_nil)))))
  (dss_one (ds_ret (de_callN C_number_of hB (hr.mono (by decide)) tk (by rfl) (da_cons (de_add (de_mulK (de_var 2) (de_var 5)) (de_mulK (de_var 4) (de_var 3))) (da_cons (de_mulK (de_var 3) (de_var 5)) (da_nil))))))))
theorem ok_is_less (T : Txt K mg) (C_halves_of : CallOk P w K mg "halves_of" 1 ["number"] fn_halves_of) : CallOk P w K mg "is_less" 2 ["one", "other"] fn_is_less :=
  T.d_is_less.ok fun f fd F base hB => fn_denI F sc_is_less rfl rfl (by decide) fun cdv hcv A outer s H E hr tk po => dss_cons (ds_asg (de_callN C_halves_of hB (hr.mono (by decide)) tk (by rfl) (da_cons (de_var 0) (da_nil))) (dg_tup rfl (dgs_cons (dg_name 2 sc_is_less.nd) (dgs_cons (dg_name 3 sc_is_less.nd) (dgs_nil)))))
  (dss_cons (ds_asg (de_callN C_halves_of hB (hr.mono (by decide)) tk (by rfl) (da_cons (de_var 1) (da_nil))) (dg_tup rfl (dgs_cons (dg_name 4 sc_is_less.nd) (dgs_cons (dg_name 5 sc_is_less.nd) (dgs_nil)))))
  (dss_one (ds_ret (de_lt (de_mulK (de_var 2) (de_var 5)) (de_mulK (de_var 4) (de_var 3))))))
theorem ok_is_amount (T : Txt K mg) (C_halves_of : CallOk P w K mg "halves_of" 1 ["number"] fn_halves_of) (C_is_number : CallOk P w K mg "is_number" 2 ["value"] fn_is_number) : CallOk P w K mg "is_amount" 3 ["value"] fn_is_amount :=
  T.d_is_amount.ok fun f fd F base hB => fn_denI F sc_is_amount rfl rfl (by decide) fun cdv hcv A outer s H E hr tk po => dss_one (ds_ret (de_and (de_callN C_is_number hB (hr.mono (by decide)) tk (by rfl) (da_cons (de_var 0) (da_nil))) (de_one (de_ge (de_ixA hr (de_callN C_halves_of hB (hr.mono (by decide)) tk (by rfl) (da_cons (de_var 0) (da_nil))) (de_int)) (de_int)))))
theorem ok_sum_of (T : Txt K mg) (C_plus : CallOk P w K mg "plus" 3 ["one", "other"] fn_plus) : CallOk P w K mg "sum_of" 4 ["numbers"] fn_sum_of :=
  T.d_sum_of.ok fun f fd F base hB => fn_denI F sc_sum_of rfl rfl (by decide) fun cdv hcv A outer s H E hr tk po => dss_cons (ds_set 1 (de_int) sc_sum_of.nd)
  (dss_cons (ds_for po rfl (di_seq (de_var 0)) (dg_name 2 sc_sum_of.nd) (dss_one (ds_set 1 (de_callN C_plus hB (hr.mono (by decide)) tk (by rfl) (da_cons (de_var 1) (da_cons (de_var 2) (da_nil)))) sc_sum_of.nd)))
  (dss_one (ds_ret (de_var 1))))
theorem ok_is_name (T : Txt K mg)  : CallOk P w K mg "is_name" 1 ["value"] fn_is_name :=
  T.d_is_name.ok fun f fd F base hB => fn_denI F sc_is_name rfl rfl (by decide) fun cdv hcv A outer s H E hr tk po => dss_cons (ds_if (DW.dt (dw_or (dt_not (dt_val (de_isi (by rfl) T.b_isinstance (by rfl) T.b_str (by decide +kernel) (by decide) (de_var 0)))) (dw_or (dt_not (dt_chain (pp := (fun i j => decide (i ≤ j))) (qq := (fun i j => decide (i ≤ j))) op_le op_le (de_int) (de_lenA (by rfl) T.b_len (de_var 0)) (de_globI (by rfl) T.g_MAX_NAME.choose_spec))) (dw_or1 (dt_ninA hr (de_ixA hr (de_var 0) (de_int)) (de_globS (by rfl) T.g_LETTERS.choose_spec)))))) (dss_one (ds_ret (de_bl))) (dss_nil))
  (dss_one (ds_ret (de_all rfl (by rfl) T.b_all (de_lc [("sign", 1)] rfl sc_is_name.nd (di_str (de_var 0)) (by kernel_rfl) (fun _ _ _ _ _ => dg_name 1 sc_is_name.nd) (fun _ _ _ _ _ => dts_nil) (fun _ _ _ _ _ => de_inA hr (de_var 1) (de_globS (by rfl) T.g_SIGNS.choose_spec))))))
theorem ok_is_index (T : Txt K mg) (C_is_int : CallOk P w K mg "is_int" 1 ["value"] fn_is_int) : CallOk P w K mg "is_index" 2 ["value", "many"] fn_is_index :=
  T.d_is_index.ok fun f fd F base hB => fn_denI F sc_is_index rfl rfl (by decide) fun cdv hcv A outer s H E hr tk po => dss_one (ds_ret (de_and (de_callN C_is_int hB (hr.mono (by decide)) tk (by rfl) (da_cons (de_var 0) (da_nil))) (de_one (de_chain (pp := (fun i j => decide (i ≤ j))) (qq := (fun i j => decide (i < j))) op_le op_lt (de_int) (de_var 0) (de_var 1)))))
theorem ok_is_pair (T : Txt K mg) (C_is_index : CallOk P w K mg "is_index" 2 ["value", "many"] fn_is_index) : CallOk P w K mg "is_pair" 3 ["value", "many"] fn_is_pair :=
  T.d_is_pair.ok fun f fd F base hB => fn_denI F sc_is_pair rfl rfl (by decide) fun cdv hcv A outer s H E hr tk po => dss_cons (ds_if (DW.dt (dw_or (dt_not (dt_val (de_isi (by rfl) T.b_isinstance (by rfl) T.b_tuple (by decide +kernel) (by decide) (de_var 0)))) (dw_or (dt_ne hr (de_lenA (by rfl) T.b_len (de_var 0)) (de_int)) (dw_or1 (dt_not (dt_val (de_all rfl (by rfl) T.b_all (de_lc [("one", 2)] rfl sc_is_pair.nd (di_seq (de_var 0)) (by kernel_rfl) (fun _ _ _ _ _ => dg_name 2 sc_is_pair.nd) (fun _ _ _ _ _ => dts_nil) (fun _ _ _ _ _ => de_callN C_is_index hB (hr.mono (by decide)) takes0 (by rfl) (da_cons (de_var 2) (da_cons (de_var 1) (da_nil)))))))))))) (dss_one (ds_ret (de_bl))) (dss_nil))
  (dss_one (ds_ret (de_ne hr (de_ixA hr (de_var 0) (de_int)) (de_ixA hr (de_var 0) (de_int)))))
theorem ok_is_row (T : Txt K mg)  : CallOk P w K mg "is_row" 1 ["value", "most"] fn_is_row :=
  T.d_is_row.ok fun f fd F base hB => fn_denI F sc_is_row rfl rfl (by decide) fun cdv hcv A outer s H E hr tk po => dss_one (ds_ret (de_and (de_isi2 (by rfl) T.b_isinstance (by rfl) T.b_list (by decide +kernel) (by decide) (by rfl) T.b_tuple (by decide +kernel) (by decide) (de_var 0)) (de_one (de_le (de_lenA (by rfl) T.b_len (de_var 0)) (de_var 1)))))
theorem ok_closure (T : Txt K mg)  : CallOk P w K mg "closure" 1 ["many", "pairs"] fn_closure :=
  T.d_closure.ok fun f fd F base hB => fn_denI F sc_closure rfl rfl (by decide) fun cdv hcv A outer s H E hr tk po => dss_cons (ds_set 2 (de_dict rfl (by rfl) T.b_dict (de_fz [3] (de_lc [("index", 3)] rfl sc_closure.nd (di_rangeW1 (by rfl) T.b_range (de_var 0)) (by kernel_rfl) (fun _ _ _ _ _ => dg_name 3 sc_closure.nd) (fun _ _ _ _ _ => dts_nil) (fun _ _ _ _ _ => de_tup (da_cons (de_var 3) (da_cons (de_lc [("pair", 4)] rfl sc_closure.nd (di_seq (de_var 1)) (by kernel_rfl) (fun _ _ _ _ _ => dg_name 4 sc_closure.nd) (fun _ _ _ _ _ => dts_one (dt_eq hr (de_ixA hr (de_var 4) (de_int)) (de_var 3))) (fun _ _ _ _ _ => de_ixA hr (de_var 4) (de_int))) (da_nil))))))) sc_closure.nd)
  (dss_cons (ds_for po rfl (di_rangeW1 (by rfl) T.b_range (de_var 0)) (dg_name 5 sc_closure.nd) (dss_one (ds_for po rfl (di_rangeW1 (by rfl) T.b_range (de_var 0)) (dg_name 3 sc_closure.nd) (dss_one (ds_if (dt_inA hr (de_var 5) (de_ixA hr (de_var 2) (de_var 3))) (dss_one (ds_setKey 2 hr (de_add (de_ixA hr (de_var 2) (de_var 3)) (de_ixA hr (de_var 2) (de_var 5))) (de_var 3))) (dss_nil))))))
  (dss_one (ds_ret (de_dict rfl (by rfl) T.b_dict (de_fz [3] (de_lc [("index", 3)] rfl sc_closure.nd (di_rangeW1 (by rfl) T.b_range (de_var 0)) (by kernel_rfl) (fun _ _ _ _ _ => dg_name 3 sc_closure.nd) (fun _ _ _ _ _ => dts_nil) (fun _ _ _ _ _ => de_tup (da_cons (de_var 3) (da_cons (de_sortedSet rfl hr (by rfl) T.b_sorted (by rfl) T.b_set (de_ixA hr (de_var 2) (de_var 3))) (da_nil))))))))))
theorem ok_has_ring (T : Txt K mg) (C_closure : CallOk P w K mg "closure" 1 ["many", "pairs"] fn_closure) : CallOk P w K mg "has_ring" 2 ["many", "pairs"] fn_has_ring :=
  T.d_has_ring.ok fun f fd F base hB => fn_denI F sc_has_ring rfl rfl (by decide) fun cdv hcv A outer s H E hr tk po => dss_cons (ds_set 2 (de_callN C_closure hB (hr.mono (by decide)) tk (by rfl) (da_cons (de_var 0) (da_cons (de_var 1) (da_nil)))) sc_has_ring.nd)
  (dss_one (ds_ret (de_any rfl (by rfl) T.b_any (de_lc [("index", 3)] rfl sc_has_ring.nd (di_rangeW1 (by rfl) T.b_range (de_var 0)) (by kernel_rfl) (fun _ _ _ _ _ => dg_name 3 sc_has_ring.nd) (fun _ _ _ _ _ => dts_nil) (fun _ _ _ _ _ => de_inA hr (de_var 3) (de_ixA hr (de_var 2) (de_var 3)))))))
theorem ok_check_names (T : Txt K mg) (C_is_name : CallOk P w K mg "is_name" 1 ["value"] fn_is_name) (C_is_row : CallOk P w K mg "is_row" 1 ["value", "most"] fn_is_row) : CallOk P w K mg "check_names" 2 ["names"] fn_check_names :=
  T.d_check_names.ok fun f fd F base hB => fn_denI F sc_check_names rfl rfl (by decide) fun cdv hcv A outer s H E hr tk po => dss_cons (ds_if (DW.dt (dw_or (dt_not (dt_val (de_callN C_is_row hB (hr.mono (by decide)) tk (by rfl) (da_cons (de_var 0) (da_cons (de_globI (by rfl) T.g_MAX_MANY.choose_spec) (da_nil)))))) (dw_or1 (dt_eq hr (de_lenA (by rfl) T.b_len (de_var 0)) (de_int))))) (dss_one (ds_bad)) (dss_nil))
  (dss_one (ds_for po rfl (di_enum (by rfl) T.b_enumerate (de_var 0)) (dg_tup rfl (dgs_cons (dg_name 1 sc_check_names.nd) (dgs_cons (dg_name 2 sc_check_names.nd) (dgs_nil)))) (dss_one (ds_if (DW.dt (dw_or (dt_not (dt_val (de_callN C_is_name hB (hr.mono (by decide)) tk (by rfl) (da_cons (de_var 2) (da_nil))))) (dw_or1 (dt_inA hr (de_var 2) (de_slice (de_var 0) (do_no) (do_some (de_var 1))))))) (dss_one (ds_bad)) (dss_nil)))))
theorem ok_check_before (T : Txt K mg) (C_has_ring : CallOk P w K mg "has_ring" 2 ["many", "pairs"] fn_has_ring) (C_is_pair : CallOk P w K mg "is_pair" 3 ["value", "many"] fn_is_pair) (C_is_row : CallOk P w K mg "is_row" 1 ["value", "most"] fn_is_row) : CallOk P w K mg "check_before" 4 ["many", "before"] fn_check_before :=
  T.d_check_before.ok fun f fd F base hB => fn_denI F sc_check_before rfl rfl (by decide) fun cdv hcv A outer s H E hr tk po => dss_cons (ds_if (dt_not (dt_val (de_callN C_is_row hB (hr.mono (by decide)) tk (by rfl) (da_cons (de_var 1) (da_cons (de_globI (by rfl) T.g_MAX_PAIRS.choose_spec) (da_nil)))))) (dss_one (ds_bad)) (dss_nil))
  (dss_one (ds_for po rfl (di_enum (by rfl) T.b_enumerate (de_var 1)) (dg_tup rfl (dgs_cons (dg_name 2 sc_check_before.nd) (dgs_cons (dg_name 3 sc_check_before.nd) (dgs_nil)))) (dss_one (ds_if (DW.dt (dw_or (dt_not (dt_val (de_callN C_is_pair hB (hr.mono (by decide)) tk (by rfl) (da_cons (de_var 3) (da_cons (de_var 0) (da_nil)))))) (dw_or1 (dt_val (de_callN C_has_ring hB (hr.mono (by decide)) tk (by rfl) (da_cons (de_var 0) (da_cons (de_slice (de_var 1) (do_no) (do_some (de_add (de_var 2) (de_int)))) (da_nil)))))))) (dss_one (ds_bad)) (dss_nil)))))
theorem ok_is_machine (T : Txt K mg) (C_is_index : CallOk P w K mg "is_index" 2 ["value", "many"] fn_is_index) : CallOk P w K mg "is_machine" 3 ["value", "many"] fn_is_machine :=
  T.d_is_machine.ok fun f fd F base hB => fn_denI F sc_is_machine rfl rfl (by decide) fun cdv hcv A outer s H E hr tk po => dss_cons (ds_if (DW.dt (dw_or (dt_not (dt_val (de_isi (by rfl) T.b_isinstance (by rfl) T.b_tuple (by decide +kernel) (by decide) (de_var 0)))) (dw_or (dt_ne hr (de_lenA (by rfl) T.b_len (de_var 0)) (de_int)) (dw_or1 (dt_not (dt_val (de_callN C_is_index hB (hr.mono (by decide)) tk (by rfl) (da_cons (de_ixA hr (de_var 0) (de_int)) (da_cons (de_add (de_globI (by rfl) T.g_MAX_AMOUNT.choose_spec) (de_int)) (da_nil)))))))))) (dss_one (ds_ret (de_bl))) (dss_nil))
  (dss_cons (ds_set 2 (de_ixA hr (de_var 0) (de_int)) sc_is_machine.nd)
  (dss_cons (ds_if (DW.dt (dw_or (dt_not (dt_val (de_isi (by rfl) T.b_isinstance (by rfl) T.b_tuple (by decide +kernel) (by decide) (de_var 2)))) (dw_or1 (dt_ne hr (de_lenA (by rfl) T.b_len (de_var 2)) (de_var 1))))) (dss_one (ds_ret (de_bl))) (dss_nil))
  (dss_one (ds_ret (de_all rfl (by rfl) T.b_all (de_lc [("one", 3)] rfl sc_is_machine.nd (di_seq (de_var 2)) (by kernel_rfl) (fun _ _ _ _ _ => dg_name 3 sc_is_machine.nd) (fun _ _ _ _ _ => dts_nil) (fun _ _ _ _ _ => de_callN C_is_index hB (hr.mono (by decide)) takes0 (by rfl) (da_cons (de_var 3) (da_cons (de_add (de_ixA hr (de_var 0) (de_int)) (de_int)) (da_nil))))))))))
theorem ok_are_skills (T : Txt K mg) (C_is_name : CallOk P w K mg "is_name" 1 ["value"] fn_is_name) : CallOk P w K mg "are_skills" 2 ["value"] fn_are_skills :=
  T.d_are_skills.ok fun f fd F base hB => fn_denI F sc_are_skills rfl rfl (by decide) fun cdv hcv A outer s H E hr tk po => dss_cons (ds_if (DW.dt (dw_or (dt_not (dt_val (de_isi (by rfl) T.b_isinstance (by rfl) T.b_tuple (by decide +kernel) (by decide) (de_var 0)))) (dw_or (dt_gt (de_lenA (by rfl) T.b_len (de_var 0)) (de_globI (by rfl) T.g_MAX_SKILLS.choose_spec)) (dw_or1 (dt_not (dt_val (de_all rfl (by rfl) T.b_all (de_lc [("one", 1)] rfl sc_are_skills.nd (di_seq (de_var 0)) (by kernel_rfl) (fun _ _ _ _ _ => dg_name 1 sc_are_skills.nd) (fun _ _ _ _ _ => dts_nil) (fun _ _ _ _ _ => de_callN C_is_name hB (hr.mono (by decide)) takes0 (by rfl) (da_cons (de_var 1) (da_nil))))))))))) (dss_one (ds_ret (de_bl))) (dss_nil))
  (dss_one (ds_ret (de_eq hr (de_lenSet rfl (by rfl) T.b_len (by rfl) T.b_set (de_var 0)) (de_lenA (by rfl) T.b_len (de_var 0)))))
theorem ok_are_asks (T : Txt K mg) (C_is_int : CallOk P w K mg "is_int" 1 ["value"] fn_is_int) (C_is_name : CallOk P w K mg "is_name" 1 ["value"] fn_is_name) : CallOk P w K mg "are_asks" 2 ["value"] fn_are_asks :=
  T.d_are_asks.ok fun f fd F base hB => fn_denI F sc_are_asks rfl rfl (by decide) fun cdv hcv A outer s H E hr tk po => dss_cons (ds_if (DW.dt (dw_or (dt_not (dt_val (de_isi (by rfl) T.b_isinstance (by rfl) T.b_tuple (by decide +kernel) (by decide) (de_var 0)))) (dw_or1 (dt_gt (de_lenA (by rfl) T.b_len (de_var 0)) (de_globI (by rfl) T.g_MAX_ASKS.choose_spec))))) (dss_one (ds_ret (de_bl))) (dss_nil))
  (dss_cons (ds_for po rfl (di_seq (de_var 0)) (dg_name 1 sc_are_asks.nd) (dss_cons (ds_if (DW.dt (dw_or (dt_not (dt_val (de_isi (by rfl) T.b_isinstance (by rfl) T.b_tuple (by decide +kernel) (by decide) (de_var 1)))) (dw_or (dt_ne hr (de_lenA (by rfl) T.b_len (de_var 1)) (de_int)) (dw_or (dt_not (dt_val (de_callN C_is_name hB (hr.mono (by decide)) tk (by rfl) (da_cons (de_ixA hr (de_var 1) (de_int)) (da_nil))))) (dw_or1 (dt_not (dt_val (de_callN C_is_int hB (hr.mono (by decide)) tk (by rfl) (da_cons (de_ixA hr (de_var 1) (de_int)) (da_nil)))))))))) (dss_one (ds_ret (de_bl))) (dss_nil))
  (dss_one (ds_if (dt_not (dt_chain (pp := (fun i j => decide (i ≤ j))) (qq := (fun i j => decide (i ≤ j))) op_le op_le (de_int) (de_ixA hr (de_var 1) (de_int)) (de_globI (by rfl) T.g_MAX_WORKERS.choose_spec))) (dss_one (ds_ret (de_bl))) (dss_nil)))))
  (dss_one (ds_ret (de_eq hr (de_lenSet rfl (by rfl) T.b_len (by rfl) T.b_set (de_fz [1] (de_lc [("one", 1)] rfl sc_are_asks.nd (di_seq (de_var 0)) (by kernel_rfl) (fun _ _ _ _ _ => dg_name 1 sc_are_asks.nd) (fun _ _ _ _ _ => dts_nil) (fun _ _ _ _ _ => de_ixA hr (de_var 1) (de_int))))) (de_lenA (by rfl) T.b_len (de_var 0))))))
theorem ok_skills_among (T : Txt K mg)  : CallOk P w K mg "skills_among" 1 ["crew", "asks"] fn_skills_among :=
  T.d_skills_among.ok fun f fd F base hB => fn_denI F sc_skills_among rfl rfl (by decide) fun cdv hcv A outer s H E hr tk po => dss_cons (ds_setLc2 2 [("worker", 3), ("skill", 4)] [3] [4] rfl sc_skills_among.nd rfl rfl (sw_true rfl rfl rfl (by decide +kernel)) (di_seq (de_var 0)) (by kernel_rfl) (by decide) (by decide) (fun _ _ _ _ _ => dg_name 3 sc_skills_among.nd) (fun _ _ _ _ _ => dts_nil) (fun _ _ _ _ _ => di_seq (de_var 3)) (fun _ _ _ _ _ => dg_name 4 sc_skills_among.nd) (fun _ _ _ _ _ => dts_nil) (fun _ _ _ _ _ => de_var 4))
  (dss_one (ds_ret (de_sortedSet rfl hr (by rfl) T.b_sorted (by rfl) T.b_set (de_add (de_var 2) (de_lc2 [("some", 5), ("one", 6)] [5] [6] rfl sc_skills_among.nd (di_seq (de_var 1)) (by kernel_rfl) (by decide) (by decide) (fun _ _ _ _ _ => dg_name 5 sc_skills_among.nd) (fun _ _ _ _ _ => dts_nil) (fun _ _ _ _ _ => di_seq (de_var 5)) (fun _ _ _ _ _ => dg_name 6 sc_skills_among.nd) (fun _ _ _ _ _ => dts_nil) (fun _ _ _ _ _ => de_ixA hr (de_var 6) (de_int)))))))
theorem ok_sets_of (T : Txt K mg)  : CallOk P w K mg "sets_of" 6 ["things"] fn_sets_of :=
  T.d_sets_of.okL fun f fd F c Pt hc hm base hB => fn_denI F sc_sets_of rfl rfl (by decide) fun cdv hcv A outer s H E hr tk po => dss_cons (ds_set 1 (de_lst (da_cons (de_tup (da_nil)) (da_nil))) sc_sets_of.nd)
  (dss_cons (ds_for po rfl (di_seq (de_var 0)) (dg_name 2 sc_sets_of.nd) (dss_one (ds_set 1 (de_add (de_var 1) (de_lc [("one", 3)] rfl sc_sets_of.nd (di_seq (de_var 1)) (by kernel_rfl) (fun _ _ _ _ _ => dg_name 3 sc_sets_of.nd) (fun _ _ _ _ _ => dts_nil) (fun _ _ _ _ _ => de_add (de_var 3) (de_tup (da_cons (de_var 2) (da_nil)))))) sc_sets_of.nd)))
  (dss_one (ds_ret (de_sortL hB (hcv.symm.trans hc) hm (by rfl) T.b_sorted T.b_len (k := 2) (hr.mono (by decide)) (de_var 1)))))
theorem ok_lacking_skills (T : Txt K mg) (C_sets_of : CallOk P w K mg "sets_of" 6 ["things"] fn_sets_of) (C_skills_among : CallOk P w K mg "skills_among" 1 ["crew", "asks"] fn_skills_among) : CallOk P w K mg "lacking_skills" 7 ["crew", "asks"] fn_lacking_skills :=
  T.d_lacking_skills.ok fun f fd F base hB => fn_denI F sc_lacking_skills rfl rfl (by decide) fun cdv hcv A outer s H E hr tk po => dss_cons (ds_for po rfl (di_seq (de_callN C_sets_of hB (hr.mono (by decide)) tk (by rfl) (da_cons (de_callN C_skills_among hB (hr.mono (by decide)) tk (by rfl) (da_cons (de_var 0) (da_cons (de_var 1) (da_nil)))) (da_nil)))) (dg_name 2 sc_lacking_skills.nd) (dss_cons (ds_set 3 (de_sum rfl (by rfl) T.b_sum (de_lc2 [("some", 4), ("one", 5)] [4] [5] rfl sc_lacking_skills.nd (di_seq (de_var 1)) (by kernel_rfl) (by decide) (by decide) (fun _ _ _ _ _ => dg_name 4 sc_lacking_skills.nd) (fun _ _ _ _ _ => dts_nil) (fun _ _ _ _ _ => di_seq (de_var 4)) (fun _ _ _ _ _ => dg_name 5 sc_lacking_skills.nd) (fun _ _ _ _ _ => dts_one (dt_inA hr (de_ixA hr (de_var 5) (de_int)) (de_var 2))) (fun _ _ _ _ _ => de_ixA hr (de_var 5) (de_int)))) sc_lacking_skills.nd)
  (dss_one (ds_if (dt_gt (de_var 3) (de_lenA (by rfl) T.b_len (de_lc [("worker", 6)] rfl sc_lacking_skills.nd (di_seq (de_var 0)) (by kernel_rfl) (fun _ _ _ _ _ => dg_name 6 sc_lacking_skills.nd) (fun _ _ _ _ _ => dts_one (dt_val (de_any rfl (by rfl) T.b_any (de_lc [("skill", 7)] rfl sc_lacking_skills.nd (di_seq (de_var 6)) (by kernel_rfl) (fun _ _ _ _ _ => dg_name 7 sc_lacking_skills.nd) (fun _ _ _ _ _ => dts_nil) (fun _ _ _ _ _ => de_inA hr (de_var 7) (de_var 2)))))) (fun _ _ _ _ _ => de_var 6)))) (dss_one (ds_ret (de_var 2))) (dss_nil)))))
  (dss_one (ds_ret (de_non)))
theorem ok_check_crew (T : Txt K mg) (C_are_asks : CallOk P w K mg "are_asks" 2 ["value"] fn_are_asks) (C_are_skills : CallOk P w K mg "are_skills" 2 ["value"] fn_are_skills) (C_is_row : CallOk P w K mg "is_row" 1 ["value", "most"] fn_is_row) (C_lacking_skills : CallOk P w K mg "lacking_skills" 7 ["crew", "asks"] fn_lacking_skills) (C_skills_among : CallOk P w K mg "skills_among" 1 ["crew", "asks"] fn_skills_among) : CallOk P w K mg "check_crew" 8 ["many", "crew", "asks"] fn_check_crew :=
  T.d_check_crew.ok fun f fd F base hB => fn_denI F sc_check_crew rfl rfl (by decide) fun cdv hcv A outer s H E hr tk po => dss_cons (ds_if (dt_not (dt_val (de_callN C_is_row hB (hr.mono (by decide)) tk (by rfl) (da_cons (de_var 1) (da_cons (de_globI (by rfl) T.g_MAX_WORKERS.choose_spec) (da_nil)))))) (dss_one (ds_bad)) (dss_nil))
  (dss_cons (ds_for po rfl (di_enum (by rfl) T.b_enumerate (de_var 1)) (dg_tup rfl (dgs_cons (dg_name 3 sc_check_crew.nd) (dgs_cons (dg_name 4 sc_check_crew.nd) (dgs_nil)))) (dss_one (ds_if (DW.dt (dw_or (dt_not (dt_val (de_callN C_are_skills hB (hr.mono (by decide)) tk (by rfl) (da_cons (de_var 4) (da_nil))))) (dw_or1 (dt_gt (de_lenA (by rfl) T.b_len (de_callN C_skills_among hB (hr.mono (by decide)) tk (by rfl) (da_cons (de_slice (de_var 1) (do_no) (do_some (de_add (de_var 3) (de_int)))) (da_cons (de_tup (da_nil)) (da_nil))))) (de_globI (by rfl) T.g_MAX_SKILLS.choose_spec))))) (dss_one (ds_bad)) (dss_nil))))
  (dss_cons (ds_if (DW.dt (dw_or (dt_not (dt_val (de_callN C_is_row hB (hr.mono (by decide)) tk (by rfl) (da_cons (de_var 2) (da_cons (de_globI (by rfl) T.g_MAX_MANY.choose_spec) (da_nil)))))) (dw_or1 (dt_ninA hr (de_lenA (by rfl) T.b_len (de_var 2)) (de_tup (da_cons (de_int) (da_cons (de_var 0) (da_nil)))))))) (dss_one (ds_bad)) (dss_nil))
  (dss_one (ds_for po rfl (di_enum (by rfl) T.b_enumerate (de_var 2)) (dg_tup rfl (dgs_cons (dg_name 3 sc_check_crew.nd) (dgs_cons (dg_name 5 sc_check_crew.nd) (dgs_nil)))) (dss_cons (ds_if (DW.dt (dw_or (dt_not (dt_val (de_callN C_are_asks hB (hr.mono (by decide)) tk (by rfl) (da_cons (de_var 5) (da_nil))))) (dw_or1 (dt_gt (de_lenA (by rfl) T.b_len (de_callN C_skills_among hB (hr.mono (by decide)) tk (by rfl) (da_cons (de_var 1) (da_cons (de_slice (de_var 2) (do_no) (do_some (de_add (de_var 3) (de_int)))) (da_nil))))) (de_globI (by rfl) T.g_MAX_SKILLS.choose_spec))))) (dss_one (ds_bad)) (dss_nil))
  (dss_one (ds_if (dt_notN (de_callN C_lacking_skills hB (hr.mono (by decide)) tk (by rfl) (da_cons (de_var 1) (da_cons (de_tup (da_cons (de_var 5) (da_nil))) (da_nil))))) (dss_one (ds_bad)) (dss_nil))))))))
theorem ok_Shape_0 (T : Txt K mg) (C_check_before : CallOk P w K mg "check_before" 4 ["many", "before"] fn_check_before) (C_check_crew : CallOk P w K mg "check_crew" 8 ["many", "crew", "asks"] fn_check_crew) (C_check_names : CallOk P w K mg "check_names" 2 ["names"] fn_check_names) (C_is_machine : CallOk P w K mg "is_machine" 3 ["value", "many"] fn_is_machine) (C_is_row : CallOk P w K mg "is_row" 1 ["value", "most"] fn_is_row) : MakeOk P w K mg "Shape" 9 ["self", "names", "before", "machines", "crew", "asks"] fn_Shape 1 [] (fun a b => pickL [0, 1, 2, 3, 4] (a ++ b ++ [.tup [], .tup [], .tup [], .tup []])) := by
  obtain ⟨C, f, fd, m, M, ⟨kws, F⟩, fo0⟩ := T.i_Shape
  exact ⟨C, f, fd, m, M, fun base hB => fn_denI F sc_Shape rfl rfl (by decide) fun cdv hcv A outer s H E hr tk po => dss_cons (ds_expr (de_callN C_check_names hB (hr.mono (by decide)) tk (by rfl) (da_cons (de_var 1) (da_nil))))
  (dss_cons (ds_expr (de_callN C_check_before hB (hr.mono (by decide)) tk (by rfl) (da_cons (de_lenA (by rfl) T.b_len (de_var 1)) (da_cons (de_var 2) (da_nil)))))
  (dss_cons (ds_if (dt_not (dt_val (de_callN C_is_row hB (hr.mono (by decide)) tk (by rfl) (da_cons (de_var 3) (da_cons (de_globI (by rfl) T.g_MAX_MACHINES.choose_spec) (da_nil)))))) (dss_one (ds_bad)) (dss_nil))
  (dss_cons (ds_for po rfl (di_enum (by rfl) T.b_enumerate (de_var 3)) (dg_tup rfl (dgs_cons (dg_name 6 sc_Shape.nd) (dgs_cons (dg_name 7 sc_Shape.nd) (dgs_nil)))) (dss_one (ds_if (dt_not (dt_val (de_callN C_is_machine hB (hr.mono (by decide)) tk (by rfl) (da_cons (de_var 7) (da_cons (de_lenA (by rfl) T.b_len (de_var 1)) (da_nil)))))) (dss_one (ds_bad)) (dss_nil))))
  (dss_cons (ds_expr (de_callN C_check_crew hB (hr.mono (by decide)) tk (by rfl) (da_cons (de_lenA (by rfl) T.b_len (de_var 1)) (da_cons (de_var 4) (da_cons (de_var 5) (da_nil))))))
  (dss_cons (ds_fldSet 0 T.c_Shape.choose_spec.1.mgC T.c_Shape.choose_spec.1.cl T.c_Shape.choose_spec.2.n_names (de_tupleOf (by rfl) T.b_tuple (de_var 1)))
  (dss_cons (ds_fldSet 0 T.c_Shape.choose_spec.1.mgC T.c_Shape.choose_spec.1.cl T.c_Shape.choose_spec.2.n_before (de_tupleOf (by rfl) T.b_tuple (de_var 2)))
  (dss_cons (ds_fldSet 0 T.c_Shape.choose_spec.1.mgC T.c_Shape.choose_spec.1.cl T.c_Shape.choose_spec.2.n_machines (de_tupleOf (by rfl) T.b_tuple (de_var 3)))
  (dss_cons (ds_fldSet 0 T.c_Shape.choose_spec.1.mgC T.c_Shape.choose_spec.1.cl T.c_Shape.choose_spec.2.n_crew (de_tupleOf (by rfl) T.b_tuple (de_var 4)))
  (dss_one (ds_fldSet 0 T.c_Shape.choose_spec.1.mgC T.c_Shape.choose_spec.1.cl T.c_Shape.choose_spec.2.n_asks (de_tupleOf (by rfl) T.b_tuple (de_var 5)))))))))))), fo0⟩
theorem ok_check_shape (T : Txt K mg)  : CallOk P w K mg "check_shape" 1 ["shape"] fn_check_shape :=
  T.d_check_shape.ok fun f fd F base hB => fn_denI F sc_check_shape rfl rfl (by decide) fun cdv hcv A outer s H E hr tk po => dss_one (ds_if (dt_not (dt_val (de_isiC (by rfl) T.b_isinstance (by rfl) T.c_Shape.choose_spec.1 (de_var 0)))) (dss_one (ds_bad)) (dss_nil))
theorem ok_check_durations (T : Txt K mg) (C_is_amount : CallOk P w K mg "is_amount" 3 ["value"] fn_is_amount) : CallOk P w K mg "check_durations" 4 ["shape", "durations"] fn_check_durations :=
  T.d_check_durations.ok fun f fd F base hB => fn_denI F sc_check_durations rfl rfl (by decide) fun cdv hcv A outer s H E hr tk po => dss_cons (ds_if (DW.dt (dw_or (dt_not (dt_val (de_isi (by rfl) T.b_isinstance (by rfl) T.b_tuple (by decide +kernel) (by decide) (de_var 1)))) (dw_or1 (dt_ne hr (de_lenA (by rfl) T.b_len (de_var 1)) (de_lenA (by rfl) T.b_len (de_fld T.c_Shape.choose_spec.1.mgC T.c_Shape.choose_spec.1.cl T.c_Shape.choose_spec.2.n_names (de_var 0))))))) (dss_one (ds_bad)) (dss_nil))
  (dss_one (ds_for po rfl (di_enum (by rfl) T.b_enumerate (de_var 1)) (dg_tup rfl (dgs_cons (dg_name 2 sc_check_durations.nd) (dgs_cons (dg_name 3 sc_check_durations.nd) (dgs_nil)))) (dss_one (ds_if (dt_not (dt_val (de_callN C_is_amount hB (hr.mono (by decide)) tk (by rfl) (da_cons (de_var 3) (da_nil))))) (dss_one (ds_bad)) (dss_nil)))))
theorem hb_fault_of_row (T : Txt K mg)  {q : PySem.Str} {params : Arguments} {bd : Expr} {scope : Scope} {fr : List PySem.Str} {pL : PySem.Str} {kL : Nat} {cb : Fn} (L : LamOk P w K mg q params bd scope kL [pL] fr cb) (hkL : kL ≤ 4) {base : Heap} (hB : BaseOk mg base) {fa : Addr} {cdv : Value} {A : Around} {outer : List Env} {s : Shared} {H : Hp} {E : XK} (hr : Room 4 (A.deeper (PyProof.Rows.envOfC "fault_of_row" (defScope s_fault_of_row) s.heap.objs.size fa cdv))) {f c c' Pt : Addr} {cl : List (PySem.Str × Addr)} {ws : List V} {pos : Pos} (hcv : TB.cv 0 = some (f, LamHC f q params bd scope cl c', ws)) (hm : (c, Pt, q) ∈ TB.T) (CA : CloAt (cxOf (L2.CX P w) P w K mg base ["value", "is_right", "index", "one"] "fault_of_row" (defScope s_fault_of_row) fa cdv A outer s H E) cl fr ws Pt pos c') : DSs (cxOf (L2.CX P w) P w K mg base ["value", "is_right", "index", "one"] "fault_of_row" (defScope s_fault_of_row) fa cdv A outer s H E) (fun c d _ H => E c d H) (defBody s_fault_of_row) (dn_fault_of_row cb) :=
  have tk : Takes (cxOf (L2.CX P w) P w K mg base ["value", "is_right", "index", "one"] "fault_of_row" (defScope s_fault_of_row) fa cdv A outer s H E) (fun c d _ H => E c d H) := takes_of rfl rfl rfl rfl
  have po : PassesOwn (model P w) (A.deeper (PyProof.Rows.envOfC "fault_of_row" (defScope s_fault_of_row) s.heap.objs.size fa cdv)) (cxOf (L2.CX P w) P w K mg base ["value", "is_right", "index", "one"] "fault_of_row" (defScope s_fault_of_row) fa cdv A outer s H E).env (cxOf (L2.CX P w) P w K mg base ["value", "is_right", "index", "one"] "fault_of_row" (defScope s_fault_of_row) fa cdv A outer s H E).xe := passes_of rfl
  dss_cons (ds_if (dt_not (dt_val (de_isi2 (by rfl) T.b_isinstance (by rfl) T.b_list (by decide +kernel) (by decide) (by rfl) T.b_tuple (by decide +kernel) (by decide) (de_var 0)))) (dss_one (ds_ret (de_neg (de_int)))) (dss_nil))
  (dss_cons (ds_for po rfl (di_enum (by rfl) T.b_enumerate (de_var 0)) (dg_tup rfl (dgs_cons (dg_name 2 sc_fault_of_row.nd) (dgs_cons (dg_name 3 sc_fault_of_row.nd) (dgs_nil)))) (dss_one (ds_if (DW.dt (dw_or (dt_not (dt_val (de_cb 1 CA hcv hm L hB (hr.mono hkL) tk (da_cons (de_var 3) (da_nil))))) (dw_or1 (dt_inA hr (de_var 3) (de_slice (de_var 0) (do_no) (do_some (de_var 2))))))) (dss_one (ds_ret (de_var 2))) (dss_nil))))
  (dss_one (ds_ret (de_non))))
theorem okL_check_graph_0 (T : Txt K mg) (C_is_pair : CallOk P w K mg "is_pair" 3 ["value", "many"] fn_is_pair) : LamOk P w K mg (("check_graph" : PySem.Str) ++ ".<locals>." ++ "<lambda>") (lamP la_check_graph_0) (lamB la_check_graph_0) (lamS la_check_graph_0) 4 ["one"] ["many"] fnL_check_graph_0 :=
  lam_den (N := ["one", "many"]) (NdefX.nscope_by (by decide +kernel)) rfl rfl (by decide) (fun cl pm c' ctv us hl => match us, hl with | [_], _ => rfl) fun base hB A outer s H E f c' cl hr tk => de_and (de_callN C_is_pair hB (hr.mono (by decide)) tk (by rfl) (da_cons (de_var 0) (da_cons (de_var 1) (da_nil)))) (de_one (de_lt (de_ixA hr (de_var 0) (de_int)) (de_ixA hr (de_var 0) (de_int))))
theorem okH_check_graph_0 [t : TB] (T : ∀ cv, letI : TB := TB.wi t cv; Txt K mg) (L : ∀ cv, letI : TB := TB.wi t cv; LamOk P w K mg (("check_graph" : PySem.Str) ++ ".<locals>." ++ "<lambda>") (lamP la_check_graph_0) (lamB la_check_graph_0) (lamS la_check_graph_0) 4 ["one"] ["many"] fnL_check_graph_0)  : HoOk P w K mg "fault_of_row" 4 ["value", "is_right"] (("check_graph" : PySem.Str) ++ ".<locals>." ++ "<lambda>") (lamP la_check_graph_0) (lamB la_check_graph_0) (lamS la_check_graph_0) ["many"] 2 4 (dn_fault_of_row fnL_check_graph_0) := by
  obtain ⟨f, fd, F, m, b⟩ := (T t.cv).d_fault_of_row
  exact ⟨f, fd, _, _, _, _, F, m, b, sc_fault_of_row, rfl, rfl, by decide, fun cv base hB A outer s H E f' c c' Pt cl ws pos hcv hm hr CA => (letI : TB := TB.wi t cv; hb_fault_of_row (T cv)  (L cv) (by decide) hB hr hcv hm CA)⟩
theorem ok_check_graph (T : Txt K mg) (H_check_graph_0 : HoOk P w K mg "fault_of_row" 4 ["value", "is_right"] (("check_graph" : PySem.Str) ++ ".<locals>." ++ "<lambda>") (lamP la_check_graph_0) (lamB la_check_graph_0) (lamS la_check_graph_0) ["many"] 2 4 (dn_fault_of_row fnL_check_graph_0)) : CallOk P w K mg "check_graph" 6 ["shape", "graph"] fn_check_graph :=
  T.d_check_graph.okL fun f fd F c Pt hc hm base hB => fn_denI F sc_check_graph rfl rfl (by decide) fun cdv hcv A outer s H E hr tk po => dss_cons (ds_set 2 (de_lenA (by rfl) T.b_len (de_fld T.c_Shape.choose_spec.1.mgC T.c_Shape.choose_spec.1.cl T.c_Shape.choose_spec.2.n_names (de_var 0))) sc_check_graph.nd)
  (dss_cons (ds_set 3 (de_ho (js := [2]) H_check_graph_0 hB (hr.mono (by decide)) tk (by rfl) hm (dal_cons (de_var 1) (dal_lam hB (hcv.symm.trans hc) hm (NdefX.ndef_free (sc := defScope s_check_graph) (fr := ["many"]) (by decide +kernel)))) (NdefX.ndef_free (sc := defScope s_check_graph) (fr := ["many"]) (by decide +kernel)) (NdefX.ndef_fr (sc := defScope s_check_graph) (by decide +kernel)) rfl) sc_check_graph.nd)
  (dss_one (ds_if (dt_notN (de_var 3)) (dss_one (ds_bad)) (dss_nil))))
theorem ok_cliques_of (T : Txt K mg) (C_sets_of : CallOk P w K mg "sets_of" 6 ["things"] fn_sets_of) : CallOk P w K mg "cliques_of" 7 ["graph", "many"] fn_cliques_of :=
  T.d_cliques_of.ok fun f fd F base hB => fn_denI F sc_cliques_of rfl rfl (by decide) fun cdv hcv A outer s H E hr tk po => dss_cons (ds_set 2 (de_lst (da_nil)) sc_cliques_of.nd)
  (dss_cons (ds_for po rfl (di_seq (de_callN C_sets_of hB (hr.mono (by decide)) tk (by rfl) (da_cons (de_LR1 rfl (by rfl) T.b_list (by rfl) T.b_range (de_var 1)) (da_nil)))) (dg_name 3 sc_cliques_of.nd) (dss_one (ds_if (DW.dt (dw_and (dt_ne hr (de_var 3) (de_tup (da_nil))) (dw_and1 (dt_val (de_all rfl (by rfl) T.b_all (de_lc2 [("one", 4), ("other", 5)] [4] [5] rfl sc_cliques_of.nd (di_seq (de_var 3)) (by kernel_rfl) (by decide) (by decide) (fun _ _ _ _ _ => dg_name 4 sc_cliques_of.nd) (fun _ _ _ _ _ => dts_nil) (fun _ _ _ _ _ => di_seq (de_var 3)) (fun _ _ _ _ _ => dg_name 5 sc_cliques_of.nd) (fun _ _ _ _ _ => dts_one (dt_lt (de_var 4) (de_var 5))) (fun _ _ _ _ _ => de_inA hr (de_tup (da_cons (de_var 4) (da_cons (de_var 5) (da_nil)))) (de_var 0)))))))) (dss_one (ds_app 2 (de_var 3))) (dss_nil))))
  (dss_one (ds_ret (de_var 2))))
theorem ok_time_in (T : Txt K mg) (C_cliques_of : CallOk P w K mg "cliques_of" 7 ["graph", "many"] fn_cliques_of) (C_is_less : CallOk P w K mg "is_less" 2 ["one", "other"] fn_is_less) (C_sum_of : CallOk P w K mg "sum_of" 4 ["numbers"] fn_sum_of) : CallOk P w K mg "time_in" 8 ["graph", "durations"] fn_time_in :=
  T.d_time_in.ok fun f fd F base hB => fn_denI F sc_time_in rfl rfl (by decide) fun cdv hcv A outer s H E hr tk po => dss_cons (ds_asg (de_tup (da_cons (de_non) (da_cons (de_tup (da_nil)) (da_nil)))) (dg_tup rfl (dgs_cons (dg_name 2 sc_time_in.nd) (dgs_cons (dg_name 3 sc_time_in.nd) (dgs_nil)))))
  (dss_cons (ds_for po rfl (di_seq (de_callN C_cliques_of hB (hr.mono (by decide)) tk (by rfl) (da_cons (de_var 0) (da_cons (de_lenA (by rfl) T.b_len (de_var 1)) (da_nil))))) (dg_name 4 sc_time_in.nd) (dss_cons (ds_set 5 (de_callN C_sum_of hB (hr.mono (by decide)) tk (by rfl) (da_cons (de_lc [("one", 6)] rfl sc_time_in.nd (di_seq (de_var 4)) (by kernel_rfl) (fun _ _ _ _ _ => dg_name 6 sc_time_in.nd) (fun _ _ _ _ _ => dts_nil) (fun _ _ _ _ _ => de_ixA hr (de_var 1) (de_var 6))) (da_nil))) sc_time_in.nd)
  (dss_one (ds_if (DW.dt (dw_or (dt_isN (de_var 2)) (dw_or1 (dt_val (de_callN C_is_less hB (hr.mono (by decide)) tk (by rfl) (da_cons (de_var 2) (da_cons (de_var 5) (da_nil)))))))) (dss_one (ds_par2 2 3 rfl sc_time_in.nd (da2_cons (de_var 5) (da2_cons (de_var 4) (da2_nil))))) (dss_nil)))))
  (dss_one (ds_ret (de_tup (da_cons (de_var 2) (da_cons (de_var 3) (da_nil)))))))
theorem okF_time_of (T : Txt K mg) (C_check_durations : CallOk P w K mg "check_durations" 4 ["shape", "durations"] fn_check_durations) (C_check_graph : CallOk P w K mg "check_graph" 6 ["shape", "graph"] fn_check_graph) (C_check_shape : CallOk P w K mg "check_shape" 1 ["shape"] fn_check_shape) (C_time_in : CallOk P w K mg "time_in" 8 ["graph", "durations"] fn_time_in) : ∀ f fd, FunD K "time_of" "time_of" (defArgs s_time_of) (defBody s_time_of) (defScope s_time_of) [] [] f fd → ∀ base, BaseOk mg base → FnOk P w K mg base (L2.CX P w) 9 f fd ["shape", "graph", "durations"] (cSp K mg fn_time_of) :=
  fun f fd F base hB => fn_denI F sc_time_of rfl rfl (by decide) fun cdv hcv A outer s H E hr tk po => dss_cons (ds_expr (de_callN C_check_shape hB (hr.mono (by decide)) tk (by rfl) (da_cons (de_var 0) (da_nil))))
  (dss_cons (ds_expr (de_callN C_check_graph hB (hr.mono (by decide)) tk (by rfl) (da_cons (de_var 0) (da_cons (de_var 1) (da_nil)))))
  (dss_cons (ds_expr (de_callN C_check_durations hB (hr.mono (by decide)) tk (by rfl) (da_cons (de_var 0) (da_cons (de_var 2) (da_nil)))))
  (dss_one (ds_ret (de_callN C_time_in hB (hr.mono (by decide)) tk (by rfl) (da_cons (de_var 1) (da_cons (de_var 2) (da_nil))))))))
theorem ok_time_of (T : Txt K mg) (C_check_durations : CallOk P w K mg "check_durations" 4 ["shape", "durations"] fn_check_durations) (C_check_graph : CallOk P w K mg "check_graph" 6 ["shape", "graph"] fn_check_graph) (C_check_shape : CallOk P w K mg "check_shape" 1 ["shape"] fn_check_shape) (C_time_in : CallOk P w K mg "time_in" 8 ["graph", "durations"] fn_time_in) : CallOk P w K mg "time_of" 9 ["shape", "graph", "durations"] fn_time_of := T.d_time_of.ok (okF_time_of T C_check_durations C_check_graph C_check_shape C_time_in)
theorem okK_time_of_0 (T : Txt K mg) (C_check_durations : CallOk P w K mg "check_durations" 4 ["shape", "durations"] fn_check_durations) (C_check_graph : CallOk P w K mg "check_graph" 6 ["shape", "graph"] fn_check_graph) (C_check_shape : CallOk P w K mg "check_shape" 1 ["shape"] fn_check_shape) (C_time_in : CallOk P w K mg "time_in" 8 ["graph", "durations"] fn_time_in) : CallKw P w K mg "time_of" 9 ["shape", "graph", "durations"] fn_time_of 0 ["durations", "graph", "shape"] [2, 1, 0] := T.d_time_of.okK (okF_time_of T C_check_durations C_check_graph C_check_shape C_time_in) (fun _ _ _ _ _ _ us ws l1 l2 => match us, ws, l1, l2 with | [], [_, _, _], _, _ => rfl)
theorem ok__law_well (T : Txt K mg)  : CallOk P w K mg "_law_well" 1 ["_law_script", "_law_k"] fn__law_well :=
  T.d__law_well.ok fun f fd F base hB => fn_denI F sc__law_well rfl rfl (by decide) fun cdv hcv A outer s H E hr tk po => dss_cons (ds_set 2 (de_ifExp (dt_lt (de_var 1) (de_lenA (by rfl) T.b_len (de_var 0))) (de_ixA hr (de_var 0) (de_var 1)) (de_mulK (de_int) (de_var 1))) sc__law_well.nd)
  (dss_one (ds_ret (de_lst (da_cons (de_ixA hr (de_lst (da_cons (de_int) (da_cons (de_var 2) (da_nil)))) (de_intOf (by rfl) T.b_int (de_ge (de_var 2) (de_pow (de_int) (de_int))))) (da_cons (de_mod (de_intOf (by rfl) T.b_int (de_var 2)) (de_int)) (da_cons (de_int) (da_nil)))))))
theorem ok__law_draw (T : Txt K mg)  : CallOk P w K mg "_law_draw" 1 ["_law_well_here", "_law_many"] fn__law_draw :=
  T.d__law_draw.ok fun f fd F base hB => fn_denI F sc__law_draw rfl rfl (by decide) fun cdv hcv A outer s H E hr tk po => dss_cons (ds_if (dt_gt (de_ixA hr (de_var 0) (de_int)) (de_int)) (dss_cons (ds_set 2 (de_mod (de_intOf (by rfl) T.b_int (de_ixA hr (de_var 0) (de_int))) (de_var 1)) sc__law_draw.nd)
  (dss_cons (ds_setIx 0 (de_fdiv (de_ixA hr (de_var 0) (de_int)) (de_var 1)) (de_int))
  (dss_one (ds_ret (de_var 2))))) (dss_nil))
  (dss_cons (ds_setIx 0 (de_add (de_ixA hr (de_var 0) (de_int)) (de_int)) (de_int))
  (dss_cons (ds_set 3 (de_mod (de_intOf (by rfl) T.b_int (de_mulK (de_add (de_add (de_ixA hr (de_var 0) (de_int)) (de_mulK (de_int) (de_ixA hr (de_var 0) (de_int)))) (de_int)) (de_int))) (de_int)) sc__law_draw.nd)
  (dss_cons (ds_set 3 (de_mod (de_intOf (by rfl) T.b_int (de_mulK (de_var 3) (de_add (de_fdiv (de_var 3) (de_int)) (de_int)))) (de_int)) sc__law_draw.nd)
  (dss_one (ds_ret (de_mod (de_intOf (by rfl) T.b_int (de_mod (de_intOf (by rfl) T.b_int (de_mulK (de_var 3) (de_add (de_fdiv (de_var 3) (de_int)) (de_int)))) (de_int))) (de_var 1)))))))
theorem ok__law_pick (T : Txt K mg) (C__law_draw : CallOk P w K mg "_law_draw" 1 ["_law_well_here", "_law_many"] fn__law_draw) : CallOk P w K mg "_law_pick" 2 ["_law_well_here", "_law_some"] fn__law_pick :=
  T.d__law_pick.ok fun f fd F base hB => fn_denI F sc__law_pick rfl rfl (by decide) fun cdv hcv A outer s H E hr tk po => dss_one (ds_ret (de_ixA hr (de_var 1) (de_callN C__law_draw hB (hr.mono (by decide)) tk (by rfl) (da_lend 0 (da_cons (de_lenA (by rfl) T.b_len (de_var 1)) (da_nil))))))
theorem ok__law_row (T : Txt K mg) (C__law_draw : CallOk P w K mg "_law_draw" 1 ["_law_well_here", "_law_many"] fn__law_draw) : CallOk P w K mg "_law_row" 2 ["_law_well_here", "_law_many"] fn__law_row :=
  T.d__law_row.ok fun f fd F base hB => fn_denI F sc__law_row rfl rfl (by decide) fun cdv hcv A outer s H E hr tk po => dss_cons (ds_par2 2 3 rfl sc__law_row.nd (da2_cons (de_LR1 rfl (by rfl) T.b_list (by rfl) T.b_range (de_var 1)) (da2_cons (de_lst (da_nil)) (da2_nil))))
  (dss_cons (ds_for po rfl (di_rangeW1 (by rfl) T.b_range (de_var 1)) (dg_name 4 sc__law_row.nd) (dss_one (ds_app 3 (de_pop 2 (de_callN C__law_draw hB (hr.mono (by decide)) tk (by rfl) (da_lend 0 (da_cons (de_lenA (by rfl) T.b_len (de_var 2)) (da_nil))))))))
  (dss_one (ds_ret (de_var 3))))
theorem ok__law_number (T : Txt K mg)  : CallOk P w K mg "_law_number" 1 ["_law_sixths"] fn__law_number :=
  T.d__law_number.ok fun f fd F base hB => fn_denI F sc__law_number rfl rfl (by decide) fun cdv hcv A outer s H E hr tk po => dss_cons (ds_for po rfl (di_seq (de_lst (da_cons (de_int) (da_cons (de_int) (da_cons (de_int) (da_nil)))))) (dg_name 1 sc__law_number.nd) (dss_one (ds_if (dt_eq hr (de_mod (de_intOf (by rfl) T.b_int (de_mulK (de_var 0) (de_var 1))) (de_int)) (de_int)) (dss_cons (ds_set 2 (de_fdiv (de_mulK (de_var 0) (de_var 1)) (de_int)) sc__law_number.nd)
  (dss_one (ds_ret (de_ifExp (dt_eq hr (de_var 1) (de_int)) (de_var 2) (de_tup (da_cons (de_var 2) (da_cons (de_var 1) (da_nil)))))))) (dss_nil))))
  (dss_one (ds_ret (de_tup (da_cons (de_var 0) (da_cons (de_int) (da_nil))))))
theorem ok__law_numbers (T : Txt K mg) (C__law_number : CallOk P w K mg "_law_number" 1 ["_law_sixths"] fn__law_number) : CallOk P w K mg "_law_numbers" 2 ["_law_row_here"] fn__law_numbers :=
  T.d__law_numbers.ok fun f fd F base hB => fn_denI F sc__law_numbers rfl rfl (by decide) fun cdv hcv A outer s H E hr tk po => dss_one (ds_ret (de_tupleOf (by rfl) T.b_tuple (de_lc [("_law_one", 1)] rfl sc__law_numbers.nd (di_seq (de_var 0)) (by kernel_rfl) (fun _ _ _ _ _ => dg_name 1 sc__law_numbers.nd) (fun _ _ _ _ _ => dts_nil) (fun _ _ _ _ _ => de_callN C__law_number hB (hr.mono (by decide)) takes0 (by rfl) (da_cons (de_var 1) (da_nil))))))
theorem ok__law_lengths (T : Txt K mg) (C__law_draw : CallOk P w K mg "_law_draw" 1 ["_law_well_here", "_law_many"] fn__law_draw) (C__law_pick : CallOk P w K mg "_law_pick" 2 ["_law_well_here", "_law_some"] fn__law_pick) : CallOk P w K mg "_law_lengths" 3 ["_law_well_here", "_law_many"] fn__law_lengths :=
  T.d__law_lengths.ok fun f fd F base hB => fn_denI F sc__law_lengths rfl rfl (by decide) fun cdv hcv A outer s H E hr tk po => dss_cons (ds_set 2 (de_lst (da_nil)) sc__law_lengths.nd)
  (dss_cons (ds_for po rfl (di_rangeW1 (by rfl) T.b_range (de_var 1)) (dg_name 3 sc__law_lengths.nd) (dss_cons (ds_set 4 (de_callN C__law_pick hB (hr.mono (by decide)) tk (by rfl) (da_lend 0 (da_cons (de_lst (da_cons (de_int) (da_cons (de_int) (da_cons (de_int) (da_cons (de_int) (da_cons (de_int) (da_cons (de_int) (da_cons (de_int) (da_cons (de_mulK (de_int) (de_pow (de_int) (de_int))) (da_nil)))))))))) (da_nil)))) sc__law_lengths.nd)
  (dss_one (ds_app 2 (de_mulK (de_var 4) (de_callN C__law_draw hB (hr.mono (by decide)) tk (by rfl) (da_lend 0 (da_cons (de_int) (da_nil)))))))))
  (dss_one (ds_ret (de_var 2))))
theorem ok__law_sets (T : Txt K mg)  : CallOk P w K mg "_law_sets" 1 ["_law_many"] fn__law_sets :=
  T.d__law_sets.ok fun f fd F base hB => fn_denI F sc__law_sets rfl rfl (by decide) fun cdv hcv A outer s H E hr tk po => dss_cons (ds_set 1 (de_lst (da_nil)) sc__law_sets.nd)
  (dss_cons (ds_for po rfl (di_rangeW2 (by rfl) T.b_range (de_int) (de_pow (de_int) (de_int))) (dg_name 2 sc__law_sets.nd) (dss_cons (ds_setLc 3 [("_law_one", 4)] rfl sc__law_sets.nd rfl rfl (sw_true rfl rfl rfl (by decide +kernel)) (di_rangeW1 (by rfl) T.b_range (de_var 0)) (by kernel_rfl) (fun _ _ _ _ _ => dg_name 4 sc__law_sets.nd) (fun _ _ _ _ _ => dts_one (dt_eq hr (de_band (de_fdiv (de_var 2) (de_ixA hr (de_lst (da_cons (de_int) (da_cons (de_int) (da_cons (de_int) (da_cons (de_int) (da_cons (de_int) (da_cons (de_int) (da_cons (de_int) (da_nil))))))))) (de_var 4))) (de_int)) (de_int))) (fun _ _ _ _ _ => de_var 4))
  (dss_one (ds_if (dt_lt (de_var 2) (de_ixA hr (de_lst (da_cons (de_int) (da_cons (de_int) (da_cons (de_int) (da_cons (de_int) (da_cons (de_int) (da_cons (de_int) (da_cons (de_int) (da_nil))))))))) (de_sub (de_var 0) (de_int)))) (dss_one (ds_app 1 (de_tup (da_cons (de_lenA (by rfl) T.b_len (de_var 3)) (da_cons (de_tupleOf (by rfl) T.b_tuple (de_var 3)) (da_nil)))))) (dss_nil)))))
  (dss_one (ds_ret (de_fz [3] (de_lc [("_law_size", 5), ("_law_some", 3)] rfl sc__law_sets.nd (di_seq (de_sortA hr (by rfl) T.b_sorted (de_var 1))) (by kernel_rfl) (fun _ _ _ _ _ => dg_tup rfl (dgs_cons (dg_name 5 sc__law_sets.nd) (dgs_cons (dg_name 3 sc__law_sets.nd) (dgs_nil)))) (fun _ _ _ _ _ => dts_nil) (fun _ _ _ _ _ => de_var 3))))))
theorem ok__law_is_clique (T : Txt K mg)  : CallOk P w K mg "_law_is_clique" 1 ["_law_edges", "_law_some"] fn__law_is_clique :=
  T.d__law_is_clique.ok fun f fd F base hB => fn_denI F sc__law_is_clique rfl rfl (by decide) fun cdv hcv A outer s H E hr tk po => dss_cons (ds_for po rfl (di_seq (de_var 1)) (dg_name 2 sc__law_is_clique.nd) (dss_one (ds_for po rfl (di_seq (de_var 1)) (dg_name 3 sc__law_is_clique.nd) (dss_one (ds_if (DW.dt (dw_and (dt_lt (de_var 2) (de_var 3)) (dw_and1 (dt_ninA hr (de_tup (da_cons (de_var 2) (da_cons (de_var 3) (da_nil)))) (de_var 0))))) (dss_one (ds_ret (de_bl))) (dss_nil))))))
  (dss_one (ds_ret (de_bl)))
theorem ok__law_due (T : Txt K mg) (C__law_is_clique : CallOk P w K mg "_law_is_clique" 1 ["_law_edges", "_law_some"] fn__law_is_clique) (C__law_number : CallOk P w K mg "_law_number" 1 ["_law_sixths"] fn__law_number) (C__law_sets : CallOk P w K mg "_law_sets" 1 ["_law_many"] fn__law_sets) : CallOk P w K mg "_law_due" 2 ["_law_edges", "_law_lengths_here"] fn__law_due :=
  T.d__law_due.ok fun f fd F base hB => fn_denI F sc__law_due rfl rfl (by decide) fun cdv hcv A outer s H E hr tk po => dss_cons (ds_asg (de_tup (da_cons (de_neg (de_int)) (da_cons (de_tup (da_nil)) (da_nil)))) (dg_tup rfl (dgs_cons (dg_name 2 sc__law_due.nd) (dgs_cons (dg_name 3 sc__law_due.nd) (dgs_nil)))))
  (dss_cons (ds_for po rfl (di_seq (de_callN C__law_sets hB (hr.mono (by decide)) tk (by rfl) (da_cons (de_lenA (by rfl) T.b_len (de_var 1)) (da_nil)))) (dg_name 4 sc__law_due.nd) (dss_cons (ds_set 5 (de_sum rfl (by rfl) T.b_sum (de_lc [("_law_one", 6)] rfl sc__law_due.nd (di_seq (de_var 4)) (by kernel_rfl) (fun _ _ _ _ _ => dg_name 6 sc__law_due.nd) (fun _ _ _ _ _ => dts_nil) (fun _ _ _ _ _ => de_ixA hr (de_var 1) (de_var 6)))) sc__law_due.nd)
  (dss_one (ds_if (DW.dt (dw_and (dt_gt (de_var 5) (de_var 2)) (dw_and1 (dt_val (de_callN C__law_is_clique hB (hr.mono (by decide)) tk (by rfl) (da_cons (de_var 0) (da_cons (de_var 4) (da_nil)))))))) (dss_one (ds_par2 2 3 rfl sc__law_due.nd (da2_cons (de_var 5) (da2_cons (de_var 4) (da2_nil))))) (dss_nil)))))
  (dss_one (ds_ret (de_tup (da_cons (de_callN C__law_number hB (hr.mono (by decide)) tk (by rfl) (da_cons (de_var 2) (da_nil))) (da_cons (de_var 3) (da_nil)))))))
theorem ok__law_right (T : Txt K mg) (C__law_draw : CallOk P w K mg "_law_draw" 1 ["_law_well_here", "_law_many"] fn__law_draw) (C__law_due : CallOk P w K mg "_law_due" 2 ["_law_edges", "_law_lengths_here"] fn__law_due) (C__law_lengths : CallOk P w K mg "_law_lengths" 3 ["_law_well_here", "_law_many"] fn__law_lengths) (C__law_numbers : CallOk P w K mg "_law_numbers" 2 ["_law_row_here"] fn__law_numbers) (C__law_pick : CallOk P w K mg "_law_pick" 2 ["_law_well_here", "_law_some"] fn__law_pick) (C__law_row : CallOk P w K mg "_law_row" 2 ["_law_well_here", "_law_many"] fn__law_row) (C_Shape_0 : MakeOk P w K mg "Shape" 9 ["self", "names", "before", "machines", "crew", "asks"] fn_Shape 1 [] (fun a b => pickL [0, 1, 2, 3, 4] (a ++ b ++ [.tup [], .tup [], .tup [], .tup []]))) (K_time_of_0 : CallKw P w K mg "time_of" 9 ["shape", "graph", "durations"] fn_time_of 0 ["durations", "graph", "shape"] [2, 1, 0]) (C_time_of : CallOk P w K mg "time_of" 9 ["shape", "graph", "durations"] fn_time_of) : CallOk P w K mg "_law_right" 11 ["_law_well_here"] fn__law_right :=
  T.d__law_right.ok fun f fd F base hB => fn_denI F sc__law_right rfl rfl (by decide) fun cdv hcv A outer s H E hr tk po => dss_cons (ds_set 1 (de_add (de_int) (de_callN C__law_draw hB (hr.mono (by decide)) tk (by rfl) (da_lend 0 (da_cons (de_int) (da_nil))))) sc__law_right.nd)
  (dss_cons (ds_asg (de_tup (da_cons (de_callN C__law_lengths hB (hr.mono (by decide)) tk (by rfl) (da_lend 0 (da_cons (de_var 1) (da_nil)))) (da_cons (de_callN C__law_pick hB (hr.mono (by decide)) tk (by rfl) (da_lend 0 (da_cons (de_lst (da_cons (de_int) (da_cons (de_int) (da_cons (de_int) (da_cons (de_int) (da_cons (de_int) (da_nil))))))) (da_nil)))) (da_nil)))) (dg_tup rfl (dgs_cons (dg_name 2 sc__law_right.nd) (dgs_cons (dg_name 3 sc__law_right.nd) (dgs_nil)))))
  (dss_cons (ds_if (dt_eq hr (de_callN C__law_draw hB (hr.mono (by decide)) tk (by rfl) (da_lend 0 (da_cons (de_int) (da_nil)))) (de_int)) (dss_one (ds_set 2 (de_fz [4] (de_lc [("_law_one", 4)] rfl sc__law_right.nd (di_rangeW1 (by rfl) T.b_range (de_var 1)) (by kernel_rfl) (fun _ _ _ _ _ => dg_name 4 sc__law_right.nd) (fun _ _ _ _ _ => dts_nil) (fun _ _ _ _ _ => de_callN C__law_pick hB (hr.mono (by decide)) takes0 (by rfl) (da_lend 0 (da_cons (de_lst (da_cons (de_int) (da_cons (de_int) (da_cons (de_int) (da_cons (de_ixA hr (de_var 2) (de_int)) (da_nil)))))) (da_nil)))))) sc__law_right.nd)) (dss_nil))
  (dss_cons (ds_par2 5 6 rfl sc__law_right.nd (da2_cons (de_makeN C_Shape_0 hB (hr.mono (by decide)) tk (fun _ _ _ _ _ z => z) (by rfl) (da_cons (de_tupleOf (by rfl) T.b_tuple (de_fz [4] (de_lc [("_law_one", 4)] rfl sc__law_right.nd (di_rangeW1 (by rfl) T.b_range (de_var 1)) (by kernel_rfl) (fun _ _ _ _ _ => dg_name 4 sc__law_right.nd) (fun _ _ _ _ _ => dts_nil) (fun _ _ _ _ _ => de_add (de_str) (de_strOf (by rfl) T.b_str (de_var 4)))))) (da_nil)) (dk_nil)) (da2_cons (de_callN C__law_numbers hB (hr.mono (by decide)) tk (by rfl) (da_cons (de_var 2) (da_nil))) (da2_nil))))
  (dss_cons (ds_for po rfl (di_rangeW1 (by rfl) T.b_range (de_int)) (dg_name 7 sc__law_right.nd) (dss_cons (ds_set 8 (de_lst (da_nil)) sc__law_right.nd)
  (dss_cons (ds_for po rfl (di_rangeW1 (by rfl) T.b_range (de_var 1)) (dg_name 4 sc__law_right.nd) (dss_one (ds_for po rfl (di_rangeW2 (by rfl) T.b_range (de_add (de_var 4) (de_int)) (de_var 1)) (dg_name 9 sc__law_right.nd) (dss_one (ds_if (dt_eq hr (de_callN C__law_draw hB (hr.mono (by decide)) tk (by rfl) (da_lend 0 (da_cons (de_var 3) (da_nil)))) (de_int)) (dss_one (ds_app 8 (de_tup (da_cons (de_var 4) (da_cons (de_var 9) (da_nil)))))) (dss_nil))))))
  (dss_cons (ds_setLc 10 [("_law_at", 11)] rfl sc__law_right.nd rfl rfl (sw_true rfl rfl rfl (by decide +kernel)) (di_seq (de_callN C__law_row hB (hr.mono (by decide)) tk (by rfl) (da_lend 0 (da_cons (de_lenA (by rfl) T.b_len (de_var 8)) (da_nil))))) (by kernel_rfl) (fun _ _ _ _ _ => dg_name 11 sc__law_right.nd) (fun _ _ _ _ _ => dts_nil) (fun _ _ _ _ _ => de_ixA hr (de_var 8) (de_var 11)))
  (dss_cons (ds_par2 12 13 rfl sc__law_right.nd (da2_cons (de_callN C__law_due hB (hr.mono (by decide)) tk (by rfl) (da_cons (de_var 8) (da_cons (de_var 2) (da_nil)))) (da2_cons (de_listOf (by rfl) T.b_list (de_var 10)) (da2_nil))))
  (dss_cons (ds_for po rfl (di_seq (de_tup (da_cons (de_var 10) (da_cons (de_tupleOf (by rfl) T.b_tuple (de_var 10)) (da_cons (de_var 8) (da_nil)))))) (dg_name 14 sc__law_right.nd) (dss_one (ds_if (DW.dt (dw_or (dt_ne hr (de_callN C_time_of hB (hr.mono (by decide)) tk (by rfl) (da_cons (de_var 5) (da_cons (de_var 14) (da_cons (de_var 6) (da_nil))))) (de_var 12)) (dw_or1 (dt_ne hr (de_callKw0 K_time_of_0 hB (hr.mono (by decide)) tk (by rfl) (dk_cons (de_var 6) (dk_cons (de_var 14) (dk_cons (de_var 5) (dk_nil))))) (de_var 12))))) (dss_one (ds_ret (de_bl))) (dss_nil))))
  (dss_one (ds_if (dt_ne hr (de_var 10) (de_var 13)) (dss_one (ds_ret (de_bl))) (dss_nil)))))))))
  (dss_one (ds_ret (de_bl)))))))
theorem ok_law (T : Txt K mg) (C__law_right : CallOk P w K mg "_law_right" 11 ["_law_well_here"] fn__law_right) (C__law_well : CallOk P w K mg "_law_well" 1 ["_law_script", "_law_k"] fn__law_well) : CallOk P w K mg "law" 12 ["_law_script"] fn_law :=
  T.d_law.ok fun f fd F base hB => fn_denI F sc_law rfl rfl (by decide) fun cdv hcv A outer s H E hr tk po => dss_cons (ds_for po rfl (di_rangeW1 (by rfl) T.b_range (de_max2 rfl (by rfl) T.b_max (de_int) (de_min2 rfl (by rfl) T.b_min (de_int) (de_lenA (by rfl) T.b_len (de_var 0))))) (dg_name 1 sc_law.nd) (dss_one (ds_if (dt_not (dt_val (de_callO C__law_right hB (hr.mono (by decide)) tk (by rfl) (de_callN C__law_well hB (hr.mono (by decide)) tk (by rfl) (da_cons (de_var 0) (da_cons (de_var 1) (da_nil))))))) (dss_one (ds_ret (de_bl))) (dss_nil))))
  (dss_one (ds_ret (de_bl)))
end
end Lw


set_option Elab.async false
set_option linter.all false
set_option maxRecDepth 100000
set_option maxHeartbeats 1000000
namespace Lw
open PySem L2 Y
variable [TB]
@[simp] theorem sb1 : subB "int" "int" = true := by decide
@[simp] theorem sb2 : subB "int" "bool" = false := by decide
@[simp] theorem sb3 : subB "tuple" "int" = false := by decide
@[simp] theorem sb4 : subB "tuple" "tuple" = true := by decide
@[simp] theorem sb5 : subB "tuple" "bool" = false := by decide
@[simp] theorem sb6 : subB "int" "tuple" = false := by decide
@[simp] theorem sb7 : subB "list" "list" = true := by decide
@[simp] theorem sb8 : subB "tuple" "list" = false := by decide
@[simp] theorem sb9 : subB "list" "tuple" = false := by decide
@[simp] theorem sb10 : subB "str" "str" = true := by decide
theorem slk {n : Nat} (h : n ≤ 9999) : n ≤ sizeLine := Nat.le_of_lt (small_line (by omega))
@[simp] theorem sl1 : 1 ≤ sizeLine := slk (by omega)
@[simp] theorem sl2 : 2 ≤ sizeLine := slk (by omega)
@[simp] theorem sl3 : 3 ≤ sizeLine := slk (by omega)
@[simp] theorem sl4 : 4 ≤ sizeLine := slk (by omega)
@[simp] theorem sl5 : 5 ≤ sizeLine := slk (by omega)
@[simp] theorem sl6 : 6 ≤ sizeLine := slk (by omega)
@[simp] theorem sl7 : 7 ≤ sizeLine := slk (by omega)
@[simp] theorem sl8 : 8 ≤ sizeLine := slk (by omega)
def soS : Option D → Slot
  | none => .no
  | some d => .val d
@[simp] theorem v_soS (o : Option D) : stoS (some (soS o)) = true := by cases o <;> rfl
theorem soS_some (d : D) : soS (some d) = .val d := rfl
/-! numbers: fractions as they are written -/
def qD (x : Rat) : D := if x.den = 1 then .int x.num else .tup [.int x.num, .int x.den]
theorem l_div : ∀ (n a b : Nat), b < n → whRun wc_divisor_of_1 wb_divisor_of_1 n [.val (.int a), .val (.int b)] = .ok .nx [.val (.int (Nat.gcd a b : Nat)), .val (.int (0 : Nat))]
  | 0, a, b, h => by omega
  | n + 1, a, b, h => by
    rw [v_wh]
    by_cases z : b = 0
    · subst z
      simp [wc_divisor_of_1, eq_int]
    · have e := l_div n b (a % b) (by have := Nat.mod_lt a (show 0 < b by omega); omega)
      rw [show Nat.gcd a b = Nat.gcd b (a % b) by rw [Nat.gcd_comm a b, Nat.gcd_rec, Nat.gcd_comm]]
      have hb : 0 < b := by omega
      have hm : ((a % b : Nat) : Int) = (a : Int) % (b : Int) := by omega
      rw [← e]
      simp [wc_divisor_of_1, wb_divisor_of_1, eq_int, z, hb, hm]
theorem t_divisor (a b : Nat) : fn_divisor_of [.val (.int a), .val (.int b)] = .ok (.val (.int (Nat.gcd a b : Nat))) [.val (.int a), .val (.int b)] := by
  have e := l_div (b + 1) a b (by omega)
  have ew := sWhile_eq (n := b + 1) (by rw [e]; exact fun z => by cases z)
  rw [e] at ew
  have z : ¬ ((Nat.gcd a b : Nat) : Int) < 0 := by omega
  simp at ew
  simp [fn_divisor_of, dn_divisor_of, ew, z]
theorem t_int (i : Int) : fn_is_int [.val (.int i)] = .ok (.val (.bl true)) [.val (.int i)] := by
  simp [fn_is_int, dn_is_int]
theorem t_halves (x : Rat) : fn_halves_of [.val (qD x)] = .ok (.val (.tup [.int x.num, .int x.den])) [.val (qD x)] := by
  unfold qD
  by_cases h : x.den = 1
  · rw [if_pos h]
    simp [fn_halves_of, dn_halves_of, h, sl2]
  · rw [if_neg h]
    simp [fn_halves_of, dn_halves_of]
theorem th_int (n : Int) : fn_halves_of [.val (.int n)] = .ok (.val (.tup [.int n, .int 1])) [.val (.int n)] := by
  simp [fn_halves_of, dn_halves_of, sl2]
theorem th_tup (n m : Int) : fn_halves_of [.val (.tup [.int n, .int m])] = .ok (.val (.tup [.int n, .int m])) [.val (.tup [.int n, .int m])] := by
  simp [fn_halves_of, dn_halves_of]
theorem t_less (x y : Rat) (hx : x.den ≤ 1000000) (hy : y.den ≤ 1000000) : fn_is_less [.val (qD x), .val (qD y)] = .ok (.val (.bl (decide (x < y)))) [.val (qD x), .val (qD y)] := by
  have e : decide (x < y) = decide (x.num * (y.den : Int) < y.num * (x.den : Int)) := by
    rw [decide_eq_decide]
    exact Rat.lt_iff x y
  rw [e]
  have a1 : (y.den : Int) < 18446744073709551616 := by omega
  have a2 : (x.den : Int) < 18446744073709551616 := by omega
  have a3 : -18446744073709551616 < (y.den : Int) := by omega
  have a4 : -18446744073709551616 < (x.den : Int) := by omega
  simp [fn_is_less, dn_is_less, t_halves, mulK, a1, a2, a3, a4]
theorem t_number (t b : Nat) (hb : 0 < b) (hbb : b < 1073741824) : fn_number_of [.val (.int t), .val (.int b)] = .ok (.val (qD (mkRat t b))) [.val (.int t), .val (.int b)] := by
  have hn : (mkRat (t : Int) b).num = ((t / Nat.gcd t b : Nat) : Int) := by
    rw [Rat.num_mkRat, if_neg (by omega)]
    rw [Nat.gcd_comm]
    simp
  have hd : (mkRat (t : Int) b).den = b / Nat.gcd t b := by
    rw [Rat.den_mkRat, if_neg (by omega), Nat.gcd_comm]
    simp
  have hg : 0 < Nat.gcd t b := Nat.gcd_pos_of_pos_right t hb
  have hgl : Nat.gcd t b ≤ b := Nat.gcd_le_right t hb
  have g1 : 0 < ((Nat.gcd t b : Nat) : Int) := by omega
  have g2 : ((Nat.gcd t b : Nat) : Int) < 1073741824 := by omega
  have nb : ¬ ((b : Int) < 0) := by omega
  unfold qD
  rw [hn, hd]
  by_cases h1 : b = 1
  · subst h1
    simp [fn_number_of, dn_number_of, eq_int]
  · have h1' : ¬ ((b : Int) = 1) := by omega
    by_cases h2 : b = Nat.gcd t b
    · have e1 : b / Nat.gcd t b = 1 := by rw [← h2]; exact Nat.div_self hb
      rw [if_pos e1]
      have h2' : (b : Int) = ((Nat.gcd t b : Nat) : Int) := by omega
      have h2d : ((b : Int) = ((Nat.gcd t b : Nat) : Int)) = True := eq_true h2'
      simp only [fn_number_of, dn_number_of]
      simp [eq_int, nb, h1', t_divisor, g2, h2d, hb]
    · have e1 : b / Nat.gcd t b ≠ 1 := fun z => by
        have := Nat.div_mul_cancel (Nat.gcd_dvd_right t b)
        rw [z] at this
        omega
      rw [if_neg e1]
      have h2' : ¬ ((b : Int) = ((Nat.gcd t b : Nat) : Int)) := by omega
      simp [fn_number_of, dn_number_of, eq_int, nb, h1', t_divisor, g2, h2', hb, sl2]
/-! sixths -/
def sQ (s : Nat) : Rat := mkRat (s : Int) 6
def sD (s : Nat) : D := qD (sQ s)
theorem sQ_den (s : Nat) : (sQ s).den ≤ 6 := by
  unfold sQ
  rw [Rat.den_mkRat, if_neg (by omega)]
  exact Nat.div_le_self _ _
theorem sQ_num (s : Nat) : ∃ n : Nat, (sQ s).num = (n : Int) := by
  refine ⟨s / Nat.gcd 6 s, ?_⟩
  unfold sQ
  rw [Rat.num_mkRat, if_neg (by omega)]
  simp
theorem sQ_add (a b : Nat) : sQ a + sQ b = sQ (a + b) := by
  unfold sQ
  rw [Rat.mkRat_add_mkRat _ _ (by omega) (by omega), Rat.mkRat_eq_iff (by omega) (by omega)]
  simp
  omega
theorem sQ_eq (a : Nat) : (sQ a).num * 6 = a * ((sQ a).den : Int) := by
  have h : mkRat (sQ a).num (sQ a).den = mkRat (a : Int) 6 := Rat.mkRat_self (sQ a)
  have := (Rat.mkRat_eq_iff (sQ a).den_nz (by omega)).mp h
  exact this
theorem sQ_lt (a b : Nat) : sQ a < sQ b ↔ a < b := by
  rw [Rat.lt_iff]
  have h1 := sQ_eq a
  have h2 := sQ_eq b
  have p1 : 0 < ((sQ a).den : Int) := by have := (sQ a).den_nz; omega
  have p2 : 0 < ((sQ b).den : Int) := by have := (sQ b).den_nz; omega
  have e1 : (sQ a).num * ((sQ b).den : Int) * 6 = a * (((sQ a).den : Int) * ((sQ b).den : Int)) := by
    rw [Int.mul_right_comm, h1, Int.mul_assoc]
  have e2 : (sQ b).num * ((sQ a).den : Int) * 6 = b * (((sQ a).den : Int) * ((sQ b).den : Int)) := by
    rw [Int.mul_right_comm, h2, Int.mul_assoc, Int.mul_comm ((sQ b).den : Int)]
  have pp : 0 < ((sQ a).den : Int) * ((sQ b).den : Int) := Int.mul_pos p1 p2
  constructor
  · intro h
    have h6 : (sQ a).num * ((sQ b).den : Int) * 6 < (sQ b).num * ((sQ a).den : Int) * 6 := by omega
    rw [e1, e2] at h6
    have := Int.lt_of_mul_lt_mul_right h6 (Int.le_of_lt pp)
    omega
  · intro h
    have h6 : (a : Int) * (((sQ a).den : Int) * ((sQ b).den : Int)) < b * (((sQ a).den : Int) * ((sQ b).den : Int)) := Int.mul_lt_mul_of_pos_right (by omega) pp
    rw [← e1, ← e2] at h6
    omega
theorem t_plus (a b : Nat) : fn_plus [.val (sD a), .val (sD b)] = .ok (.val (sD (a + b))) [.val (sD a), .val (sD b)] := by
  obtain ⟨n, hn⟩ := sQ_num a
  obtain ⟨m, hm⟩ := sQ_num b
  have da := sQ_den a
  have db := sQ_den b
  have na := (sQ a).den_nz
  have nb := (sQ b).den_nz
  have e : sQ (a + b) = mkRat ((n * (sQ b).den + m * (sQ a).den : Nat) : Int) ((sQ a).den * (sQ b).den) := by
    rw [← sQ_add, Rat.add_def, Rat.normalize_eq_mkRat, hn, hm]
    congr 1
  have key := t_number (n * (sQ b).den + m * (sQ a).den) ((sQ a).den * (sQ b).den) (Nat.mul_pos (by omega) (by omega)) (by
    have : (sQ a).den * (sQ b).den ≤ 6 * 6 := Nat.mul_le_mul da db
    omega)
  rw [← e] at key
  have a1 : ((sQ b).den : Int) < 18446744073709551616 := by omega
  have a2 : ((sQ a).den : Int) < 18446744073709551616 := by omega
  have a3 : -18446744073709551616 < ((sQ b).den : Int) := by omega
  have a4 : -18446744073709551616 < ((sQ a).den : Int) := by omega
  have ea : sD a = if (sQ a).den = 1 then .int n else .tup [.int n, .int (sQ a).den] := by unfold sD qD; rw [hn]
  have eb : sD b = if (sQ b).den = 1 then .int m else .tup [.int m, .int (sQ b).den] := by unfold sD qD; rw [hm]
  have key' : fn_number_of [.val (.int ((n : Int) * (sQ b).den + m * (sQ a).den)), .val (.int ((sQ a).den * (sQ b).den))] = .ok (.val (sD (a + b))) [.val (.int ((n : Int) * (sQ b).den + m * (sQ a).den)), .val (.int ((sQ a).den * (sQ b).den))] := by
    have z := key
    rw [show (((n * (sQ b).den + m * (sQ a).den : Nat)) : Int) = (n : Int) * (sQ b).den + m * (sQ a).den by simp, show (((sQ a).den * (sQ b).den : Nat) : Int) = (sQ a).den * (sQ b).den by simp] at z
    exact z
  by_cases h1 : (sQ a).den = 1
  · by_cases h2 : (sQ b).den = 1
    · have q3 : sD (a + b) = .int ((n : Int) + m) := by
        unfold sD
        rw [e, h1, h2]
        unfold qD
        simp [Rat.num_mkRat, Rat.den_mkRat]
      rw [ea, eb, q3, if_pos h1, if_pos h2]
      simp [fn_plus, dn_plus]
    · rw [ea, eb, if_pos h1, if_neg h2]
      rw [h1] at key'
      simp at key'
      simp [fn_plus, dn_plus, th_int, th_tup, mulK, a1, a3, key']
  · by_cases h2 : (sQ b).den = 1
    · rw [ea, eb, if_neg h1, if_pos h2]
      rw [h2] at key'
      simp at key'
      simp [fn_plus, dn_plus, th_int, th_tup, mulK, a2, a4, key']
    · rw [ea, eb, if_neg h1, if_neg h2]
      simp [fn_plus, dn_plus, th_int, th_tup, mulK, a1, a2, a3, a4, key']
end Lw

set_option Elab.async false
set_option linter.all false
set_option maxRecDepth 100000
set_option maxHeartbeats 1000000
namespace Lw
open PySem L2 Y
variable [TB]
theorem t_less6 (a b : Nat) : fn_is_less [.val (sD a), .val (sD b)] = .ok (.val (.bl (decide (a < b)))) [.val (sD a), .val (sD b)] := by
  have h := t_less (sQ a) (sQ b) (by have := sQ_den a; omega) (by have := sQ_den b; omega)
  rw [show decide (sQ a < sQ b) = decide (a < b) from decide_eq_decide.mpr (sQ_lt a b)] at h
  exact h
theorem sD_form (a : Nat) : ∃ n d : Nat, 1 ≤ d ∧ d ≤ 6 ∧ Nat.gcd n d = 1 ∧ sD a = if d = 1 then .int n else .tup [.int n, .int d] := by
  obtain ⟨n, hn⟩ := sQ_num a
  refine ⟨n, (sQ a).den, by have := (sQ a).den_nz; omega, sQ_den a, ?_, by unfold sD qD; rw [hn]⟩
  have := (sQ a).reduced
  rw [hn] at this
  exact this
theorem t_isnum (a : Nat) : fn_is_number [.val (sD a)] = .ok (.val (.bl true)) [.val (sD a)] := by
  obtain ⟨n, d, h1, h6, hg, e⟩ := sD_form a
  rw [e]
  by_cases h : d = 1
  · rw [if_pos h]
    simp [fn_is_number, dn_is_number, t_int]
  · rw [if_neg h]
    have hi : fn_is_int [.val (.tup [.int n, .int d])] = .ok (.val (.bl false)) [.val (.tup [.int n, .int d])] := by
      simp [fn_is_int, dn_is_int]
    have hd : (1 : Int) < d := by omega
    have i0 : atI [D.int (n : Int), D.int d] 0 = some (.int n) := rfl
    have i1 : atI [D.int (n : Int), D.int d] 1 = some (.int d) := rfl
    simp [fn_is_number, dn_is_number, hi, t_int, i0, i1, eq_int, t_divisor, hd, hg]
theorem t_isamount (a : Nat) : fn_is_amount [.val (sD a)] = .ok (.val (.bl true)) [.val (sD a)] := by
  have hh := t_halves (sQ a)
  obtain ⟨n, hn⟩ := sQ_num a
  rw [hn] at hh
  have hn' := t_isnum a
  unfold sD at *
  have i0 : atI [D.int (n : Int), D.int (sQ a).den] 0 = some (.int n) := rfl
  simp [fn_is_amount, dn_is_amount, hn', hh, i0]
theorem t_lawnum (s : Nat) : fn__law_number [.val (.int s)] = .ok (.val (sD s)) [.val (.int s)] := by
  have ek : s = 6 * (s / 6) + s % 6 := by omega
  have hr : s % 6 < 6 := Nat.mod_lt _ (by omega)
  have hg : Nat.gcd 6 s = Nat.gcd (s % 6) 6 := Nat.gcd_rec 6 s
  have hn : (sQ s).num = ((s / Nat.gcd (s % 6) 6 : Nat) : Int) := by
    unfold sQ
    rw [Rat.num_mkRat, if_neg (by omega)]
    simp [hg]
  have hd : (sQ s).den = 6 / Nat.gcd (s % 6) 6 := by
    unfold sQ
    rw [Rat.den_mkRat, if_neg (by omega)]
    simp [hg]
  have lt : ∀ j : Int, j = 1 ∨ j = 2 ∨ j = 3 → (-18446744073709551616 < j ∧ j < 18446744073709551616) := fun j h => by omega
  have c : s % 6 = 0 ∨ s % 6 = 1 ∨ s % 6 = 2 ∨ s % 6 = 3 ∨ s % 6 = 4 ∨ s % 6 = 5 := by omega
  unfold sD qD
  rw [hn, hd]
  rcases c with c | c | c | c | c | c
  · rw [c]
    have r1 : (s : Int) % 6 = 0 := by omega
    simp [fn__law_number, dn__law_number, lb__law_number_1, v_forC, v_forN, eq_int, mulK, r1]
  · rw [c]
    have r1 : ¬ ((s : Int) % 6 = 0) := by omega
    have r2 : ¬ ((s : Int) * 2 % 6 = 0) := by omega
    have r3 : ¬ ((s : Int) * 3 % 6 = 0) := by omega
    simp [fn__law_number, dn__law_number, lb__law_number_1, v_forC, v_forN, eq_int, mulK, r1, r2, r3, sl2]
  · rw [c]
    have r1 : ¬ ((s : Int) % 6 = 0) := by omega
    have r2 : ¬ ((s : Int) * 2 % 6 = 0) := by omega
    have r3 : (s : Int) * 3 % 6 = 0 := by omega
    have r4 : (s : Int) * 3 / 6 = (s : Int) / 2 := by omega
    simp [fn__law_number, dn__law_number, lb__law_number_1, v_forC, v_forN, eq_int, mulK, r1, r2, r3, r4, sl2]
  · rw [c]
    have r1 : ¬ ((s : Int) % 6 = 0) := by omega
    have r2 : (s : Int) * 2 % 6 = 0 := by omega
    have r4 : (s : Int) * 2 / 6 = (s : Int) / 3 := by omega
    simp [fn__law_number, dn__law_number, lb__law_number_1, v_forC, v_forN, eq_int, mulK, r1, r2, r4, sl2]
  · rw [c]
    have r1 : ¬ ((s : Int) % 6 = 0) := by omega
    have r2 : ¬ ((s : Int) * 2 % 6 = 0) := by omega
    have r3 : (s : Int) * 3 % 6 = 0 := by omega
    have r4 : (s : Int) * 3 / 6 = (s : Int) / 2 := by omega
    simp [fn__law_number, dn__law_number, lb__law_number_1, v_forC, v_forN, eq_int, mulK, r1, r2, r3, r4, sl2]
  · rw [c]
    have r1 : ¬ ((s : Int) % 6 = 0) := by omega
    have r2 : ¬ ((s : Int) * 2 % 6 = 0) := by omega
    have r3 : ¬ ((s : Int) * 3 % 6 = 0) := by omega
    simp [fn__law_number, dn__law_number, lb__law_number_1, v_forC, v_forN, eq_int, mulK, r1, r2, r3, sl2]
theorem t_lawnums (ss : List Nat) (hl : ss.length ≤ 10000) : fn__law_numbers [.val (.lst (ss.map fun s : Nat => D.int s))] = .ok (.val (.tup (ss.map sD))) [.val (.lst (ss.map fun s : Nat => D.int s))] := by
  have h := lc_map (t := tName 1) (p := tYesD) (f := le__law_numbers_1) (vs := [1]) (e := [.val (.lst (ss.map fun s : Nat => D.int s)), .no]) (enc := fun s : Nat => D.int s) sD ss hl (fun a _ => by simp [le__law_numbers_1, t_lawnum])
  simp [fn__law_numbers, dn__law_numbers, h]
theorem foldl_fst {α β : Type} (g : Nat → α → Nat) (h : α → β) : ∀ (xs : List α) (n : Nat) (o : Option β), (xs.foldl (fun (st : Nat × Option β) a => (g st.1 a, some (h a))) (n, o)).1 = xs.foldl g n
  | [], _, _ => rfl
  | x :: xs, n, o => foldl_fst g h xs (g n x) (some (h x))
theorem foldl_sum : ∀ (xs : List Nat) (n : Nat), xs.foldl (fun a b => a + b) n = n + xs.sum
  | [], n => by simp
  | x :: xs, n => by rw [List.foldl_cons, foldl_sum xs, List.sum_cons]; omega
theorem sD0 : sD 0 = .int 0 := by
  unfold sD qD sQ
  simp [Rat.num_mkRat, Rat.den_mkRat]
theorem t_sum (ss : List Nat) : fn_sum_of [.val (.lst (ss.map sD))] = .ok (.val (sD ss.sum)) [.val (.lst (ss.map sD))] := by
  have h := for_fold (t := tName 2) (b := lb_sum_of_1) (ea := sD) (fun st : Nat × Option D => [.val (.lst (ss.map sD)), .val (sD st.1), soS st.2]) (fun st a => (st.1 + a, some (sD a))) ss (0, none) (fun st a _ => by
    simp [lb_sum_of_1, t_plus, runB, soS_some])
  rw [show sD ((0, none) : Nat × Option D).1 = .int 0 from sD0, show soS ((0, none) : Nat × Option D).2 = .no from rfl, foldl_fst (fun n a => n + a) sD, foldl_sum, Nat.zero_add] at h
  simp [fn_sum_of, dn_sum_of, h]
end Lw

set_option Elab.async false
set_option linter.all false
set_option maxRecDepth 100000
set_option maxHeartbeats 1000000
namespace Lw
open PySem L2 Y
/-! sets of activities, and their order -/
abbrev intN (i : Nat) : D := .int (i : Int)
def tupN (s : List Nat) : D := .tup (s.map intN)
theorem toPys_int : ∀ s : List Nat, toPys (s.map intN) = some (s.map fun i : Nat => PyData.int (i : Int))
  | [] => rfl
  | i :: s => by
    rw [List.map_cons]
    unfold toPys
    rw [toPys_int s]
    rfl
theorem toPy_tupN (s : List Nat) : toPy (tupN s) = some (.tuple (s.map fun i : Nat => PyData.int (i : Int))) := by
  unfold tupN toPy
  rw [toPys_int]
  rfl
theorem pyD_tupN (s : List Nat) : pyD (tupN s) = .tuple (s.map fun i : Nat => PyData.int (i : Int)) := by
  unfold pyD
  rw [toPy_tupN]
  rfl
theorem ok_int (i : Nat) : okD (intN i) = true := rfl
theorem ok_tupN (s : List Nat) : okD (tupN s) = true := by
  unfold tupN
  simp [okD, okDs_map ok_int]
theorem dp_tupN (s : List Nat) : dpD (tupN s) ≤ 1 := by
  unfold tupN
  have := dpDs_map (f := intN) (n := 0) (fun i => by simp [intN, dpD]) s
  simp [dpD]
  omega
theorem nl_ints : ∀ s : List Nat, nlDs (s.map intN) = true
  | [] => rfl
  | i :: s => by simp [nlDs, nlD, nl_ints s]
theorem nl_tupN (s : List Nat) : nlD (tupN s) = true := by
  unfold tupN
  simp [nlD, nl_ints]
theorem eqd_int (a b : Nat) : eqd (intN a) (intN b) = decide (a = b) := by
  simp only [intN, eqd]
  exact decide_eq_decide.mpr (by omega)
theorem eqd_tupN (a b : List Nat) : eqd (tupN a) (tupN b) = decide (a = b) := by
  unfold tupN
  simp only [eqd]
  exact eqds_map eqd_int a b
theorem eq_tupN (a b : List Nat) : eqD (tupN a) (tupN b) = some (decide (a = b)) := by
  rw [eqD_of (ok_tupN a) (ok_tupN b) (Nat.le_trans (dp_tupN a) (by omega)) (Nat.le_trans (dp_tupN b) (by omega)), eqd_tupN]
def tokS (s : List Nat) : List (Int ⊕ List Nat) := PySem.W.keyToks (kD (tupN s))
theorem toks_ints : ∀ a b : List Nat, PySem.W.keyToksAll (a.map fun i : Nat => PyData.int (i : Int)) = PySem.W.keyToksAll (b.map fun i : Nat => PyData.int (i : Int)) → a = b
  | [], [], _ => rfl
  | [], y :: ys, h => by simp [PySem.W.keyToksAll] at h
  | x :: xs, [], h => by simp [PySem.W.keyToksAll] at h
  | x :: xs, y :: ys, h => by
    simp [PySem.W.keyToksAll, PySem.W.keyToks] at h
    have e : x = y := by omega
    rw [e, toks_ints xs ys h.2]
theorem tokS_inj {a b : List Nat} (h : tokS a = tokS b) : a = b := by
  unfold tokS kD at h
  rw [pyD_tupN, pyD_tupN] at h
  simp [PySem.W.keyToks, PySem.W.keyToksAll] at h
  exact toks_ints a b h.2
def leS (a b : List Nat) : Bool := leLD (tupN a) (tupN b)
theorem leS_total : PySem.W.TotalLe leS := PySem.W.sortLe_total (PyProof.Rows.listOrd PyProof.Rows.itemOrd) false fun b => tokS b
theorem leS_anti {a b : List Nat} (h1 : leS a b = true) (h2 : leS b a = true) : a = b := by
  refine tokS_inj ((PyProof.Rows.listOrd PyProof.Rows.itemOrd).total _ _ ?_ ?_)
  · have z : (!(PyProof.Rows.listOrd PyProof.Rows.itemOrd).blt (tokS a) (tokS b)) = true := h2
    simpa using z
  · have z : (!(PyProof.Rows.listOrd PyProof.Rows.itemOrd).blt (tokS b) (tokS a)) = true := h1
    simpa using z
def srtS (l : List (List Nat)) : List (List Nat) := l.mergeSort leS
theorem srtS_sorted (l : List (List Nat)) : (srtS l).Pairwise fun a b => leS a b = true := List.pairwise_mergeSort leS_total.trans (fun a b => by rcases leS_total.total a b with h | h <;> simp [h]) l
theorem srtS_perm (l : List (List Nat)) : (srtS l).Perm l := List.mergeSort_perm l leS
theorem srtS_uniq {l m : List (List Nat)} (p : l.Perm m) (h : m.Pairwise fun a b => leS a b = true) : srtS l = m :=
  List.Perm.eq_of_pairwise (le := fun a b => leS a b = true) (fun a b _ _ h1 h2 => leS_anti h1 h2) (srtS_sorted l) h ((srtS_perm l).trans p)
theorem srtS_filter (q : List Nat → Bool) (l : List (List Nat)) : (srtS l).filter q = srtS (l.filter q) :=
  (srtS_uniq ((srtS_perm l).symm.filter q) ((srtS_sorted l).filter q)).symm
theorem srtS_congr {l m : List (List Nat)} (p : l.Perm m) : srtS l = srtS m := srtS_uniq (p.trans (srtS_perm m).symm) (srtS_sorted m)
theorem alike_kD (a b : List Nat) : PySem.W.alike (kD (tupN a)) (kD (tupN b)) = true := by
  have e : ∀ s : List Nat, (s.map fun i : Nat => PyData.int (i : Int)) = (s.map fun i : Nat => (i : Int)).map PyData.int := fun s => by rw [List.map_map]; rfl
  unfold kD
  rw [pyD_tupN, pyD_tupN, e a, e b]
  simp only [PySem.W.alike, PySem.W.alikeAll, PySem.W.alike_ints, Bool.and_self]
theorem okSort_tupN (l : List (List Nat)) : okSort (l.map tupN) = true := by
  unfold okSort
  simp only [Bool.and_eq_true, List.all_eq_true, List.mem_map, forall_exists_index, and_imp, forall_apply_eq_imp_iff₂, decide_eq_true_eq]
  refine ⟨fun s _ => ⟨rfl, ok_tupN s, nl_tupN s, Nat.le_trans (dp_tupN s) (by omega)⟩, fun a _ b _ => alike_kD a b⟩
theorem sort_tupN (l : List (List Nat)) : (l.map tupN).mergeSort leLD = (srtS l).map tupN := by
  unfold srtS
  exact (PySem.W.sort_maps (s := leLD) tupN fun _ _ _ _ => rfl).symm
/-- the law's rows -/
def encM (s : List Nat) : D := .tup [.int (s.length : Int), tupN s]
theorem pyD_encM (s : List Nat) : pyD (encM s) = kD (tupN s) := by
  have h : toPy (encM s) = some (kD (tupN s)) := by
    unfold encM toPy
    have : toPys [D.int (s.length : Int), tupN s] = some [.int (s.length : Int), pyD (tupN s)] := by
      unfold toPys toPys toPys
      rw [toPy_tupN, pyD_tupN]
      rfl
    rw [this]
    unfold kD
    have e : lenD (tupN s) = (s.length : Int) := by unfold tupN lenD; simp
    rw [e]
    rfl
  unfold pyD
  rw [h]
  rfl
theorem ok_encM (s : List Nat) : okD (encM s) = true := by
  unfold encM
  simp [okD, okDs, ok_tupN]
theorem dp_encM (s : List Nat) : dpD (encM s) ≤ 2 := by
  have := dp_tupN s
  unfold encM
  simp [dpD, dpDs]
  omega
theorem okSort_encM (l : List (List Nat)) : okSortA (l.map encM) = true := by
  unfold okSortA
  simp only [Bool.and_eq_true, Bool.or_eq_true, List.all_eq_true, List.mem_map, forall_exists_index, and_imp, forall_apply_eq_imp_iff₂, decide_eq_true_eq]
  refine ⟨fun s _ => ⟨ok_encM s, Nat.le_trans (dp_encM s) (by omega)⟩, fun a _ b _ => by rw [pyD_encM, pyD_encM]; exact alike_kD a b, .inl fun s _ => rfl⟩
theorem sort_encM (l : List (List Nat)) : (l.map encM).mergeSort leD = (srtS l).map encM := by
  unfold srtS
  refine (PySem.W.sort_maps (s := leD) encM fun a _ b _ => ?_).symm
  show leS a b = leD (encM a) (encM b)
  unfold leS leLD leD PySem.W.dataLe PySem.W.sortLe
  simp only [pyD_encM]
end Lw

set_option Elab.async false
set_option linter.all false
set_option maxRecDepth 100000
set_option maxHeartbeats 1000000
namespace Lw
open PySem L2 Y
variable [TB]
def dbl (acc : List (List Nat)) (x : Nat) : List (List Nat) := acc ++ acc.map fun s => s ++ [x]
def subsN (xs : List Nat) : List (List Nat) := xs.foldl dbl [[]]
theorem dbl_len (acc : List (List Nat)) (x : Nat) : (dbl acc x).length = acc.length * 2 := by
  unfold dbl
  rw [List.length_append, List.length_map]
  omega
theorem l_sets (L : D) : ∀ (xs : List Nat) (acc : List (List Nat)) (o : Option D), acc.length * 2 ^ xs.length ≤ 5000 → (∀ s ∈ acc, s.length + xs.length ≤ 100) → ∃ o',
    forRun (tName 2) lb_sets_of_1 (xs.map intN) [.val L, .own false (.lst (acc.map tupN)), soS o, .no] = .ok .nx [.val L, .own false (.lst ((xs.foldl dbl acc).map tupN)), soS o', .no]
  | [], acc, o, _, _ => ⟨o, by rw [List.map_nil, v_forN]; rfl⟩
  | x :: xs, acc, o, h, hs => by
    rw [List.length_cons, Nat.pow_succ] at h
    have hp : 0 < 2 ^ xs.length := Nat.pow_pos (by omega)
    have hl : acc.length * 2 ≤ 5000 := Nat.le_trans (Nat.mul_le_mul_left _ (Nat.le_mul_of_pos_left 2 hp)) h
    obtain ⟨o', e⟩ := l_sets L xs (dbl acc x) (some (intN x)) (by rw [dbl_len, Nat.mul_assoc, Nat.mul_comm 2]; exact h) (fun s hs' => by
      unfold dbl at hs'
      rcases List.mem_append.mp hs' with z | z
      · have := hs s z; simp only [List.length_cons] at this; omega
      · obtain ⟨t, ht, rfl⟩ := List.mem_map.mp z
        have := hs t ht
        simp only [List.length_cons, List.length_append, List.length_nil] at this ⊢
        omega)
    refine ⟨o', ?_⟩
    have hc := lc_map (t := tName 3) (p := tYesD) (f := le_sets_of_1) (vs := [3]) (e := [.val L, .val (.lst (acc.map tupN)), .val (intN x), .no]) (enc := tupN) (fun s => tupN (s ++ [x])) acc (by omega) (fun s hs' => by
      have := hs s hs'
      have q : s.length + 1 ≤ sizeLine := slk (by simp only [List.length_cons] at this; omega)
      simp [le_sets_of_1, tupN, q])
    have ed : (dbl acc x).map tupN = acc.map tupN ++ acc.map (fun s => tupN (s ++ [x])) := by
      unfold dbl
      rw [List.map_append, List.map_map]
      rfl
    have q2 : acc.length + acc.length ≤ sizeLine := slk (by omega)
    rw [List.map_cons, v_forC, List.foldl_cons, ← e, ed]
    simp [lb_sets_of_1, hc, q2, soS_some]
theorem subs_len : ∀ (xs : List Nat) (acc : List (List Nat)), (xs.foldl dbl acc).length = acc.length * 2 ^ xs.length
  | [], acc => by simp
  | x :: xs, acc => by rw [List.foldl_cons, subs_len xs, dbl_len, List.length_cons, Nat.pow_succ]; rw [Nat.mul_assoc, Nat.mul_comm 2]
theorem t_sets (xs : List Nat) (h : xs.length ≤ 12) : fn_sets_of [.val (.lst (xs.map intN))] = .ok (.own (.lst ((srtS (subsN xs)).map tupN))) [.val (.lst (xs.map intN))] := by
  have hp : 2 ^ xs.length ≤ 2 ^ 12 := Nat.pow_le_pow_right (by omega) h
  obtain ⟨o', e⟩ := l_sets (.lst (xs.map intN)) xs [[]] none (by simp only [List.length_cons, List.length_nil]; omega) (fun s hs => by simp at hs; subst hs; simp; omega)
  have e1 : ([[]] : List (List Nat)).map tupN = [.tup []] := rfl
  rw [e1] at e
  have e2 : soS none = Slot.no := rfl
  rw [e2] at e
  have hl : (subsN xs).length ≤ 10000 := by
    unfold subsN
    rw [subs_len]
    simp only [List.length_cons, List.length_nil]
    omega
  unfold subsN at hl ⊢
  simp [fn_sets_of, dn_sets_of, e, okSort_tupN, sort_tupN, hl]
end Lw

set_option Elab.async false
set_option linter.all false
set_option maxRecDepth 100000
set_option maxHeartbeats 1000000
namespace Lw
open PySem L2 Y
def bitsOf (n m : Nat) : List Nat := (List.range n).filter fun i => (m / 2 ^ i) % 2 == 1
def maskSets (n : Nat) : List (List Nat) := ((List.range' 1 127).filter fun m => decide (m < 2 ^ n)).map (bitsOf n)
abbrev msOut (n : Nat) : Res Flo := .ok .nx [.val (.int n), .own false (.lst ((maskSets n).map encM)), .val (.int 127), .own false (.lst ((bitsOf n 127).map intN)), .no, .no]
abbrev msIn (n : Nat) : Res Flo := forRun (tName 2) lb__law_sets_1 (rangeD 1 127) [.val (.int n), .own false (.lst []), .no, .no, .no, .no]
theorem lm1 : msIn 1 = msOut 1 := by kernel_rfl
theorem lm2 : msIn 2 = msOut 2 := by kernel_rfl
theorem lm3 : msIn 3 = msOut 3 := by kernel_rfl
theorem lm4 : msIn 4 = msOut 4 := by kernel_rfl
theorem lm5 : msIn 5 = msOut 5 := by kernel_rfl
theorem lm6 : msIn 6 = msOut 6 := by kernel_rfl
theorem lm7 : msIn 7 = msOut 7 := by kernel_rfl
end Lw

set_option Elab.async false
set_option linter.all false
set_option maxRecDepth 100000
set_option maxHeartbeats 1000000
namespace Lw
open PySem L2 Y
variable [TB]
def SS (n : Nat) : List (List Nat) := (srtS (subsN (List.range n))).filter fun s => decide (s ≠ [])
theorem pm1 : (maskSets 1).Perm ((subsN (List.range 1)).filter fun s => decide (s ≠ [])) := by decide +kernel
theorem pm2 : (maskSets 2).Perm ((subsN (List.range 2)).filter fun s => decide (s ≠ [])) := by decide +kernel
theorem pm3 : (maskSets 3).Perm ((subsN (List.range 3)).filter fun s => decide (s ≠ [])) := by decide +kernel
theorem pm4 : (maskSets 4).Perm ((subsN (List.range 4)).filter fun s => decide (s ≠ [])) := by decide +kernel
theorem pm5 : (maskSets 5).Perm ((subsN (List.range 5)).filter fun s => decide (s ≠ [])) := by decide +kernel
theorem pm6 : (maskSets 6).Perm ((subsN (List.range 6)).filter fun s => decide (s ≠ [])) := by decide +kernel
theorem pm7 : (maskSets 7).Perm ((subsN (List.range 7)).filter fun s => decide (s ≠ [])) := by decide +kernel
theorem lm_all (n : Nat) (h1 : 1 ≤ n) (h7 : n ≤ 7) : msIn n = msOut n ∧ srtS (maskSets n) = SS n := by
  have c : n = 1 ∨ n = 2 ∨ n = 3 ∨ n = 4 ∨ n = 5 ∨ n = 6 ∨ n = 7 := by omega
  unfold SS
  rw [srtS_filter]
  rcases c with rfl | rfl | rfl | rfl | rfl | rfl | rfl
  · exact ⟨lm1, srtS_congr pm1⟩
  · exact ⟨lm2, srtS_congr pm2⟩
  · exact ⟨lm3, srtS_congr pm3⟩
  · exact ⟨lm4, srtS_congr pm4⟩
  · exact ⟨lm5, srtS_congr pm5⟩
  · exact ⟨lm6, srtS_congr pm6⟩
  · exact ⟨lm7, srtS_congr pm7⟩
theorem t_lawsets (n : Nat) (h1 : 1 ≤ n) (h7 : n ≤ 7) : fn__law_sets [.val (.int n)] = .ok (.own (.lst ((SS n).map tupN))) [.val (.int n)] := by
  obtain ⟨e1, e2⟩ := lm_all n h1 h7
  have hl : (maskSets n).length ≤ 10000 := by
    unfold maskSets
    rw [List.length_map]
    refine Nat.le_trans (List.length_filter_le _ _) ?_
    rw [List.length_range']
    omega
  have hls : (srtS (maskSets n)).length ≤ 10000 := by rw [(srtS_perm _).length_eq]; exact hl
  have hc := fun w : List D => lc_map (t := tTupD 2 (tsCons (tName 5) (tsCons (tName 3) tsNil))) (p := tYesD) (f := le__law_sets_2) (vs := [5, 3]) (e := [.val (.int n), .own false (.lst w), .val (.int 127), .no, .no, .no]) (enc := encM) tupN (srtS (maskSets n)) hls (fun s _ => by
    simp [le__law_sets_2, encM])
  rw [← e2]
  unfold msIn msOut at e1
  simp [fn__law_sets, dn__law_sets, e1, okSort_encM, sort_encM, hl, hc]

end Lw

set_option Elab.async false
set_option linter.all false
set_option maxRecDepth 100000
set_option maxHeartbeats 1000000
namespace Lw
open PySem L2 Y
variable [TB]
/-! pairs -/
def prD (p : Nat × Nat) : D := .tup [.int (p.1 : Int), .int (p.2 : Int)]
theorem ok_prD (p : Nat × Nat) : okD (prD p) = true := by simp [prD, okD, okDs]
theorem dp_prD (p : Nat × Nat) : dpD (prD p) ≤ 1 := by simp [prD, dpD, dpDs]
theorem eqd_prD (p q : Nat × Nat) : eqd (prD p) (prD q) = decide (p = q) := by
  obtain ⟨a, b⟩ := p
  obtain ⟨c, d⟩ := q
  simp only [prD, eqd, eqds, Bool.and_true]
  rw [← Bool.decide_and]
  exact decide_eq_decide.mpr (by simp; omega)
theorem in_prL (p : Nat × Nat) (es : List (Nat × Nat)) : inL (prD p) (.lst (es.map prD)) = some (decide (p ∈ es)) := by
  rw [inL_lst (ok_prD p) (okDs_map ok_prD es) (Nat.le_trans (dp_prD p) (by omega)) (Nat.le_trans (dpDs_map dp_prD es) (by omega)), any_map eqd_prD]
  exact congrArg some (decide_eq_decide.mpr Iff.rfl)
theorem in_prT (p : Nat × Nat) (es : List (Nat × Nat)) : inL (prD p) (.tup (es.map prD)) = some (decide (p ∈ es)) := by
  rw [inL_tup (ok_prD p) (okDs_map ok_prD es) (Nat.le_trans (dp_prD p) (by omega)) (Nat.le_trans (dpDs_map dp_prD es) (by omega)), any_map eqd_prD]
  exact congrArg some (decide_eq_decide.mpr Iff.rfl)
theorem t_index (i n : Nat) (h : i < n) : fn_is_index [.val (.int i), .val (.int n)] = .ok (.val (.bl true)) [.val (.int i), .val (.int n)] := by
  have h' : (i : Int) < n := by omega
  simp [fn_is_index, dn_is_index, t_int, h']
theorem bls_two (a b : Bool) : blsOf [.bl a, .bl b] = some [a, b] := rfl
theorem t_pair (p : Nat × Nat) (n : Nat) (h1 : p.1 < n) (h2 : p.2 < n) (hne : p.1 ≠ p.2) : fn_is_pair [.val (prD p), .val (.int n)] = .ok (.val (.bl true)) [.val (prD p), .val (.int n)] := by
  obtain ⟨a, b⟩ := p
  have hc := lc_map (t := tName 2) (p := tYesD) (f := le_is_pair_1) (vs := [2]) (e := [.val (prD (a, b)), .val (.int n), .no]) (enc := intN) (fun _ => .bl true) [a, b] (by simp) (fun i hi => by
    have : i < n := by
      rcases List.mem_cons.mp hi with rfl | hi
      · exact h1
      · simp at hi; subst hi; exact h2
    simp [le_is_pair_1, t_index i n this])
  have hne' : ¬ ((a : Int) = b) := by simp only at hne; omega
  have i0 : atI [D.int (a : Int), D.int (b : Int)] 0 = some (.int a) := rfl
  have i1 : atI [D.int (a : Int), D.int (b : Int)] 1 = some (.int b) := rfl
  simp only [List.map_cons, List.map_nil] at hc
  unfold prD at *
  simp only at hc ⊢
  simp [fn_is_pair, dn_is_pair, hc, eq_int, i0, i1, hne', allK, blsOf]
theorem t_lam (p : Nat × Nat) (n : Nat) (h1 : p.1 < p.2) (h2 : p.2 < n) : fnL_check_graph_0 [.val (prD p), .val (.int n)] = .ok (.val (.bl true)) [.val (prD p), .val (.int n)] := by
  have hp := t_pair p n (by omega) h2 (by omega)
  have h1' : (p.1 : Int) < p.2 := by omega
  have i0 : atI [D.int (p.1 : Int), D.int (p.2 : Int)] 0 = some (.int p.1) := rfl
  have i1 : atI [D.int (p.1 : Int), D.int (p.2 : Int)] 1 = some (.int p.2) := rfl
  unfold prD at *
  simp [fnL_check_graph_0, dnL_check_graph_0, hp, i0, i1, h1']
/-! what a graph is -/
structure Gr (n : Nat) (es : List (Nat × Nat)) : Prop where
  ord : ∀ p ∈ es, p.1 < p.2 ∧ p.2 < n
  nd : es.Nodup
theorem eCb_eq {i n : Nat} {fn : Fn} {as : M (List RV)} {e e1 : Sl} {rs : List RV} {caps caps' : List D} (h0 : e[i]? = some (.val (.clo 0 caps'))) (ha : as e = .ok rs e1) (h1 : e1[i]? = some (.val (.clo 0 caps))) (hn : rs.length = n) : eCb i n fn as e = callK fn (rs ++ caps.map .val) e1 := by
  unfold eCb
  rw [h0]
  show M.bind as _ e = _
  unfold M.bind
  rw [ha]
  show (match e1[i]? with
    | some (.val (.clo 0 caps)) => if rs.length = n then callK fn (rs ++ caps.map RV.val) e1 else .bad
    | _ => .bad) = _
  rw [h1]
  show (if rs.length = n then _ else _) = _
  rw [if_pos hn]
theorem cut_take (xs : List D) (k : Nat) (h : k ≤ xs.length) : cutD xs none (some (k : Int)) = xs.take k := by
  unfold cutD
  rw [HT.sIx_none, HT.sIx_nat, List.drop_zero, Nat.sub_zero, Nat.min_eq_left h]
/-- the rows that are looked at, one after another -/
theorem l_row (es : List (Nat × Nat)) (n : Nat) (g : Gr n es) (seq : List D → D) (hseq : seq = D.lst ∨ seq = D.tup) (c : D) : ∀ (suf pre : List (Nat × Nat)) (o2 o3 : Option D), es = pre ++ suf →
    ∃ o2' o3', forRun (tTupD 2 (tsCons (tName 2) (tsCons (tName 3) tsNil))) (lb_fault_of_row_1 fnL_check_graph_0) (enumD pre.length (suf.map prD)) [.val (seq (es.map prD)), .val (.clo 0 [.int (n : Int)]), soS o2, soS o3] =
      .ok .nx [.val (seq (es.map prD)), .val (.clo 0 [.int (n : Int)]), soS o2', soS o3']
  | [], pre, o2, o3, _ => ⟨o2, o3, by rw [List.map_nil]; exact v_forN _ _ _⟩
  | p :: suf, pre, o2, o3, e => by
    obtain ⟨o2', o3', ih⟩ := l_row es n g seq hseq c suf (pre ++ [p]) (some (.int (pre.length : Int))) (some (prD p)) (by rw [e]; simp)
    refine ⟨o2', o3', ?_⟩
    have hp : p ∈ es := by rw [e]; simp
    obtain ⟨h1, h2⟩ := g.ord p hp
    have hl := t_lam p n h1 h2
    have hnin : decide (p ∈ pre) = false := by
      have := g.nd
      rw [e, List.nodup_append] at this
      exact decide_eq_false fun z => this.2.2 p z p List.mem_cons_self rfl
    have hk : pre.length ≤ (es.map prD).length := by rw [e]; simp
    have ht : (es.map prD).take pre.length = pre.map prD := by
      rw [← List.map_take, e, List.take_left]
    rw [List.map_cons]
    unfold enumD
    rw [List.length_append, List.length_singleton, soS_some, soS_some] at ih
    rw [v_forC, ← ih]
    have cb := fun e0 : Sl => eCb_eq (i := 1) (n := 1) (fn := fnL_check_graph_0) (as := aCons (aV (eVar 3)) aNil) (e := [.val (seq (es.map prD)), .val (.clo 0 [.int (n : Int)]), .val (.int (pre.length : Int)), .val (prD p)]) (e1 := [.val (seq (es.map prD)), .val (.clo 0 [.int (n : Int)]), .val (.int (pre.length : Int)), .val (prD p)]) (rs := [.val (prD p)]) (caps := [.int (n : Int)]) (caps' := [.int (n : Int)]) rfl (by simp) rfl rfl
    rcases hseq with rfl | rfl
    · simp [lb_fault_of_row_1, cb [], hl, cut_take _ _ hk, ht, in_prL, hnin]
    · simp [lb_fault_of_row_1, cb [], hl, cut_take _ _ hk, ht, in_prT, hnin]
theorem enum0 (es : List (Nat × Nat)) : enumD 0 (es.map prD) = enumD ([] : List (Nat × Nat)).length (es.map prD) := rfl
theorem t_fault (es : List (Nat × Nat)) (n : Nat) (g : Gr n es) (seq : List D → D) (hseq : seq = D.lst ∨ seq = D.tup) : ∃ e, fn_fault_of_row fnL_check_graph_0 [.val (seq (es.map prD)), .val (.clo 0 [.int (n : Int)])] = .ok (.val .non) e := by
  obtain ⟨o2, o3, h⟩ := l_row es n g seq hseq .non es [] none none rfl
  rw [show soS none = Slot.no from rfl, List.length_nil] at h
  rcases hseq with rfl | rfl
  · exact ⟨_, by simp [fn_fault_of_row, dn_fault_of_row, h]; rfl⟩
  · exact ⟨_, by simp [fn_fault_of_row, dn_fault_of_row, h]; rfl⟩
theorem noClos_map {α : Type} {f : α → D} (h : ∀ a, noClo (f a) = true) : ∀ xs : List α, noClos (xs.map f) = true
  | [] => by simp [noClos]
  | x :: xs => by simp [noClos, h x, noClos_map h xs]
theorem nc_prD (p : Nat × Nat) : noClo (prD p) = true := by simp [prD, noClo, noClos]
theorem eHO_eq {fnG : Fn} {js : List Nat} {as : M (List RV)} {e e1 e2 sl : Sl} {rs : List RV} {caps ds : List D} {d : D} (ha : as e = .ok rs e1) (hc : capsM js e1 = .ok caps e2) (hv : valsOf rs = some ds) (h1 : noClos ds = true) (h2 : noClos caps = true) (hf : fnG (ds.map .val ++ [.val (.clo 0 caps)]) = .ok (.val d) sl) (hd : noClo d = true) :
    eHO fnG js as e = .ok (.val d) e2 := by
  unfold eHO M.bind
  rw [ha]
  dsimp only
  rw [hc]
  dsimp only
  rw [hv]
  dsimp only
  unfold hoK
  rw [if_pos (by rw [h1, h2]; rfl), hf]
  dsimp only
  rw [if_pos hd]
/-! the shape -/
def nameD (i : Nat) : D := .str (("n" : Str) ++ toString (i : Int))
def shF (n : Nat) : List (Str × D) := [("names", .tup ((List.range n).map nameD)), ("before", .tup []), ("machines", .tup []), ("crew", .tup []), ("asks", .tup [])]
def shD (n : Nat) : D := .ins "Shape" (shF n)
theorem shF_names (n : Nat) : List.lookup ("names" : PySem.Str) (shF n) = some (D.tup ((List.range n).map nameD)) := rfl
theorem t_graph (n : Nat) (es : List (Nat × Nat)) (g : Gr n es) (seq : List D → D) (hseq : seq = D.lst ∨ seq = D.tup) : fn_check_graph [.val (shD n), .val (seq (es.map prD))] = .ok (.val .non) [.val (shD n), .val (seq (es.map prD))] := by
  obtain ⟨e, h⟩ := t_fault es n g seq hseq
  have hn : noClo (seq (es.map prD)) = true := by
    rcases hseq with rfl | rfl
    · simp only [noClo]; exact noClos_map nc_prD es
    · simp only [noClo]; exact noClos_map nc_prD es
  have key := eHO_eq (fnG := fn_fault_of_row fnL_check_graph_0) (js := [2]) (as := aCons (aV (eVar 1)) aNil) (e := [.val (shD n), .val (seq (es.map prD)), .val (.int (n : Int)), .no]) (e1 := [.val (shD n), .val (seq (es.map prD)), .val (.int (n : Int)), .no]) (e2 := [.val (shD n), .val (seq (es.map prD)), .val (.int (n : Int)), .no]) (rs := [.val (seq (es.map prD))]) (caps := [.int (n : Int)]) (ds := [seq (es.map prD)]) (by simp) rfl rfl (by simp [noClos, hn]) rfl h rfl
  unfold shD at *
  simp [fn_check_graph, dn_check_graph, fldK, shF_names, key]
theorem t_shape (n : Nat) : fn_check_shape [.val (shD n)] = .ok (.val .non) [.val (shD n)] := by
  unfold shD
  simp [fn_check_shape, dn_check_shape, isiC]
theorem l_durs (n : Nat) (G : D) : ∀ (ss : List Nat) (k : Nat) (o2 o3 : Option D), ∃ o2' o3', forRun (tTupD 2 (tsCons (tName 2) (tsCons (tName 3) tsNil))) lb_check_durations_1 (enumD k (ss.map sD)) [.val (shD n), .val G, soS o2, soS o3] = .ok .nx [.val (shD n), .val G, soS o2', soS o3']
  | [], k, o2, o3 => ⟨o2, o3, by rw [List.map_nil]; exact v_forN _ _ _⟩
  | s :: ss, k, o2, o3 => by
    obtain ⟨o2', o3', ih⟩ := l_durs n G ss (k + 1) (some (.int (k : Int))) (some (sD s))
    refine ⟨o2', o3', ?_⟩
    rw [List.map_cons]
    unfold enumD
    rw [v_forC, ← ih]
    simp [lb_check_durations_1, t_isamount, soS_some]
theorem t_durs (n : Nat) (ss : List Nat) (h : ss.length = n) : fn_check_durations [.val (shD n), .val (.tup (ss.map sD))] = .ok (.val .non) [.val (shD n), .val (.tup (ss.map sD))] := by
  obtain ⟨o2, o3, hh⟩ := l_durs n (.tup (ss.map sD)) ss 0 none none
  rw [show soS none = Slot.no from rfl] at hh
  unfold shD at *
  simp [fn_check_durations, dn_check_durations, fldK, shF_names, eq_int, h, hh]
end Lw

set_option Elab.async false
set_option linter.all false
set_option maxRecDepth 100000
set_option maxHeartbeats 1000000
namespace Lw
open PySem L2 Y
abbrev mkIn (n : Nat) : Sl := [.own true (.ins "Shape" []), .val (.tup ((List.range n).map nameD)), .val (.tup []), .val (.tup []), .val (.tup []), .val (.tup [])]
abbrev mkOut (n : Nat) : Sl := [.own true (.ins "Shape" (shF n)), .val (.tup ((List.range n).map nameD)), .val (.tup []), .val (.tup []), .val (.tup []), .val (.tup [])]
theorem mk1' : fn_Shape (mkIn 1) = .ok (.val .non) (mkOut 1) := by kernel_rfl
theorem mk2' : fn_Shape (mkIn 2) = .ok (.val .non) (mkOut 2) := by kernel_rfl
theorem mk3' : fn_Shape (mkIn 3) = .ok (.val .non) (mkOut 3) := by kernel_rfl
theorem mk4' : fn_Shape (mkIn 4) = .ok (.val .non) (mkOut 4) := by kernel_rfl
theorem mk5' : fn_Shape (mkIn 5) = .ok (.val .non) (mkOut 5) := by kernel_rfl
theorem mk6' : fn_Shape (mkIn 6) = .ok (.val .non) (mkOut 6) := by kernel_rfl
theorem mk7' : fn_Shape (mkIn 7) = .ok (.val .non) (mkOut 7) := by kernel_rfl
theorem t_make (n : Nat) (h1 : 1 ≤ n) (h7 : n ≤ 7) : fn_Shape (mkIn n) = .ok (.val .non) (mkOut n) := by
  have c : n = 1 ∨ n = 2 ∨ n = 3 ∨ n = 4 ∨ n = 5 ∨ n = 6 ∨ n = 7 := by omega
  rcases c with rfl | rfl | rfl | rfl | rfl | rfl | rfl
  · exact mk1'
  · exact mk2'
  · exact mk3'
  · exact mk4'
  · exact mk5'
  · exact mk6'
  · exact mk7'
variable [TB]
/-! cliques -/
def clq (es : List (Nat × Nat)) (s : List Nat) : Bool := s.all fun a => (s.filter fun b => decide (a < b)).all fun b => decide ((a, b) ∈ es)
theorem bls_all {α : Type} (f : α → Bool) : ∀ xs : List α, blsOf (xs.map fun a => D.bl (f a)) = some (xs.map f)
  | [] => rfl
  | x :: xs => by
    rw [List.map_cons]
    unfold blsOf
    rw [bls_all f xs]
    rfl
def clB (es : List (Nat × Nat)) (s : List Nat) : List Bool := s.flatMap fun a => (s.filter fun b => decide (a < b)).map fun b => decide ((a, b) ∈ es)
theorem clB_all (es : List (Nat × Nat)) (s : List Nat) : (clB es s).all id = clq es s := by
  unfold clB clq
  rw [List.all_flatMap]
  congr 1
  funext a
  rw [List.all_map]
  rfl
theorem clB_D (es : List (Nat × Nat)) (s : List Nat) : (s.flatMap fun a => (s.filter fun b => decide (a < b)).map fun b => D.bl (decide ((a, b) ∈ es))) = (clB es s).map fun b => D.bl b := by
  unfold clB
  rw [List.map_flatMap]
  congr 1
  funext a
  rw [List.map_map]
  rfl
theorem l2_flatB {t t1 : D → M Unit} {p p1 : M Bool} {it1 : M (List D)} {f : M RV} {vs vs1 : List Nat} {α : Type} (enc : α → D) (g : α → List D) {e : Sl} (m : Nat) : ∀ (xs : List α) (acc : List D), acc.length + m * xs.length ≤ 10000 → (∀ a ∈ xs, (g a).length ≤ m) → (∀ a ∈ xs, ∀ acc : List D, acc.length + m ≤ 10000 → l2S t p it1 t1 p1 f vs vs1 (enc a) acc e = .ok (acc ++ g a) e) → lc2Run t p it1 t1 p1 f vs vs1 (xs.map enc) acc e = .ok (acc ++ xs.flatMap g) e
  | [], acc, _, _, _ => by simp [l2_nil]
  | a :: xs, acc, hl, hg, h => by
    have ha := hg a List.mem_cons_self
    rw [List.length_cons, Nat.mul_add, Nat.mul_one] at hl
    rw [List.map_cons, l2_step (h a List.mem_cons_self acc (by omega)), l2_flatB enc g m xs (acc ++ g a) (by rw [List.length_append]; omega) (fun b hb => hg b (List.mem_cons_of_mem _ hb)) fun b hb => h b (List.mem_cons_of_mem _ hb), List.flatMap_cons, List.append_assoc]
theorem fm_filter {α β : Type} (q : α → Bool) (g : α → β) : ∀ xs : List α, xs.filterMap (fun b => if q b then some (g b) else none) = (xs.filter q).map g
  | [] => rfl
  | x :: xs => by
    cases h : q x with
    | true => rw [List.filterMap_cons_some (by rw [h]; rfl), List.filter_cons_of_pos h, fm_filter q g xs]; rfl
    | false => rw [List.filterMap_cons_none (by rw [h]; rfl), List.filter_cons_of_neg (by simp [h]), fm_filter q g xs]
theorem l_clq (es : List (Nat × Nat)) (seq : List D → D) (hseq : seq = D.lst ∨ seq = D.tup) (d1 d2 : Slot) (s : List Nat) (hs : s.length ≤ 20) :
    lc2Run (tName 4) tYesD li_cliques_of_1 (tName 5) lp_cliques_of_1 le_cliques_of_1 [4, 5] [5] (s.map intN) [] [.val (seq (es.map prD)), d1, d2, .val (tupN s), .no, .no] =
      .ok ((clB es s).map fun b => D.bl b) [.val (seq (es.map prD)), d1, d2, .val (tupN s), .no, .no] := by
  rw [← clB_D]
  have h := l2_flatB (t := tName 4) (p := tYesD) (it1 := li_cliques_of_1) (t1 := tName 5) (p1 := lp_cliques_of_1) (f := le_cliques_of_1) (vs := [4, 5]) (vs1 := [5]) (enc := intN) (fun a => (s.filter fun b => decide (a < b)).map fun b => D.bl (decide ((a, b) ∈ es))) (e := [.val (seq (es.map prD)), d1, d2, .val (tupN s), .no, .no]) 20 s [] (by simp; omega) (fun a _ => by
      rw [List.length_map]; exact Nat.le_trans (List.length_filter_le _ _) hs) (fun a _ acc hacc => by
    have hc := lc_opt (t := tName 5) (p := lp_cliques_of_1) (f := le_cliques_of_1) (vs := [5]) (e := [.val (seq (es.map prD)), d1, d2, .val (tupN s), .val (intN a), .no]) (enc := intN) (fun b => if decide (a < b) then some (D.bl (decide ((a, b) ∈ es))) else none) s acc (by omega) (fun b _ => by
      have ip : inL (D.tup [intN a, intN b]) (D.lst (es.map prD)) = some (decide ((a, b) ∈ es)) := in_prL (a, b) es
      have iq : inL (D.tup [intN a, intN b]) (D.tup (es.map prD)) = some (decide ((a, b) ∈ es)) := in_prT (a, b) es
      by_cases hab : a < b
      · have hab' : (a : Int) < b := by omega
        rcases hseq with rfl | rfl
        · simp [lp_cliques_of_1, le_cliques_of_1, hab, hab', ip]
        · simp [lp_cliques_of_1, le_cliques_of_1, hab, hab', iq]
      · have hab' : ¬ (a : Int) < b := by omega
        simp [lp_cliques_of_1, le_cliques_of_1, hab, hab'])
    rw [fm_filter] at hc
    unfold tupN at *
    simp [li_cliques_of_1, hc])
  rw [h]
  rfl
end Lw
set_option Elab.async false
set_option linter.all false
set_option maxRecDepth 100000
set_option maxHeartbeats 1000000
namespace Lw
open PySem L2 Y
variable [TB]
def isC (es : List (Nat × Nat)) (s : List Nat) : Bool := decide (s ≠ []) && clq es s
theorem ne_tupN (a : List Nat) : eqD (tupN a) (.tup []) = some (decide (a = [])) := eq_tupN a []
theorem bls_id (bs : List Bool) : blsOf (bs.map fun b => D.bl b) = some bs := by
  have h := bls_all id bs
  rw [List.map_id] at h
  exact h
theorem eq_nil : eqD (.tup []) (.tup []) = some true := ne_tupN []
theorem l_cls (es : List (Nat × Nat)) (seq : List D → D) (hseq : seq = D.lst ∨ seq = D.tup) (d1 : Slot) : ∀ (L acc : List (List Nat)) (o : Option D), (∀ s ∈ L, s.length ≤ 20) → acc.length + L.length ≤ 5000 → ∃ o',
    forRun (tName 3) lb_cliques_of_1 (L.map tupN) [.val (seq (es.map prD)), d1, .own false (.lst (acc.map tupN)), soS o, .no, .no] =
      .ok .nx [.val (seq (es.map prD)), d1, .own false (.lst ((acc ++ L.filter (isC es)).map tupN)), soS o', .no, .no]
  | [], acc, o, _, _ => ⟨o, by rw [List.map_nil, List.filter_nil, List.append_nil]; exact v_forN _ _ _⟩
  | s :: L, acc, o, hl, hL => by
    rw [List.length_cons] at hL
    have hs := hl s List.mem_cons_self
    have key := l_clq es seq hseq d1 (.own false (.lst (acc.map tupN))) s hs
    have hlen : acc.length < sizeLine := Nat.le_trans (by omega) (small_line (n := 5000) (by omega))
    cases c : isC es s with
    | true =>
      obtain ⟨o', ih⟩ := l_cls es seq hseq d1 L (acc ++ [s]) (some (tupN s)) (fun x hx => hl x (List.mem_cons_of_mem _ hx)) (by rw [List.length_append, List.length_singleton]; omega)
      refine ⟨o', ?_⟩
      rw [List.filter_cons_of_pos c, show acc ++ s :: L.filter (isC es) = (acc ++ [s]) ++ L.filter (isC es) by simp, List.map_cons, v_forC, ← ih]
      unfold isC at c
      rw [Bool.and_eq_true, decide_eq_true_eq] at c
      have hne : decide (s = []) = false := decide_eq_false c.1
      rw [← clB_all] at c
      unfold tupN at *
      have hq := ne_tupN s
      unfold tupN at hq
      simp [lb_cliques_of_1, hq, c.1, key, bls_id, c.2, soS_some, hlen]
    | false =>
      obtain ⟨o', ih⟩ := l_cls es seq hseq d1 L acc (some (tupN s)) (fun x hx => hl x (List.mem_cons_of_mem _ hx)) (by omega)
      refine ⟨o', ?_⟩
      rw [List.filter_cons_of_neg (by simp [c]), List.map_cons, v_forC, ← ih]
      unfold isC at c
      have hq := ne_tupN s
      by_cases he : s = []
      · unfold tupN at *
        simp [lb_cliques_of_1, he, eq_nil, soS_some]
      · rw [decide_eq_true he, Bool.true_and, ← clB_all] at c
        unfold tupN at *
        simp [lb_cliques_of_1, hq, he, key, bls_id, c, soS_some]
theorem mem_subs : ∀ (xs : List Nat) (acc : List (List Nat)) (m k : Nat), (∀ s ∈ acc, s.length ≤ k ∧ ∀ i ∈ s, i < m) → (∀ x ∈ xs, x < m) → ∀ s ∈ xs.foldl dbl acc, s.length ≤ k + xs.length ∧ ∀ i ∈ s, i < m
  | [], acc, m, k, h, _, s, hs => h s hs
  | x :: xs, acc, m, k, h, hx, s, hs => by
    have ih := mem_subs xs (dbl acc x) m (k + 1) (fun s hs => by
      unfold dbl at hs
      rcases List.mem_append.mp hs with hs | hs
      · exact ⟨by have := (h s hs).1; omega, (h s hs).2⟩
      · obtain ⟨a, ha, rfl⟩ := List.mem_map.mp hs
        refine ⟨by rw [List.length_append, List.length_singleton]; have := (h a ha).1; omega, fun i hi => ?_⟩
        rcases List.mem_append.mp hi with hi | hi
        · exact (h a ha).2 i hi
        · rw [List.mem_singleton] at hi; subst hi; exact hx i List.mem_cons_self) (fun y hy => hx y (List.mem_cons_of_mem _ hy)) s hs
    rw [List.length_cons]
    exact ⟨by have := ih.1; omega, ih.2⟩
theorem mem_SS' {n : Nat} {s : List Nat} (h : s ∈ srtS (subsN (List.range n))) : s.length ≤ n ∧ ∀ i ∈ s, i < n := by
  have h := (srtS_perm _).mem_iff.mp h
  have := mem_subs (List.range n) [[]] n 0 (by simp) (by simp) s h
  simpa using this
def CC (n : Nat) (es : List (Nat × Nat)) : List (List Nat) := (SS n).filter (clq es)
theorem CC_eq (n : Nat) (es : List (Nat × Nat)) : (srtS (subsN (List.range n))).filter (isC es) = CC n es := by
  unfold CC SS isC
  rw [List.filter_filter]
  congr 1
  funext s
  exact Bool.and_comm _ _
theorem t_cliques (n : Nat) (h7 : n ≤ 7) (es : List (Nat × Nat)) (seq : List D → D) (hseq : seq = D.lst ∨ seq = D.tup) : fn_cliques_of [.val (seq (es.map prD)), .val (.int n)] = .ok (.own (.lst ((CC n es).map tupN))) [.val (seq (es.map prD)), .val (.int n)] := by
  have hlen : (srtS (subsN (List.range n))).length = 2 ^ n := by
    rw [(srtS_perm _).length_eq]
    unfold subsN
    rw [subs_len, List.length_range]
    simp
  have hp : 2 ^ n ≤ 2 ^ 7 := Nat.pow_le_pow_right (by omega) h7
  obtain ⟨o', h⟩ := l_cls es seq hseq (.val (.int n)) (srtS (subsN (List.range n))) [] none (fun s hs => by have := (mem_SS' hs).1; omega) (by rw [hlen, List.length_nil]; omega)
  rw [show soS none = Slot.no from rfl, List.map_nil, List.nil_append, CC_eq] at h
  have hs := t_sets (List.range n) (by rw [List.length_range]; omega)
  have hr : rangeD 0 n = (List.range n).map intN := by
    simp [rangeD, List.range_eq_range', intN]
  have g1 : (n : Int) < 4611686018427387904 := by omega
  have g2 : n ≤ 16777216 := by omega
  simp [fn_cliques_of, dn_cliques_of, hr, hs, h, g1, g2]
end Lw

set_option Elab.async false
set_option linter.all false
set_option maxRecDepth 100000
set_option maxHeartbeats 1000000
namespace Lw
open PySem L2 Y
variable [TB]
abbrev St := Option (Nat × List Nat)
def bestD : St → D
  | none => .non
  | some (b, _) => sD b
def foundD : St → D
  | none => .tup []
  | some (_, s) => tupN s
def gt0 (ss : List Nat) (i : Nat) : Nat := ss.getD i 0
def tot (ss s : List Nat) : Nat := (s.map (gt0 ss)).sum
def stp (ss : List Nat) (st : St) (s : List Nat) : St := match st with
  | none => some (tot ss s, s)
  | some (b, f) => if b < tot ss s then some (tot ss s, s) else some (b, f)
theorem at_map {f : Nat → D} (ss : List Nat) (i : Nat) (h : i < ss.length) : atI (ss.map f) (i : Int) = some (f (gt0 ss i)) := by
  unfold gt0
  rw [atI_ofNat, List.getElem?_map, List.getElem?_eq_getElem h, List.getD_eq_getElem?_getD, List.getElem?_eq_getElem h]
  rfl
theorem l_time (G : D) (ss : List Nat) : ∀ (L : List (List Nat)) (st : St) (o4 o5 : Option D), (∀ s ∈ L, s.length ≤ 20 ∧ ∀ i ∈ s, i < ss.length) → ∃ o4' o5',
    forRun (tName 4) lb_time_in_1 (L.map tupN) [.val G, .val (.tup (ss.map sD)), .val (bestD st), .val (foundD st), soS o4, soS o5, .no] =
      .ok .nx [.val G, .val (.tup (ss.map sD)), .val (bestD (L.foldl (stp ss) st)), .val (foundD (L.foldl (stp ss) st)), soS o4', soS o5', .no]
  | [], st, o4, o5, _ => ⟨o4, o5, by rw [List.map_nil]; exact v_forN _ _ _⟩
  | s :: L, st, o4, o5, h => by
    obtain ⟨o4', o5', ih⟩ := l_time G ss L (stp ss st s) (some (tupN s)) (some (sD (tot ss s))) fun x hx => h x (List.mem_cons_of_mem _ hx)
    refine ⟨o4', o5', ?_⟩
    obtain ⟨hl, hi⟩ := h s List.mem_cons_self
    have hc := fun (d2 d3 : D) => lc_map (t := tName 6) (p := tYesD) (f := le_time_in_1) (vs := [6]) (e := [.val G, .val (.tup (ss.map sD)), .val d2, .val d3, .val (tupN s), soS o5, .no]) (enc := intN) (fun i => sD (gt0 ss i)) s (by omega) (fun i z => by
      have := at_map (f := sD) ss i (hi i z)
      simp [le_time_in_1, this])
    have hsum := t_sum (s.map (gt0 ss))
    rw [List.map_map, show (sD ∘ gt0 ss) = fun i => sD (gt0 ss i) from rfl] at hsum
    have hsum : fn_sum_of [.val (.lst (s.map fun i => sD (gt0 ss i)))] = .ok (.val (sD (tot ss s))) _ := hsum
    rw [List.map_cons, List.foldl_cons, v_forC, ← ih]
    cases st with
    | none =>
      have hc' := hc .non (.tup [])
      unfold tupN at *
      simp [lb_time_in_1, bestD, foundD, stp, hc', hsum, soS_some, tupN]
    | some bf =>
      obtain ⟨b, f⟩ := bf
      have hc' := hc (sD b) (tupN f)
      have hn : ∀ e, isN (sD b) e = .ok (.val (.bl false)) e := fun e => by
        obtain ⟨n, d, _, _, _, e'⟩ := sD_form b
        rw [e']
        split <;> rfl
      have hless := t_less6 b (tot ss s)
      by_cases hb : b < tot ss s
      · unfold tupN at *
        simp [lb_time_in_1, bestD, foundD, stp, hc', hsum, soS_some, tupN, hless, hb, hn]
      · unfold tupN at *
        simp [lb_time_in_1, bestD, foundD, stp, hc', hsum, soS_some, tupN, hless, hb, hn]
end Lw

set_option Elab.async false
set_option linter.all false
set_option maxRecDepth 100000
set_option maxHeartbeats 1000000
namespace Lw
open PySem L2 Y
variable [TB]
def ans (n : Nat) (es : List (Nat × Nat)) (ss : List Nat) : St := (CC n es).foldl (stp ss) none
theorem mem_CC {n : Nat} {es : List (Nat × Nat)} {s : List Nat} (h : s ∈ CC n es) : s.length ≤ n ∧ ∀ i ∈ s, i < n := by
  unfold CC SS at h
  exact mem_SS' (List.mem_filter.mp (List.mem_filter.mp h).1).1
theorem t_timein (n : Nat) (h7 : n ≤ 7) (es : List (Nat × Nat)) (ss : List Nat) (hs : ss.length = n) (seq : List D → D) (hseq : seq = D.lst ∨ seq = D.tup) : fn_time_in [.val (seq (es.map prD)), .val (.tup (ss.map sD))] = .ok (.val (.tup [bestD (ans n es ss), foundD (ans n es ss)])) [.val (seq (es.map prD)), .val (.tup (ss.map sD))] := by
  obtain ⟨o4, o5, h⟩ := l_time (seq (es.map prD)) ss (CC n es) none none none (fun s h => ⟨by have := (mem_CC h).1; omega, by rw [hs]; exact (mem_CC h).2⟩)
  rw [show soS none = Slot.no from rfl] at h
  have hc := t_cliques n h7 es seq hseq
  have h : forRun (tName 4) lb_time_in_1 (List.map tupN (CC n es)) [.val (seq (es.map prD)), .val (.tup (ss.map sD)), .val .non, .val (.tup []), .no, .no, .no] = .ok .nx [.val (seq (es.map prD)), .val (.tup (ss.map sD)), .val (bestD (ans n es ss)), .val (foundD (ans n es ss)), soS o4, soS o5, .no] := h
  simp [fn_time_in, dn_time_in, hs, hc, h]
theorem t_timeof (n : Nat) (h7 : n ≤ 7) (es : List (Nat × Nat)) (g : Gr n es) (ss : List Nat) (hs : ss.length = n) (seq : List D → D) (hseq : seq = D.lst ∨ seq = D.tup) : fn_time_of [.val (shD n), .val (seq (es.map prD)), .val (.tup (ss.map sD))] = .ok (.val (.tup [bestD (ans n es ss), foundD (ans n es ss)])) [.val (shD n), .val (seq (es.map prD)), .val (.tup (ss.map sD))] := by
  have h1 := t_shape n
  have h2 := t_graph n es g seq hseq
  have h3 := t_durs n ss hs
  have h4 := t_timein n h7 es ss hs seq hseq
  simp [fn_time_of, dn_time_of, h1, h2, h3, h4]
/-! the law's own word -/
def cF (b : Bool) : Flo := if b then .nx else .rt (.val (.bl false))
theorem l_isc1 (es : List (Nat × Nat)) (S : D) (a : Nat) : ∀ (L : List Nat) (o3 : Option D), ∃ o3', forRun (tName 3) lb__law_is_clique_1 (L.map intN) [.val (.lst (es.map prD)), .val S, .val (intN a), soS o3] =
    .ok (cF ((L.filter fun b => decide (a < b)).all fun b => decide ((a, b) ∈ es))) [.val (.lst (es.map prD)), .val S, .val (intN a), soS o3']
  | [], o3 => ⟨o3, by rw [List.map_nil]; exact v_forN _ _ _⟩
  | b :: L, o3 => by
    have ip : inL (D.tup [intN a, intN b]) (D.lst (es.map prD)) = some (decide ((a, b) ∈ es)) := in_prL (a, b) es
    obtain ⟨o3', ih⟩ := l_isc1 es S a L (some (intN b))
    by_cases hab : a < b
    · have hab' : (a : Int) < b := by omega
      by_cases hm : (a, b) ∈ es
      · refine ⟨o3', ?_⟩
        rw [List.filter_cons_of_pos (by simp [hab]), List.all_cons, decide_eq_true hm, Bool.true_and, List.map_cons, v_forC, ← ih]
        simp [lb__law_is_clique_1, hab', ip, hm, soS_some]
      · refine ⟨some (intN b), ?_⟩
        rw [List.filter_cons_of_pos (by simp [hab]), List.all_cons, decide_eq_false hm, Bool.false_and, List.map_cons, v_forC]
        simp [lb__law_is_clique_1, hab', ip, hm, soS_some, cF]
    · have hab' : ¬ (a : Int) < b := by omega
      refine ⟨o3', ?_⟩
      rw [List.filter_cons_of_neg (by simp [hab]), List.map_cons, v_forC, ← ih]
      simp [lb__law_is_clique_1, hab', soS_some]
theorem l_isc2 (es : List (Nat × Nat)) (s : List Nat) : ∀ (L : List Nat) (o2 o3 : Option D), ∃ o2' o3', forRun (tName 2) lb__law_is_clique_2 (L.map intN) [.val (.lst (es.map prD)), .val (tupN s), soS o2, soS o3] =
    .ok (cF (L.all fun a => (s.filter fun b => decide (a < b)).all fun b => decide ((a, b) ∈ es))) [.val (.lst (es.map prD)), .val (tupN s), soS o2', soS o3']
  | [], o2, o3 => ⟨o2, o3, by rw [List.map_nil]; exact v_forN _ _ _⟩
  | a :: L, o2, o3 => by
    obtain ⟨o3', h1⟩ := l_isc1 es (tupN s) a s o3
    cases c : (s.filter fun b => decide (a < b)).all fun b => decide ((a, b) ∈ es) with
    | true =>
      obtain ⟨o2', o3'', ih⟩ := l_isc2 es s L (some (intN a)) o3'
      refine ⟨o2', o3'', ?_⟩
      rw [List.all_cons, c, Bool.true_and, List.map_cons, v_forC, ← ih]
      rw [c] at h1
      have h1 : _ = Res.ok Flo.nx _ := h1
      unfold tupN at *
      simp [lb__law_is_clique_2, h1, soS_some]
    | false =>
      refine ⟨some (intN a), o3', ?_⟩
      rw [List.all_cons, c, Bool.false_and, List.map_cons, v_forC]
      rw [c] at h1
      have h1 : _ = Res.ok (Flo.rt (.val (.bl false))) _ := h1
      unfold tupN at *
      simp [lb__law_is_clique_2, h1, soS_some, cF]
theorem t_isclique (es : List (Nat × Nat)) (s : List Nat) : fn__law_is_clique [.val (.lst (es.map prD)), .val (tupN s)] = .ok (.val (.bl (clq es s))) [.val (.lst (es.map prD)), .val (tupN s)] := by
  obtain ⟨o2, o3, h⟩ := l_isc2 es s s none none
  rw [show soS none = Slot.no from rfl] at h
  have h : _ = Res.ok (cF (clq es s)) _ := h
  cases c : clq es s with
  | true =>
    rw [c] at h
    have h : _ = Res.ok Flo.nx _ := h
    unfold tupN at *
    simp [fn__law_is_clique, dn__law_is_clique, h]
  | false =>
    rw [c] at h
    have h : _ = Res.ok (Flo.rt (.val (.bl false))) _ := h
    unfold tupN at *
    simp [fn__law_is_clique, dn__law_is_clique, h]
end Lw

set_option Elab.async false
set_option linter.all false
set_option maxRecDepth 100000
set_option maxHeartbeats 1000000
namespace Lw
open PySem L2 Y
variable [TB]
def bestI : St → D
  | none => .int (-1)
  | some (b, _) => intN b
theorem ints_map : ∀ xs : List Nat, intsOf (xs.map intN) = some (xs.map fun i : Nat => (i : Int))
  | [] => rfl
  | x :: xs => by
    rw [List.map_cons]
    unfold intsOf
    rw [ints_map xs]
    rfl
theorem sum_cast : ∀ xs : List Nat, (xs.map fun i : Nat => (i : Int)).sum = (xs.sum : Int)
  | [] => rfl
  | x :: xs => by rw [List.map_cons, List.sum_cons, List.sum_cons, sum_cast xs, Int.natCast_add]
def stc (es : List (Nat × Nat)) (ss : List Nat) (st : St) (s : List Nat) : St := if clq es s then stp ss st s else st
theorem l_due (es : List (Nat × Nat)) (ss : List Nat) : ∀ (L : List (List Nat)) (st : St) (o4 o5 : Option D), (∀ s ∈ L, s.length ≤ 20 ∧ ∀ i ∈ s, i < ss.length) → ∃ o4' o5',
    forRun (tName 4) lb__law_due_1 (L.map tupN) [.val (.lst (es.map prD)), .val (.lst (ss.map intN)), .val (bestI st), .val (foundD st), soS o4, soS o5, .no] =
      .ok .nx [.val (.lst (es.map prD)), .val (.lst (ss.map intN)), .val (bestI (L.foldl (stc es ss) st)), .val (foundD (L.foldl (stc es ss) st)), soS o4', soS o5', .no]
  | [], st, o4, o5, _ => ⟨o4, o5, by rw [List.map_nil]; exact v_forN _ _ _⟩
  | s :: L, st, o4, o5, h => by
    obtain ⟨o4', o5', ih⟩ := l_due es ss L (stc es ss st s) (some (tupN s)) (some (intN (tot ss s))) fun x hx => h x (List.mem_cons_of_mem _ hx)
    refine ⟨o4', o5', ?_⟩
    obtain ⟨hl, hi⟩ := h s List.mem_cons_self
    have hc := fun (d2 d3 : D) => lc_map (t := tName 6) (p := tYesD) (f := le__law_due_1) (vs := [6]) (e := [.val (.lst (es.map prD)), .val (.lst (ss.map intN)), .val d2, .val d3, .val (tupN s), soS o5, .no]) (enc := intN) (fun i => intN (gt0 ss i)) s (by omega) (fun i z => by
      have := at_map (f := intN) ss i (hi i z)
      simp [le__law_due_1, this])
    have hi1 := ints_map (s.map (gt0 ss))
    rw [List.map_map, show (intN ∘ gt0 ss) = fun i => intN (gt0 ss i) from rfl] at hi1
    have hi2 := sum_cast (s.map (gt0 ss))
    have hi2 : _ = ((tot ss s : Nat) : Int) := hi2
    have hq := t_isclique es s
    rw [List.map_cons, List.foldl_cons, v_forC, ← ih]
    generalize (List.map (fun i : Nat => (i : Int)) (List.map (gt0 ss) s)) = zs at hi1 hi2
    cases st with
    | none =>
      have hc' := hc (.int (-1)) (.tup [])
      have h1 : (-1 : Int) < (tot ss s : Nat) := by omega
      cases hb : clq es s with
      | true =>
        rw [hb] at hq
        unfold tupN at *
        simp [lb__law_due_1, bestI, foundD, stp, stc, hb, hc', hi1, hi2, soS_some, tupN, h1, hq]
      | false =>
        rw [hb] at hq
        unfold tupN at *
        simp [lb__law_due_1, bestI, foundD, stp, stc, hb, hc', hi1, hi2, soS_some, tupN, h1, hq]
    | some bf =>
      obtain ⟨b, f⟩ := bf
      have hc' := hc (intN b) (tupN f)
      by_cases hlt : b < tot ss s
      · have h1 : (b : Int) < (tot ss s : Nat) := by omega
        cases hb : clq es s with
        | true =>
          rw [hb] at hq
          unfold tupN at *
          simp [lb__law_due_1, bestI, foundD, stp, stc, hb, hc', hi1, hi2, soS_some, tupN, h1, hq, hlt]
        | false =>
          rw [hb] at hq
          unfold tupN at *
          simp [lb__law_due_1, bestI, foundD, stp, stc, hb, hc', hi1, hi2, soS_some, tupN, h1, hq, hlt]
      · have h1 : ¬ (b : Int) < (tot ss s : Nat) := by omega
        unfold tupN at *
        simp [lb__law_due_1, bestI, foundD, stp, stc, hc', hi1, hi2, soS_some, tupN, h1, hlt]
theorem fold_ans (n : Nat) (es : List (Nat × Nat)) (ss : List Nat) : (SS n).foldl (stc es ss) none = ans n es ss := by
  unfold ans CC stc
  rw [List.foldl_filter]
theorem zero_mem (n : Nat) (h1 : 1 ≤ n) (h7 : n ≤ 7) : [0] ∈ SS n := by
  unfold SS
  refine List.mem_filter.mpr ⟨(srtS_perm _).mem_iff.mpr ?_, by simp⟩
  have c : n = 1 ∨ n = 2 ∨ n = 3 ∨ n = 4 ∨ n = 5 ∨ n = 6 ∨ n = 7 := by omega
  rcases c with rfl | rfl | rfl | rfl | rfl | rfl | rfl <;> decide +kernel
theorem fold_some (ss : List Nat) : ∀ (L : List (List Nat)) (x : Nat × List Nat), ∃ y, L.foldl (stp ss) (some x) = some y
  | [], x => ⟨x, rfl⟩
  | s :: L, (b, f) => by
    rw [List.foldl_cons]
    unfold stp
    dsimp only
    split
    · exact fold_some ss L _
    · exact fold_some ss L _
theorem ans_some (n : Nat) (h1 : 1 ≤ n) (h7 : n ≤ 7) (es : List (Nat × Nat)) (ss : List Nat) : ∃ b f, ans n es ss = some (b, f) := by
  have hz : [0] ∈ CC n es := List.mem_filter.mpr ⟨zero_mem n h1 h7, by simp [clq]⟩
  unfold ans
  cases c : CC n es with
  | nil => rw [c] at hz; cases hz
  | cons s L =>
    rw [List.foldl_cons]
    obtain ⟨⟨b, f⟩, h⟩ := fold_some ss L (tot ss s, s)
    exact ⟨b, f, h⟩
theorem t_due (n : Nat) (h1 : 1 ≤ n) (h7 : n ≤ 7) (es : List (Nat × Nat)) (ss : List Nat) (hs : ss.length = n) : fn__law_due [.val (.lst (es.map prD)), .val (.lst (ss.map intN))] = .ok (.val (.tup [bestD (ans n es ss), foundD (ans n es ss)])) [.val (.lst (es.map prD)), .val (.lst (ss.map intN))] := by
  obtain ⟨o4, o5, h⟩ := l_due es ss (SS n) none none none (fun s h => by
    have := mem_SS' (List.mem_filter.mp h).1
    rw [hs]
    exact ⟨by omega, this.2⟩)
  rw [show soS none = Slot.no from rfl, fold_ans] at h
  have h : forRun (tName 4) lb__law_due_1 (List.map tupN (SS n)) [.val (.lst (es.map prD)), .val (.lst (ss.map intN)), .val (.int (-1)), .val (.tup []), .no, .no, .no] = _ := h
  obtain ⟨b, f, hb⟩ := ans_some n h1 h7 es ss
  have hl := t_lawsets n h1 h7
  have hn := t_lawnum b
  rw [hb] at h ⊢
  simp only [bestI, bestD] at h ⊢
  simp [fn__law_due, dn__law_due, hs, hl, h, hn]
end Lw

set_option Elab.async false
set_option linter.all false
set_option maxRecDepth 100000
set_option maxHeartbeats 1000000
namespace Lw
open PySem L2 Y
variable [TB]
abbrev WL (a b c : Int) : Cont := .lst [.int a, .int b, .int c]
theorem t_draw (a b c m : Int) (hm : 0 < m) (hm2 : m < 1073741824) : ∃ r : Nat, (r : Int) < m ∧ ∃ a' b' c', fn__law_draw [.own true (WL a b c), .val (.int m)] = .ok (.val (.int r)) [.own true (WL a' b' c'), .val (.int m)] := by
  by_cases ha : 0 < a
  · have h1 := Int.emod_nonneg a (b := m) (by omega)
    have h2 := Int.emod_lt_of_pos a hm
    refine ⟨(a % m).toNat, by omega, a / m, b, c, ?_⟩
    rw [Int.toNat_of_nonneg h1]
    simp [fn__law_draw, dn__law_draw, ha, hm, hm2, ixN]
  · have key : ∀ x : Int, ∃ r : Nat, (r : Int) = x % m ∧ (r : Int) < m := fun x => by
      have h1 := Int.emod_nonneg x (b := m) (by omega)
      have h2 := Int.emod_lt_of_pos x hm
      exact ⟨(x % m).toNat, by omega, by omega⟩
    have q1 : ∀ x : Int, -18446744073709551616 < x % 2147483647 := fun x => by omega
    have q2 : ∀ x : Int, x % 2147483647 < 18446744073709551616 := fun x => by omega
    have q3 : ∀ x : Int, -18446744073709551616 < x % 2147483399 := fun x => by omega
    have q4 : ∀ x : Int, x % 2147483399 < 18446744073709551616 := fun x => by omega
    obtain ⟨x, hx⟩ : ∃ x, fn__law_draw [.own true (WL a b c), .val (.int m)] = .ok (.val (.int (x % m))) [.own true (WL a b (c + 1)), .val (.int m)] := by
      let n1 : Int := ((b + 7919 * (c + 1) + 1) * 48271) % 2147483647
      let n2 : Int := (n1 * (n1 / 1009 + 69621)) % 2147483647
      refine ⟨(n2 * (n2 / 2003 + 40692)) % 2147483399, ?_⟩
      simp [fn__law_draw, dn__law_draw, ha, hm, hm2, ixN, q1, q2, q3, q4, n1, n2]
    obtain ⟨r, h1, h2⟩ := key x
    exact ⟨r, h2, a, b, c + 1, by rw [h1]; exact hx⟩
theorem t_pick (a b c : Int) (xs : List Int) (h0 : 0 < xs.length) (h1 : xs.length ≤ 10000) : ∃ x ∈ xs, ∃ a' b' c', fn__law_pick [.own true (WL a b c), .val (.lst (xs.map D.int))] = .ok (.val (.int x)) [.own true (WL a' b' c'), .val (.lst (xs.map D.int))] := by
  obtain ⟨r, hr, a', b', c', h⟩ := t_draw a b c xs.length (by omega) (by omega)
  have hr' : r < xs.length := by omega
  refine ⟨xs[r], List.getElem_mem hr', a', b', c', ?_⟩
  have ha : atI (xs.map D.int) (r : Int) = some (.int xs[r]) := by
    rw [atI_ofNat, List.getElem?_map, List.getElem?_eq_getElem hr']
    rfl
  simp [fn__law_pick, dn__law_pick, h, ha]
theorem sq_nat (i n : Nat) (h : i < n) : seqIndex? (i : Int) n = some i := by
  unfold seqIndex?
  simp
  omega
theorem er_map : ∀ (xs : List Nat) (r : Nat), (xs.map intN).eraseIdx r = (xs.eraseIdx r).map intN
  | [], _ => rfl
  | _ :: _, 0 => rfl
  | x :: xs, r + 1 => by
    rw [List.map_cons, List.eraseIdx_cons_succ, List.eraseIdx_cons_succ, List.map_cons, er_map xs r]
theorem ge_er : ∀ (xs : List Nat) (r : Nat) (h : r < xs.length), (xs[r] :: xs.eraseIdx r).Perm xs
  | x :: xs, 0, _ => List.Perm.refl _
  | x :: xs, r + 1, h => by
    rw [List.length_cons] at h
    have ih := ge_er xs r (by omega)
    rw [List.eraseIdx_cons_succ]
    exact (List.Perm.swap _ _ _).trans (List.Perm.cons x ih)
theorem l_rowd (m : D) : ∀ (ks : List D) (left found : List Nat) (a b c : Int) (o : Option D), left.length = ks.length → found.length + left.length ≤ 5000 → ∃ found' : List Nat, found'.Perm (found ++ left) ∧ ∃ a' b' c' o',
    forRun (tName 4) lb__law_row_1 ks [.own true (WL a b c), .val m, .own false (.lst (left.map intN)), .own false (.lst (found.map intN)), soS o] =
      .ok .nx [.own true (WL a' b' c'), .val m, .own false (.lst []), .own false (.lst (found'.map intN)), soS o']
  | [], left, found, a, b, c, o, hl, _ => by
    have : left = [] := List.eq_nil_of_length_eq_zero hl
    subst this
    exact ⟨found, by rw [List.append_nil], a, b, c, o, v_forN _ _ _⟩
  | k :: ks, left, found, a, b, c, o, hl, h5 => by
    rw [List.length_cons] at hl
    obtain ⟨r, hr, a1, b1, c1, h⟩ := t_draw a b c left.length (by omega) (by omega)
    have hr' : r < left.length := by omega
    have hle : (left.eraseIdx r).length = left.length - 1 := List.length_eraseIdx_of_lt hr'
    obtain ⟨found', p, a2, b2, c2, o', ih⟩ := l_rowd m ks (left.eraseIdx r) (found ++ [left[r]]) a1 b1 c1 (some k) (by omega) (by rw [List.length_append, List.length_singleton]; omega)
    refine ⟨found', ?_, a2, b2, c2, o', ?_⟩
    · refine p.trans ?_
      rw [List.append_assoc]
      exact List.Perm.append_left found (ge_er left r hr')
    · rw [v_forC, ← ih]
      have g1 : (left.map intN)[r]? = some (intN left[r]) := by
        rw [List.getElem?_map, List.getElem?_eq_getElem hr']; rfl
      have g2 : found.length < sizeLine := small_line (by omega)
      have g3 := sq_nat r left.length hr'
      have g4 : (-9223372036854775808 : Int) ≤ r := by omega
      have g5 : (r : Int) < 9223372036854775808 := by omega
      simp [lb__law_row_1, h, g1, g2, g3, g4, g5, soS_some, er_map]
theorem t_row (a b c : Int) (m : Nat) (hm : m ≤ 5000) : ∃ f : List Nat, f.Perm (List.range m) ∧ ∃ a' b' c', fn__law_row [.own true (WL a b c), .val (.int m)] = .ok (.own (.lst (f.map intN))) [.own true (WL a' b' c'), .val (.int m)] := by
  have hr : rangeD 0 m = (List.range m).map intN := by
    simp [rangeD, intN]
  obtain ⟨f, p, a', b', c', o', h⟩ := l_rowd (.int m) (rangeD 0 m) (List.range m) [] a b c none (by rw [hr, List.length_map]) (by simp; omega)
  refine ⟨f, by simpa using p, a', b', c', ?_⟩
  rw [show soS none = Slot.no from rfl, hr, List.map_nil] at h
  have g1 : (m : Int) < 4611686018427387904 := by omega
  have g2 : m ≤ 16777216 := by omega
  simp [fn__law_row, dn__law_row, hr, h, g1, g2]
end Lw

set_option Elab.async false
set_option linter.all false
set_option maxRecDepth 100000
set_option maxHeartbeats 1000000
namespace Lw
open PySem L2 Y
variable [TB]
theorem l_len (m : D) : ∀ (ks : List D) (found : List Nat) (a b c : Int) (o3 o4 : Option D), found.length + ks.length ≤ 5000 → ∃ found' : List Nat, found'.length = found.length + ks.length ∧ ∃ a' b' c' o3' o4',
    forRun (tName 3) lb__law_lengths_1 ks [.own true (WL a b c), .val m, .own false (.lst (found.map intN)), soS o3, soS o4] =
      .ok .nx [.own true (WL a' b' c'), .val m, .own false (.lst (found'.map intN)), soS o3', soS o4']
  | [], found, a, b, c, o3, o4, _ => ⟨found, rfl, a, b, c, o3, o4, v_forN _ _ _⟩
  | k :: ks, found, a, b, c, o3, o4, h5 => by
    rw [List.length_cons] at h5
    obtain ⟨x, hx, a1, b1, c1, h1⟩ := t_pick a b c [1, 6, 6, 6, 24, 3, 2, 6000000000] (by decide) (by decide)
    obtain ⟨r, hr, a2, b2, c2, h2⟩ := t_draw a1 b1 c1 6 (by decide) (by decide)
    have hx0 : 0 ≤ x := by
      simp only [List.mem_cons, List.not_mem_nil, or_false] at hx
      omega
    obtain ⟨x', rfl⟩ := Int.eq_ofNat_of_zero_le hx0
    obtain ⟨found', hl, a3, b3, c3, o3', o4', ih⟩ := l_len m ks (found ++ [x' * r]) a2 b2 c2 (some k) (some (intN x')) (by rw [List.length_append, List.length_singleton]; omega)
    refine ⟨found', by rw [hl, List.length_append, List.length_singleton, List.length_cons]; omega, a3, b3, c3, o3', o4', ?_⟩
    rw [v_forC, ← ih]
    simp only [List.map_cons, List.map_nil] at h1
    have g2 : found.length < sizeLine := small_line (by omega)
    have g3 : 8 ≤ sizeLine := Nat.le_of_lt (small_line (by omega))
    have g4 : (-18446744073709551616 : Int) < r := by omega
    have g5 : (r : Int) < 18446744073709551616 := by omega
    have e1 : intN (x' * r) = D.int ((x' : Int) * (r : Int)) := congrArg D.int (Int.natCast_mul x' r)
    simp [lb__law_lengths_1, h1, h2, g2, g3, g4, g5, soS_some]
    rw [e1]
theorem t_lengths (a b c : Int) (n : Nat) (hn : n ≤ 5000) : ∃ ss : List Nat, ss.length = n ∧ ∃ a' b' c', fn__law_lengths [.own true (WL a b c), .val (.int n)] = .ok (.own (.lst (ss.map intN))) [.own true (WL a' b' c'), .val (.int n)] := by
  obtain ⟨ss, hl, a', b', c', o3, o4, h⟩ := l_len (.int n) (rangeD 0 n) [] a b c none none (by simp [rangeD]; omega)
  refine ⟨ss, by rw [hl]; simp [rangeD], a', b', c', ?_⟩
  rw [show soS none = Slot.no from rfl, List.map_nil] at h
  have g1 : (n : Int) < 4611686018427387904 := by omega
  simp [fn__law_lengths, dn__law_lengths, h, g1]
/-! a row of lengths that are alike -/
theorem l_len2 (n often : D) (s0 : Nat) (ss : List Nat) : ∀ (ks : List D) (acc : List Nat) (a b c : Int), acc.length + ks.length ≤ 5000 → ∃ acc' : List Nat, acc'.length = acc.length + ks.length ∧ ∃ a' b' c',
    lcRun (tName 4) tYesD le__law_right_1 [4] ks (acc.map intN) [.own true (WL a b c), .val n, .val (.lst (intN s0 :: ss.map intN)), .val often, .no, .no, .no, .no, .no, .no, .no, .no, .no, .no, .no] =
      .ok (acc'.map intN) [.own true (WL a' b' c'), .val n, .val (.lst (intN s0 :: ss.map intN)), .val often, .no, .no, .no, .no, .no, .no, .no, .no, .no, .no, .no]
  | [], acc, a, b, c, _ => ⟨acc, rfl, a, b, c, by rw [v_lcN]⟩
  | k :: ks, acc, a, b, c, h5 => by
    rw [List.length_cons] at h5
    obtain ⟨x, hx, a1, b1, c1, h1⟩ := t_pick a b c [0, 6, 6, (s0 : Int)] (by simp) (by simp)
    have hx0 : 0 ≤ x := by
      simp only [List.mem_cons, List.not_mem_nil, or_false] at hx
      omega
    obtain ⟨x', rfl⟩ := Int.eq_ofNat_of_zero_le hx0
    obtain ⟨acc', hl, a3, b3, c3, ih⟩ := l_len2 n often s0 ss ks (acc ++ [x']) a1 b1 c1 (by rw [List.length_append, List.length_singleton]; omega)
    refine ⟨acc', by rw [hl, List.length_append, List.length_singleton, List.length_cons]; omega, a3, b3, c3, ?_⟩
    simp only [List.map_cons, List.map_nil] at h1
    have g3 : 4 ≤ sizeLine := Nat.le_of_lt (small_line (by omega))
    rw [lc_keep (u := ()) (y := intN x') (e1 := [.own true (WL a b c), .val n, .val (.lst (intN s0 :: ss.map intN)), .val often, .val k, .no, .no, .no, .no, .no, .no, .no, .no, .no, .no]) (e2 := [.own true (WL a b c), .val n, .val (.lst (intN s0 :: ss.map intN)), .val often, .val k, .no, .no, .no, .no, .no, .no, .no, .no, .no, .no]) (e3 := [.own true (WL a1 b1 c1), .val n, .val (.lst (intN s0 :: ss.map intN)), .val often, .val k, .no, .no, .no, .no, .no, .no, .no, .no, .no, .no]) (by simp) (by simp) (by simp [le__law_right_1, h1, g3]) (by rw [List.length_map]; exact small_line (by omega))]
    rw [← ih, List.map_append]
    rfl
/-! names -/
theorem l_names (s : Sl) (k : Nat) (e : Sl) (n : Nat) (h7 : n ≤ 7) (he : ∀ i : Nat, lcStep (tName 4) tYesD le__law_right_2 [4] (intN i) e = .ok (some (nameD i)) e) : lcRun (tName 4) tYesD le__law_right_2 [4] ((List.range n).map intN) [] e = .ok ((List.range n).map nameD) e :=
  lc_map (t := tName 4) (p := tYesD) (f := le__law_right_2) (vs := [4]) (enc := intN) nameD (List.range n) (by simp; omega) (fun i _ => he i)
/-! pairs -/
theorem l_prs1 (n ss often : D) (ov : Nat) (hov : often = .int ov) (h0 : 0 < ov) (h1 : ov ≤ 1000) (i : Nat) (s5 s6 s7 s10 s11 s12 s13 s14 : Slot) : ∀ (js : List Nat) (ps : List (Nat × Nat)) (a b c : Int) (o9 : Option D), ps.length + js.length ≤ 5000 → ∃ qs : List Nat, qs.Sublist js ∧ ∃ a' b' c' o9',
    forRun (tName 9) lb__law_right_1 (js.map intN) [.own true (WL a b c), .val n, .val ss, .val often, .val (intN i), s5, s6, s7, .own false (.lst (ps.map prD)), soS o9, s10, s11, s12, s13, s14] =
      .ok .nx [.own true (WL a' b' c'), .val n, .val ss, .val often, .val (intN i), s5, s6, s7, .own false (.lst ((ps ++ qs.map fun j => (i, j)).map prD)), soS o9', s10, s11, s12, s13, s14]
  | [], ps, a, b, c, o9, _ => ⟨[], List.Sublist.slnil, a, b, c, o9, by rw [List.map_nil, List.map_nil, List.append_nil]; exact v_forN _ _ _⟩
  | j :: js, ps, a, b, c, o9, h5 => by
    subst hov
    rw [List.length_cons] at h5
    obtain ⟨r, hr, a1, b1, c1, h⟩ := t_draw a b c ov (by omega) (by omega)
    have g2 : ps.length < sizeLine := small_line (by omega)
    by_cases r0 : r = 0
    · obtain ⟨qs, hq, a2, b2, c2, o9', ih⟩ := l_prs1 n ss (.int ov) ov rfl h0 h1 i s5 s6 s7 s10 s11 s12 s13 s14 js (ps ++ [(i, j)]) a1 b1 c1 (some (intN j)) (by rw [List.length_append, List.length_singleton]; omega)
      refine ⟨j :: qs, hq.cons_cons j, a2, b2, c2, o9', ?_⟩
      subst r0
      rw [show ps ++ (j :: qs).map (fun j => (i, j)) = (ps ++ [(i, j)]) ++ qs.map fun j => (i, j) by simp, List.map_cons, v_forC, ← ih]
      simp [lb__law_right_1, h, g2, soS_some, prD, eq_int]
    · obtain ⟨qs, hq, a2, b2, c2, o9', ih⟩ := l_prs1 n ss (.int ov) ov rfl h0 h1 i s5 s6 s7 s10 s11 s12 s13 s14 js ps a1 b1 c1 (some (intN j)) (by omega)
      refine ⟨qs, hq.cons j, a2, b2, c2, o9', ?_⟩
      rw [List.map_cons, v_forC, ← ih]
      simp [lb__law_right_1, h, g2, soS_some, eq_int, r0]
def rowP (n i : Nat) : List (Nat × Nat) := (List.range' (i + 1) (n - (i + 1))).map fun j => (i, j)
theorem range_nat (lo k : Nat) : rangeD (lo : Int) k = (List.range' lo k).map intN := by
  unfold rangeD
  rw [List.range'_eq_map_range, List.map_map]
  congr 1
theorem l_prs2 (n : Nat) (h7 : n ≤ 7) (ss often : D) (ov : Nat) (hov : often = .int ov) (h0 : 0 < ov) (h1 : ov ≤ 1000) (s5 s6 s7 s10 s11 s12 s13 s14 : Slot) : ∀ (is : List Nat) (ps : List (Nat × Nat)) (a b c : Int) (o4 o9 : Option D), ps.length + 7 * is.length ≤ 5000 → (∀ i ∈ is, i < n) → ∃ qs : List (Nat × Nat), qs.Sublist (is.flatMap (rowP n)) ∧ ∃ a' b' c' o4' o9',
    forRun (tName 4) lb__law_right_2 (is.map intN) [.own true (WL a b c), .val (.int n), .val ss, .val often, soS o4, s5, s6, s7, .own false (.lst (ps.map prD)), soS o9, s10, s11, s12, s13, s14] =
      .ok .nx [.own true (WL a' b' c'), .val (.int n), .val ss, .val often, soS o4', s5, s6, s7, .own false (.lst ((ps ++ qs).map prD)), soS o9', s10, s11, s12, s13, s14]
  | [], ps, a, b, c, o4, o9, _, _ => ⟨[], List.Sublist.slnil, a, b, c, o4, o9, by rw [List.map_nil, List.append_nil]; exact v_forN _ _ _⟩
  | i :: is, ps, a, b, c, o4, o9, h5, hi => by
    rw [List.length_cons] at h5
    have hin := hi i List.mem_cons_self
    obtain ⟨qs, hq, a1, b1, c1, o9', h⟩ := l_prs1 (.int n) ss often ov hov h0 h1 i s5 s6 s7 s10 s11 s12 s13 s14 (List.range' (i + 1) (n - (i + 1))) ps a b c o9 (by rw [List.length_range']; omega)
    have hql := hq.length_le
    rw [List.length_range'] at hql
    obtain ⟨qs2, hq2, a2, b2, c2, o4', o9'', ih⟩ := l_prs2 n h7 ss often ov hov h0 h1 s5 s6 s7 s10 s11 s12 s13 s14 is (ps ++ qs.map fun j => (i, j)) a1 b1 c1 (some (intN i)) o9' (by rw [List.length_append, List.length_map]; omega) (fun x hx => hi x (List.mem_cons_of_mem _ hx))
    refine ⟨qs.map (fun j => (i, j)) ++ qs2, ?_, a2, b2, c2, o4', o9'', ?_⟩
    · rw [List.flatMap_cons]
      exact List.Sublist.append (hq.map _) hq2
    · rw [← List.append_assoc, List.map_cons, v_forC, ← ih]
      rw [← range_nat] at h
      have e1 : ((i : Int) + 1) = ((i + 1 : Nat) : Int) := by omega
      have e2 : ((n : Int) - (i + 1)).toNat = n - (i + 1) := by omega
      have g1 : (i : Int) + 1 < 4611686018427387904 := by omega
      have g2 : (n : Int) < 4611686018427387904 := by omega
      have g3 : n - (i + 1) ≤ 10000 := by omega
      simp only [Int.natCast_add, Int.natCast_one] at h
      simp [lb__law_right_2, h, e2, soS_some, g1, g2]
end Lw

set_option Elab.async false
set_option linter.all false
set_option maxRecDepth 100000
set_option maxHeartbeats 1000000
namespace Lw
open PySem L2 Y
def allP (n : Nat) : List (Nat × Nat) := (List.range n).flatMap (rowP n)
theorem allP_nd (n : Nat) (h7 : n ≤ 7) : (allP n).Nodup := by
  have c : n = 0 ∨ n = 1 ∨ n = 2 ∨ n = 3 ∨ n = 4 ∨ n = 5 ∨ n = 6 ∨ n = 7 := by omega
  rcases c with rfl | rfl | rfl | rfl | rfl | rfl | rfl | rfl <;> decide +kernel
theorem allP_ord (n : Nat) : ∀ p ∈ allP n, p.1 < p.2 ∧ p.2 < n := by
  intro p hp
  unfold allP at hp
  obtain ⟨i, hi, h⟩ := List.mem_flatMap.mp hp
  unfold rowP at h
  obtain ⟨j, hj, rfl⟩ := List.mem_map.mp h
  rw [List.mem_range'_1] at hj
  rw [List.mem_range] at hi
  exact ⟨by simp only; omega, by simp only; omega⟩
theorem Gr.sub {n : Nat} (h7 : n ≤ 7) {ps : List (Nat × Nat)} (h : ps.Sublist (allP n)) : Gr n ps := ⟨fun p hp => allP_ord n p (h.subset hp), (allP_nd n h7).sublist h⟩
theorem Gr.perm {n : Nat} {ps es : List (Nat × Nat)} (g : Gr n ps) (h : es.Perm ps) : Gr n es := ⟨fun p hp => g.ord p (h.mem_iff.mp hp), h.nodup_iff.mpr g.nd⟩
def gtP (ps : List (Nat × Nat)) (k : Nat) : Nat × Nat := ps.getD k (0, 0)
theorem range_gtP (ps : List (Nat × Nat)) : (List.range ps.length).map (gtP ps) = ps := by
  apply List.ext_getElem
  · simp
  · intro i h1 h2
    simp [gtP, h2]
theorem es_perm (ps : List (Nat × Nat)) (f : List Nat) (h : f.Perm (List.range ps.length)) : (f.map (gtP ps)).Perm ps := by
  have := h.map (gtP ps)
  rwa [range_gtP] at this
theorem clq_perm {ps es : List (Nat × Nat)} (h : es.Perm ps) : clq es = clq ps := by
  funext s
  unfold clq
  congr 1
  funext a
  congr 1
  funext b
  exact decide_eq_decide.mpr h.mem_iff
theorem ans_perm (n : Nat) {ps es : List (Nat × Nat)} (h : es.Perm ps) (ss : List Nat) : ans n es ss = ans n ps ss := by
  unfold ans CC
  rw [clq_perm h]
variable [TB]
theorem at_gtP (ps : List (Nat × Nat)) (k : Nat) (h : k < ps.length) : atI (ps.map prD) (k : Int) = some (prD (gtP ps k)) := by
  rw [atI_ofNat, List.getElem?_map, List.getElem?_eq_getElem h]
  unfold gtP
  rw [List.getD_eq_getElem?_getD, List.getElem?_eq_getElem h]
  rfl
theorem eqd_sD (b : Nat) : eqd (sD b) (sD b) = true ∧ okD (sD b) = true ∧ dpD (sD b) ≤ 1 := by
  obtain ⟨n, d, _, _, _, e⟩ := sD_form b
  rw [e]
  split <;> simp [eqd, eqds, okD, okDs, dpD, dpDs]
def ansD (b : Nat) (f : List Nat) : D := .tup [sD b, tupN f]
theorem eq_ansD (b : Nat) (f : List Nat) : eqD (ansD b f) (ansD b f) = some true := by
  obtain ⟨h1, h2, h3⟩ := eqd_sD b
  have hd : dpD (ansD b f) ≤ 64 := by
    have := dp_tupN f
    unfold ansD
    simp only [dpD, dpDs]
    omega
  have ho : okD (ansD b f) = true := by
    unfold ansD
    simp [okD, okDs, h2, ok_tupN]
  rw [eqD_of ho ho hd hd]
  unfold ansD
  simp [eqd, eqds, h1, eqd_tupN]
theorem eq_lstP (es : List (Nat × Nat)) : eqD (.lst (es.map prD)) (.lst (es.map prD)) = some true := by
  have hd : dpD (.lst (es.map prD)) ≤ 64 := by
    have := dpDs_map dp_prD es
    simp only [dpD]
    omega
  have ho : okD (.lst (es.map prD)) = true := by
    simp [okD, okDs_map ok_prD]
  rw [eqD_of ho ho hd hd]
  simp [eqd, eqds_map eqd_prD]
theorem l_one (n : Nat) (h7 : n ≤ 7) (es : List (Nat × Nat)) (g : Gr n es) (ss : List Nat) (hs : ss.length = n) (b : Nat) (f : List Nat) (hb : ans n es ss = some (b, f)) (seq : List D → D) (hseq : seq = D.lst ∨ seq = D.tup)
    (s0 s1 s2 s3 s4 s5 s7 s8 s9 s10 s11 s13 s14 : Slot) (h5 : s5 = .own false (.ins "Shape" (shF n)) ∨ s5 = .val (shD n)) (h14 : stoS (some s14) = true) :
    (noEx (tName 14 (seq (es.map prD)) [s0, s1, s2, s3, s4, s5, .val (.tup (ss.map sD)), s7, s8, s9, s10, s11, .val (ansD b f), s13, s14])).bnd (runB lb__law_right_3) =
      .ok .nx [s0, s1, s2, s3, s4, .val (shD n), .val (.tup (ss.map sD)), s7, s8, s9, s10, s11, .val (ansD b f), s13, .val (seq (es.map prD))] := by
  have ht := t_timeof n h7 es g ss hs seq hseq
  rw [hb] at ht
  have ht : _ = Res.ok (RV.val (ansD b f)) _ := ht
  have hq := eq_ansD b f
  have hd : (Cont.ins "Shape" (shF n)).dat = shD n := rfl
  rcases h5 with rfl | rfl
  · simp [lb__law_right_3, h14, ht, hq, hd, pickL]
  · simp [lb__law_right_3, h14, ht, hq, hd, pickL]
/-- one turn -/
theorem l_turn (n : Nat) (h1 : 1 ≤ n) (h7 : n ≤ 7) (ss : List Nat) (hs : ss.length = n) (ov : Nat) (hv0 : 0 < ov) (hv1 : ov ≤ 1000) (a b c : Int) (o4 o9 : Option D) (s5 s7 s8 s10 s12 s13 s14 : Slot) (k : D)
    (h5 : s5 = .own false (.ins "Shape" (shF n)) ∨ s5 = .val (shD n)) (t7 : stoS (some s7) = true) (t8 : stoS (some s8) = true) (t10 : stoS (some s10) = true) (t12 : stoS (some s12) = true) (t13 : stoS (some s13) = true) (t14 : stoS (some s14) = true) :
    ∃ a' b' c' o4' o9' d8 d10 d12 c13 d14, (noEx (tName 7 k [.own true (WL a b c), .val (.int n), .val (.lst (ss.map intN)), .val (.int ov), soS o4, s5, .val (.tup (ss.map sD)), s7, s8, soS o9, s10, .no, s12, s13, s14])).bnd (runB lb__law_right_4) =
      .ok .nx [.own true (WL a' b' c'), .val (.int n), .val (.lst (ss.map intN)), .val (.int ov), soS o4', .val (shD n), .val (.tup (ss.map sD)), .val k, .val d8, soS o9', .val d10, .no, .val d12, .own false c13, .val d14] := by
  obtain ⟨ps, hp, a1, b1, c1, o4', o9', hpr⟩ := l_prs2 n h7 (.lst (ss.map intN)) (.int ov) ov rfl hv0 hv1 s5 (.val (.tup (ss.map sD))) (.val k) s10 .no s12 s13 s14 (List.range n) [] a b c o4 o9 (by simp; omega) (by simp)
  have hp : ps.Sublist (allP n) := hp
  have g := Gr.sub h7 hp
  have hlen : ps.length ≤ 49 := by
    refine Nat.le_trans hp.length_le ?_
    have c : n = 1 ∨ n = 2 ∨ n = 3 ∨ n = 4 ∨ n = 5 ∨ n = 6 ∨ n = 7 := by omega
    rcases c with rfl | rfl | rfl | rfl | rfl | rfl | rfl <;> decide +kernel
  rw [List.nil_append, List.map_nil] at hpr
  obtain ⟨f, hf, a2, b2, c2, hrow⟩ := t_row a1 b1 c1 ps.length (by omega)
  have hperm := es_perm ps f hf
  have g' := g.perm hperm
  obtain ⟨bb, ff, hans⟩ := ans_some n h1 h7 ps ss
  have hans' := ans_perm n hperm ss
  rw [hans] at hans'
  have hdue := t_due n h1 h7 ps ss hs
  rw [hans] at hdue
  have hdue : _ = Res.ok (RV.val (ansD bb ff)) _ := hdue
  have hfl : f.length = ps.length := by rw [hf.length_eq, List.length_range]
  have hlc := lc_map (t := tName 11) (p := tYesD) (f := le__law_right_3) (vs := [11]) (e := [.own true (WL a2 b2 c2), .val (.int n), .val (.lst (ss.map intN)), .val (.int ov), soS o4', s5, .val (.tup (ss.map sD)), .val k, .own false (.lst (ps.map prD)), soS o9', s10, .no, s12, s13, s14]) (enc := intN) (fun i => prD (gtP ps i)) f (by omega) (fun i z => by
    have hi : i < ps.length := List.mem_range.mp (hf.mem_iff.mp z)
    have := at_gtP ps i hi
    simp [le__law_right_3, this])
  rw [show (f.map fun i => prD (gtP ps i)) = (f.map (gtP ps)).map prD by rw [List.map_map]; rfl] at hlc
  generalize hes : f.map (gtP ps) = es at *
  have hr : rangeD 0 n = (List.range n).map intN := by
    simp [rangeD, intN]
  have g1 : (n : Int) < 4611686018427387904 := by omega
  have hq := eq_lstP es
  have k1 := fun s14 h14 => l_one n h7 es g' ss hs bb ff hans' D.lst (.inl rfl) (.own true (WL a2 b2 c2)) (.val (.int n)) (.val (.lst (ss.map intN))) (.val (.int ov)) (soS o4') s5 (.val k) (.val (.lst (ps.map prD))) (soS o9') (.val (.lst (es.map prD))) .no (.own false (.lst (es.map prD))) s14 h5 h14
  have k2 := fun s14 h14 => l_one n h7 es g' ss hs bb ff hans' D.tup (.inr rfl) (.own true (WL a2 b2 c2)) (.val (.int n)) (.val (.lst (ss.map intN))) (.val (.int ov)) (soS o4') (.val (shD n)) (.val k) (.val (.lst (ps.map prD))) (soS o9') (.val (.lst (es.map prD))) .no (.own false (.lst (es.map prD))) s14 (.inr rfl) h14
  have k3 := fun s14 h14 => l_one n h7 ps g ss hs bb ff hans D.lst (.inl rfl) (.own true (WL a2 b2 c2)) (.val (.int n)) (.val (.lst (ss.map intN))) (.val (.int ov)) (soS o4') (.val (shD n)) (.val k) (.val (.lst (ps.map prD))) (soS o9') (.val (.lst (es.map prD))) .no (.own false (.lst (es.map prD))) s14 (.inr rfl) h14
  have hfor := (for_step (ds := [.tup (es.map prD), .lst (ps.map prD)]) (k1 s14 t14)).trans ((for_step (ds := [.lst (ps.map prD)]) (k2 _ rfl)).trans ((for_step (ds := []) (k3 _ rfl)).trans (v_forN _ _ _)))
  refine ⟨a2, b2, c2, o4', o9', .lst (ps.map prD), .lst (es.map prD), ansD bb ff, .lst (es.map prD), .lst (ps.map prD), ?_⟩
  have hrow' : ∀ e1 : Sl, 1 = 1 := fun _ => rfl
  simp [lb__law_right_4, t7, t8, t10, t12, t13, hr, g1, hpr, hrow, hlc, hdue, hfor, hq]
end Lw

set_option Elab.async false
set_option linter.all false
set_option maxRecDepth 100000
set_option maxHeartbeats 1000000
namespace Lw
open PySem L2 Y
variable [TB]
theorem l_loop (n : Nat) (h1 : 1 ≤ n) (h7 : n ≤ 7) (ss : List Nat) (hs : ss.length = n) (ov : Nat) (hv0 : 0 < ov) (hv1 : ov ≤ 1000) (a b c : Int) :
    ∃ (a' b' c' : Int) (e : Sl), forRun (tName 7) lb__law_right_4 [.int 0, .int 1] [.own true (WL a b c), .val (.int n), .val (.lst (ss.map intN)), .val (.int ov), .no, .own false (.ins "Shape" (shF n)), .val (.tup (ss.map sD)), .no, .no, .no, .no, .no, .no, .no, .no] = .ok .nx (.own true (WL a' b' c') :: e) := by
  obtain ⟨a1, b1, c1, o4, o9, d8, d10, d12, c13, d14, k1⟩ := l_turn n h1 h7 ss hs ov hv0 hv1 a b c none none (.own false (.ins "Shape" (shF n))) .no .no .no .no .no .no (.int 0) (.inl rfl) rfl rfl rfl rfl rfl rfl
  obtain ⟨a2, b2, c2, o4', o9', d8', d10', d12', c13', d14', k2⟩ := l_turn n h1 h7 ss hs ov hv0 hv1 a1 b1 c1 o4 o9 (.val (shD n)) (.val (.int 0)) (.val d8) (.val d10) (.val d12) (.own false c13) (.val d14) (.int 1) (.inr rfl) rfl rfl rfl rfl rfl rfl
  exact ⟨_, _, _, _, (for_step k1).trans ((for_step k2).trans (v_forN _ _ _))⟩
theorem l_nameStep (s0 s1 s2 s3 s5 s6 s7 s8 s9 s10 s11 s12 s13 s14 : Slot) (i : Nat) (hi : i < 7) : lcStep (tName 4) tYesD le__law_right_2 [4] (intN i) [s0, s1, s2, s3, .no, s5, s6, s7, s8, s9, s10, s11, s12, s13, s14] = .ok (some (nameD i)) [s0, s1, s2, s3, .no, s5, s6, s7, s8, s9, s10, s11, s12, s13, s14] := by
  have c : i = 0 ∨ i = 1 ∨ i = 2 ∨ i = 3 ∨ i = 4 ∨ i = 5 ∨ i = 6 := by omega
  rcases c with rfl | rfl | rfl | rfl | rfl | rfl | rfl <;> kernel_rfl
theorem t_right (a b c : Int) : ∃ e, fn__law_right [.own true (WL a b c)] = .ok (.val (.bl true)) e := by
  obtain ⟨r, hr, a1, b1, c1, d1⟩ := t_draw a b c 7 (by decide) (by decide)
  have hr' : r < 7 := by omega
  obtain ⟨ss, hs, a2, b2, c2, d2⟩ := t_lengths a1 b1 c1 (1 + r) (by omega)
  obtain ⟨ov, ho, a3, b3, c3, d3⟩ := t_pick a2 b2 c2 [1, 2, 2, 3, 9] (by decide) (by decide)
  have ho' : 1 ≤ ov ∧ ov ≤ 9 := by
    simp only [List.mem_cons, List.not_mem_nil, or_false] at ho
    omega
  obtain ⟨ov, rfl⟩ := Int.eq_ofNat_of_zero_le (a := ov) (by omega)
  obtain ⟨q, hq, a4, b4, c4, d4⟩ := t_draw a3 b3 c3 3 (by decide) (by decide)
  generalize hn : 1 + r = n at *
  have hn' : (1 : Int) + (r : Int) = (n : Int) := by omega
  have e2 : rangeD 0 2 = [.int 0, .int 1] := rfl
  have er : rangeD 0 n = (List.range n).map intN := by
    simp [rangeD, intN]
  have g1 : (n : Int) < 4611686018427387904 := by omega
  have g3 : 5 ≤ sizeLine := Nat.le_of_lt (small_line (by omega))
  have hmk := t_make n (by omega) (by omega)
  unfold mkIn mkOut at hmk
  have hnm := fun s0 s2 s3 : Slot => lc_map (t := tName 4) (p := tYesD) (f := le__law_right_2) (vs := [4]) (enc := intN) (e := [s0, .val (.int n), s2, s3, .no, .no, .no, .no, .no, .no, .no, .no, .no, .no, .no]) nameD (List.range n) (by simp; omega) (fun i z => l_nameStep _ _ _ _ _ _ _ _ _ _ _ _ _ _ i (by have := List.mem_range.mp z; omega))
  simp only [List.map_cons, List.map_nil] at d3
  by_cases q0 : q = 0
  · subst q0
    cases ss with
    | nil => simp at hs; omega
    | cons s0 ss =>
      obtain ⟨ss2, hl2, a5, b5, c5, d5⟩ := l_len2 (.int n) (.int ov) s0 ss ((List.range n).map intN) [] a4 b4 c4 (by simp; omega)
      have hl2 : ss2.length = n := by rw [hl2]; simp
      obtain ⟨a9, b9, c9, e, hloop⟩ := l_loop n (by omega) (by omega) ss2 hl2 ov (by omega) (by omega) a5 b5 c5
      have hnum := t_lawnums ss2 (by omega)
      rw [List.map_nil] at d5
      refine ⟨[.own true (WL a9 b9 c9)], ?_⟩
      simp [fn__law_right, dn__law_right, d1, d2, d3, d4, d5, hn', g1, g3, er, e2, hnm, hmk, hnum, hloop, pickL, eq_int]
  · obtain ⟨a9, b9, c9, e, hloop⟩ := l_loop n (by omega) (by omega) ss hs ov (by omega) (by omega) a4 b4 c4
    have hnum := t_lawnums ss (by omega)
    refine ⟨[.own true (WL a9 b9 c9)], ?_⟩
    simp [fn__law_right, dn__law_right, d1, d2, d3, d4, hn', g1, g3, er, e2, hnm, hmk, hnum, hloop, pickL, eq_int, q0]
end Lw

set_option Elab.async false
set_option linter.all false
set_option maxRecDepth 100000
set_option maxHeartbeats 1000000
namespace Lw
open PySem L2 Y
variable [TB]
theorem t_well (ns : List Int) (k : Nat) (hk : k < 1000) : ∃ a b, fn__law_well [.val (.lst (ns.map D.int)), .val (.int k)] = .ok (.own (WL a b 0)) [.val (.lst (ns.map D.int)), .val (.int k)] := by
  have g2 : 2 ≤ sizeLine := Nat.le_of_lt (small_line (by omega))
  have g3 : 3 ≤ sizeLine := Nat.le_of_lt (small_line (by omega))
  by_cases h : k < ns.length
  · have h' : (k : Int) < ns.length := by omega
    have hx : atI (ns.map D.int) (k : Int) = some (.int ns[k]) := by
      rw [atI_ofNat, List.getElem?_map, List.getElem?_eq_getElem h]
      rfl
    by_cases c : (1000000000000000000 : Int) ≤ ns[k]
    · exact ⟨ns[k], ns[k] % 2147483647, by simp [fn__law_well, dn__law_well, h', hx, c, g2, g3, intK]⟩
    · exact ⟨0, ns[k] % 2147483647, by simp [fn__law_well, dn__law_well, h', hx, c, g2, g3, intK]⟩
  · have h' : ¬ (k : Int) < ns.length := by omega
    have c : ¬ (1000000000000000000 : Int) ≤ 7 * (k : Int) := by omega
    exact ⟨0, (7 * (k : Int)) % 2147483647, by simp [fn__law_well, dn__law_well, h', c, g2, g3, intK]⟩
theorem l_law (ns : List Int) : ∀ (ks : List Nat) (o : Option D), (∀ k ∈ ks, k < 1000) → ∃ o', forRun (tName 1) lb_law_1 (ks.map intN) [.val (.lst (ns.map D.int)), soS o] = .ok .nx [.val (.lst (ns.map D.int)), soS o']
  | [], o, _ => ⟨o, by rw [List.map_nil]; exact v_forN _ _ _⟩
  | k :: ks, o, h => by
    obtain ⟨o', ih⟩ := l_law ns ks (some (intN k)) fun x hx => h x (List.mem_cons_of_mem _ hx)
    refine ⟨o', ?_⟩
    obtain ⟨a, b, hw⟩ := t_well ns k (h k List.mem_cons_self)
    obtain ⟨e, hr⟩ := t_right a b 0
    have hc := fun e => v_coC e hr
    rw [List.map_cons, v_forC, ← ih]
    simp [lb_law_1, hw, hc, soS_some]
theorem law_true : ∀ ns : List Int, ns.length ≤ 63 → ∃ e, fn_law [.val (.lst (ns.map D.int))] = .ok (.val (.bl true)) e := by
  intro ns hn
  obtain ⟨m, hm, hm2⟩ : ∃ m : Nat, (if (1 : Int) < if (ns.length : Int) < 6 then (ns.length : Int) else 6 then if (ns.length : Int) < 6 then (ns.length : Int) else 6 else 1).toNat = m ∧ m ≤ 6 := ⟨_, rfl, by split <;> split <;> omega⟩
  have er : rangeD 0 m = (List.range m).map intN := by
    simp [rangeD, intN]
  obtain ⟨o', h⟩ := l_law ns (List.range m) none (fun k hk => by have := List.mem_range.mp hk; omega)
  rw [show soS none = Slot.no from rfl] at h
  have g1 : (m : Int) < 4611686018427387904 := by omega
  refine ⟨[.val (.lst (ns.map D.int))], ?_⟩
  simp [fn_law, dn_law, hm, er, h, g1]
end Lw

set_option Elab.async false
set_option linter.all false
set_option maxRecDepth 100000
set_option maxHeartbeats 0
namespace Lw
open PySem PySem.Spec L2 Y
set_option autoImplicit false
section
variable {P : Program} {w : World} {K : PySem.W.Frag} {mg : Mg}
theorem all_ok (t : TB) (T : ∀ cv, letI : TB := TB.wi t cv; Txt K mg) : ∀ cv, letI : TB := TB.wi t cv; CallOk P w K mg "law" 12 ["_law_script"] fn_law := by
  have C_is_int := fun cv => (letI : TB := TB.wi t cv; ok_is_int (P := P) (w := w) (T cv) )
  have C_divisor_of := fun cv => (letI : TB := TB.wi t cv; ok_divisor_of (P := P) (w := w) (T cv) )
  have C_is_number := fun cv => (letI : TB := TB.wi t cv; ok_is_number (P := P) (w := w) (T cv) (C_divisor_of cv) (C_is_int cv))
  have C_halves_of := fun cv => (letI : TB := TB.wi t cv; ok_halves_of (P := P) (w := w) (T cv) )
  have C_number_of := fun cv => (letI : TB := TB.wi t cv; ok_number_of (P := P) (w := w) (T cv) (C_divisor_of cv))
  have C_plus := fun cv => (letI : TB := TB.wi t cv; ok_plus (P := P) (w := w) (T cv) (C_halves_of cv) (C_number_of cv))
  have C_is_less := fun cv => (letI : TB := TB.wi t cv; ok_is_less (P := P) (w := w) (T cv) (C_halves_of cv))
  have C_is_amount := fun cv => (letI : TB := TB.wi t cv; ok_is_amount (P := P) (w := w) (T cv) (C_halves_of cv) (C_is_number cv))
  have C_sum_of := fun cv => (letI : TB := TB.wi t cv; ok_sum_of (P := P) (w := w) (T cv) (C_plus cv))
  have C_is_name := fun cv => (letI : TB := TB.wi t cv; ok_is_name (P := P) (w := w) (T cv) )
  have C_is_index := fun cv => (letI : TB := TB.wi t cv; ok_is_index (P := P) (w := w) (T cv) (C_is_int cv))
  have C_is_pair := fun cv => (letI : TB := TB.wi t cv; ok_is_pair (P := P) (w := w) (T cv) (C_is_index cv))
  have C_is_row := fun cv => (letI : TB := TB.wi t cv; ok_is_row (P := P) (w := w) (T cv) )
  have C_closure := fun cv => (letI : TB := TB.wi t cv; ok_closure (P := P) (w := w) (T cv) )
  have C_has_ring := fun cv => (letI : TB := TB.wi t cv; ok_has_ring (P := P) (w := w) (T cv) (C_closure cv))
  have C_check_names := fun cv => (letI : TB := TB.wi t cv; ok_check_names (P := P) (w := w) (T cv) (C_is_name cv) (C_is_row cv))
  have C_check_before := fun cv => (letI : TB := TB.wi t cv; ok_check_before (P := P) (w := w) (T cv) (C_has_ring cv) (C_is_pair cv) (C_is_row cv))
  have C_is_machine := fun cv => (letI : TB := TB.wi t cv; ok_is_machine (P := P) (w := w) (T cv) (C_is_index cv))
  have C_are_skills := fun cv => (letI : TB := TB.wi t cv; ok_are_skills (P := P) (w := w) (T cv) (C_is_name cv))
  have C_are_asks := fun cv => (letI : TB := TB.wi t cv; ok_are_asks (P := P) (w := w) (T cv) (C_is_int cv) (C_is_name cv))
  have C_skills_among := fun cv => (letI : TB := TB.wi t cv; ok_skills_among (P := P) (w := w) (T cv) )
  have C_sets_of := fun cv => (letI : TB := TB.wi t cv; ok_sets_of (P := P) (w := w) (T cv) )
  have C_lacking_skills := fun cv => (letI : TB := TB.wi t cv; ok_lacking_skills (P := P) (w := w) (T cv) (C_sets_of cv) (C_skills_among cv))
  have C_check_crew := fun cv => (letI : TB := TB.wi t cv; ok_check_crew (P := P) (w := w) (T cv) (C_are_asks cv) (C_are_skills cv) (C_is_row cv) (C_lacking_skills cv) (C_skills_among cv))
  have C_Shape_0 := fun cv => (letI : TB := TB.wi t cv; ok_Shape_0 (P := P) (w := w) (T cv) (C_check_before cv) (C_check_crew cv) (C_check_names cv) (C_is_machine cv) (C_is_row cv))
  have C_check_shape := fun cv => (letI : TB := TB.wi t cv; ok_check_shape (P := P) (w := w) (T cv) )
  have C_check_durations := fun cv => (letI : TB := TB.wi t cv; ok_check_durations (P := P) (w := w) (T cv) (C_is_amount cv))
  have L_check_graph_0 := fun cv => (letI : TB := TB.wi t cv; okL_check_graph_0 (P := P) (w := w) (T cv) (C_is_pair cv))
  have H_check_graph_0 := fun cv => okH_check_graph_0 (t := TB.wi t cv) (P := P) (w := w) T L_check_graph_0
  have C_check_graph := fun cv => (letI : TB := TB.wi t cv; ok_check_graph (P := P) (w := w) (T cv) (H_check_graph_0 cv))
  have C_cliques_of := fun cv => (letI : TB := TB.wi t cv; ok_cliques_of (P := P) (w := w) (T cv) (C_sets_of cv))
  have C_time_in := fun cv => (letI : TB := TB.wi t cv; ok_time_in (P := P) (w := w) (T cv) (C_cliques_of cv) (C_is_less cv) (C_sum_of cv))
  have C_time_of := fun cv => (letI : TB := TB.wi t cv; ok_time_of (P := P) (w := w) (T cv) (C_check_durations cv) (C_check_graph cv) (C_check_shape cv) (C_time_in cv))
  have K_time_of_0 := fun cv => (letI : TB := TB.wi t cv; okK_time_of_0 (P := P) (w := w) (T cv) (C_check_durations cv) (C_check_graph cv) (C_check_shape cv) (C_time_in cv))
  have C__law_well := fun cv => (letI : TB := TB.wi t cv; ok__law_well (P := P) (w := w) (T cv) )
  have C__law_draw := fun cv => (letI : TB := TB.wi t cv; ok__law_draw (P := P) (w := w) (T cv) )
  have C__law_pick := fun cv => (letI : TB := TB.wi t cv; ok__law_pick (P := P) (w := w) (T cv) (C__law_draw cv))
  have C__law_row := fun cv => (letI : TB := TB.wi t cv; ok__law_row (P := P) (w := w) (T cv) (C__law_draw cv))
  have C__law_number := fun cv => (letI : TB := TB.wi t cv; ok__law_number (P := P) (w := w) (T cv) )
  have C__law_numbers := fun cv => (letI : TB := TB.wi t cv; ok__law_numbers (P := P) (w := w) (T cv) (C__law_number cv))
  have C__law_lengths := fun cv => (letI : TB := TB.wi t cv; ok__law_lengths (P := P) (w := w) (T cv) (C__law_draw cv) (C__law_pick cv))
  have C__law_sets := fun cv => (letI : TB := TB.wi t cv; ok__law_sets (P := P) (w := w) (T cv) )
  have C__law_is_clique := fun cv => (letI : TB := TB.wi t cv; ok__law_is_clique (P := P) (w := w) (T cv) )
  have C__law_due := fun cv => (letI : TB := TB.wi t cv; ok__law_due (P := P) (w := w) (T cv) (C__law_is_clique cv) (C__law_number cv) (C__law_sets cv))
  have C__law_right := fun cv => (letI : TB := TB.wi t cv; ok__law_right (P := P) (w := w) (T cv) (C__law_draw cv) (C__law_due cv) (C__law_lengths cv) (C__law_numbers cv) (C__law_pick cv) (C__law_row cv) (C_Shape_0 cv) (K_time_of_0 cv) (C_time_of cv))
  have C_law := fun cv => (letI : TB := TB.wi t cv; ok_law (P := P) (w := w) (T cv) (C__law_right cv) (C__law_well cv))
  exact C_law
end
def dd_is_int : He.DefD := ⟨("is_int", none), "is_int", "is_int", defArgs s_is_int, defBody s_is_int, defScope s_is_int, [], []⟩
def dd_divisor_of : He.DefD := ⟨("divisor_of", none), "divisor_of", "divisor_of", defArgs s_divisor_of, defBody s_divisor_of, defScope s_divisor_of, [], []⟩
def dd_is_number : He.DefD := ⟨("is_number", none), "is_number", "is_number", defArgs s_is_number, defBody s_is_number, defScope s_is_number, [], []⟩
def dd_halves_of : He.DefD := ⟨("halves_of", none), "halves_of", "halves_of", defArgs s_halves_of, defBody s_halves_of, defScope s_halves_of, [], []⟩
def dd_number_of : He.DefD := ⟨("number_of", none), "number_of", "number_of", defArgs s_number_of, defBody s_number_of, defScope s_number_of, [], []⟩
def dd_plus : He.DefD := ⟨("plus", none), "plus", "plus", defArgs s_plus, defBody s_plus, defScope s_plus, [], []⟩
def dd_is_less : He.DefD := ⟨("is_less", none), "is_less", "is_less", defArgs s_is_less, defBody s_is_less, defScope s_is_less, [], []⟩
def dd_is_amount : He.DefD := ⟨("is_amount", none), "is_amount", "is_amount", defArgs s_is_amount, defBody s_is_amount, defScope s_is_amount, [], []⟩
def dd_sum_of : He.DefD := ⟨("sum_of", none), "sum_of", "sum_of", defArgs s_sum_of, defBody s_sum_of, defScope s_sum_of, [], []⟩
def dd_is_name : He.DefD := ⟨("is_name", none), "is_name", "is_name", defArgs s_is_name, defBody s_is_name, defScope s_is_name, [], []⟩
def dd_is_index : He.DefD := ⟨("is_index", none), "is_index", "is_index", defArgs s_is_index, defBody s_is_index, defScope s_is_index, [], []⟩
def dd_is_pair : He.DefD := ⟨("is_pair", none), "is_pair", "is_pair", defArgs s_is_pair, defBody s_is_pair, defScope s_is_pair, [], []⟩
def dd_is_row : He.DefD := ⟨("is_row", none), "is_row", "is_row", defArgs s_is_row, defBody s_is_row, defScope s_is_row, [], []⟩
def dd_closure : He.DefD := ⟨("closure", none), "closure", "closure", defArgs s_closure, defBody s_closure, defScope s_closure, [], []⟩
def dd_has_ring : He.DefD := ⟨("has_ring", none), "has_ring", "has_ring", defArgs s_has_ring, defBody s_has_ring, defScope s_has_ring, [], []⟩
def dd_check_names : He.DefD := ⟨("check_names", none), "check_names", "check_names", defArgs s_check_names, defBody s_check_names, defScope s_check_names, [], []⟩
def dd_check_before : He.DefD := ⟨("check_before", none), "check_before", "check_before", defArgs s_check_before, defBody s_check_before, defScope s_check_before, [], []⟩
def dd_is_machine : He.DefD := ⟨("is_machine", none), "is_machine", "is_machine", defArgs s_is_machine, defBody s_is_machine, defScope s_is_machine, [], []⟩
def dd_are_skills : He.DefD := ⟨("are_skills", none), "are_skills", "are_skills", defArgs s_are_skills, defBody s_are_skills, defScope s_are_skills, [], []⟩
def dd_are_asks : He.DefD := ⟨("are_asks", none), "are_asks", "are_asks", defArgs s_are_asks, defBody s_are_asks, defScope s_are_asks, [], []⟩
def dd_skills_among : He.DefD := ⟨("skills_among", none), "skills_among", "skills_among", defArgs s_skills_among, defBody s_skills_among, defScope s_skills_among, [], []⟩
def dd_sets_of : He.DefD := ⟨("sets_of", none), "sets_of", "sets_of", defArgs s_sets_of, defBody s_sets_of, defScope s_sets_of, [], []⟩
def dd_lacking_skills : He.DefD := ⟨("lacking_skills", none), "lacking_skills", "lacking_skills", defArgs s_lacking_skills, defBody s_lacking_skills, defScope s_lacking_skills, [], []⟩
def dd_check_crew : He.DefD := ⟨("check_crew", none), "check_crew", "check_crew", defArgs s_check_crew, defBody s_check_crew, defScope s_check_crew, [], []⟩
def dd_check_shape : He.DefD := ⟨("check_shape", none), "check_shape", "check_shape", defArgs s_check_shape, defBody s_check_shape, defScope s_check_shape, [], []⟩
def dd_check_durations : He.DefD := ⟨("check_durations", none), "check_durations", "check_durations", defArgs s_check_durations, defBody s_check_durations, defScope s_check_durations, [], []⟩
def dd_fault_of_row : He.DefD := ⟨("fault_of_row", none), "fault_of_row", "fault_of_row", defArgs s_fault_of_row, defBody s_fault_of_row, defScope s_fault_of_row, [], []⟩
def dd_check_graph : He.DefD := ⟨("check_graph", none), "check_graph", "check_graph", defArgs s_check_graph, defBody s_check_graph, defScope s_check_graph, [], []⟩
def dd_cliques_of : He.DefD := ⟨("cliques_of", none), "cliques_of", "cliques_of", defArgs s_cliques_of, defBody s_cliques_of, defScope s_cliques_of, [], []⟩
def dd_time_in : He.DefD := ⟨("time_in", none), "time_in", "time_in", defArgs s_time_in, defBody s_time_in, defScope s_time_in, [], []⟩
def dd_time_of : He.DefD := ⟨("time_of", none), "time_of", "time_of", defArgs s_time_of, defBody s_time_of, defScope s_time_of, [], []⟩
def dd__law_well : He.DefD := ⟨("_law_well", none), "_law_well", "_law_well", defArgs s__law_well, defBody s__law_well, defScope s__law_well, [], []⟩
def dd__law_draw : He.DefD := ⟨("_law_draw", none), "_law_draw", "_law_draw", defArgs s__law_draw, defBody s__law_draw, defScope s__law_draw, [], []⟩
def dd__law_pick : He.DefD := ⟨("_law_pick", none), "_law_pick", "_law_pick", defArgs s__law_pick, defBody s__law_pick, defScope s__law_pick, [], []⟩
def dd__law_row : He.DefD := ⟨("_law_row", none), "_law_row", "_law_row", defArgs s__law_row, defBody s__law_row, defScope s__law_row, [], []⟩
def dd__law_number : He.DefD := ⟨("_law_number", none), "_law_number", "_law_number", defArgs s__law_number, defBody s__law_number, defScope s__law_number, [], []⟩
def dd__law_numbers : He.DefD := ⟨("_law_numbers", none), "_law_numbers", "_law_numbers", defArgs s__law_numbers, defBody s__law_numbers, defScope s__law_numbers, [], []⟩
def dd__law_lengths : He.DefD := ⟨("_law_lengths", none), "_law_lengths", "_law_lengths", defArgs s__law_lengths, defBody s__law_lengths, defScope s__law_lengths, [], []⟩
def dd__law_sets : He.DefD := ⟨("_law_sets", none), "_law_sets", "_law_sets", defArgs s__law_sets, defBody s__law_sets, defScope s__law_sets, [], []⟩
def dd__law_is_clique : He.DefD := ⟨("_law_is_clique", none), "_law_is_clique", "_law_is_clique", defArgs s__law_is_clique, defBody s__law_is_clique, defScope s__law_is_clique, [], []⟩
def dd__law_due : He.DefD := ⟨("_law_due", none), "_law_due", "_law_due", defArgs s__law_due, defBody s__law_due, defScope s__law_due, [], []⟩
def dd__law_right : He.DefD := ⟨("_law_right", none), "_law_right", "_law_right", defArgs s__law_right, defBody s__law_right, defScope s__law_right, [], []⟩
def dd_law : He.DefD := ⟨("law", none), "law", "law", defArgs s_law, defBody s_law, defScope s_law, [], []⟩
def dd_Shape : He.DefD := ⟨("Shape", some "__init__"), "__init__", "Shape.__init__", defArgs s_Shape, defBody s_Shape, defScope s_Shape, [], [("before", .adr (kwdAt ("Shape", some "__init__") "before")), ("machines", .adr (kwdAt ("Shape", some "__init__") "machines")), ("crew", .adr (kwdAt ("Shape", some "__init__") "crew")), ("asks", .adr (kwdAt ("Shape", some "__init__") "asks"))]⟩
def fnl_0 : List He.DefD := [dd_is_int, dd_divisor_of, dd_is_number, dd_halves_of, dd_number_of, dd_plus, dd_is_less, dd_is_amount, dd_sum_of, dd_is_name, dd_is_index, dd_is_pair, dd_is_row, dd_closure, dd_has_ring, dd_check_names, dd_check_before, dd_is_machine, dd_are_skills, dd_are_asks, dd_skills_among, dd_sets_of, dd_lacking_skills, dd_check_crew, dd_check_shape, dd_check_durations, dd_fault_of_row, dd_check_graph, dd_cliques_of, dd_time_in]
def fnl_1 : List He.DefD := [dd_time_of, dd__law_well, dd__law_draw, dd__law_pick, dd__law_row, dd__law_number, dd__law_numbers, dd__law_lengths, dd__law_sets, dd__law_is_clique, dd__law_due, dd__law_right, dd_law, dd_Shape]
def fnl : List He.DefD := fnl_0 ++ fnl_1
def fal_0 : List He.Fa := [.glo "is_int", .glo "divisor_of", .glo "is_number", .glo "halves_of", .glo "number_of", .glo "plus", .glo "is_less", .glo "is_amount", .glo "sum_of", .glo "is_name", .glo "is_index", .glo "is_pair", .glo "is_row", .glo "closure", .glo "has_ring", .glo "check_names", .glo "check_before", .glo "is_machine", .glo "are_skills", .glo "are_asks", .glo "skills_among", .glo "sets_of", .glo "lacking_skills", .glo "check_crew", .glo "check_shape", .glo "check_durations", .glo "fault_of_row", .glo "check_graph", .glo "cliques_of", .glo "time_in"]
def fal_1 : List He.Fa := [.glo "time_of", .glo "_law_well", .glo "_law_draw", .glo "_law_pick", .glo "_law_row", .glo "_law_number", .glo "_law_numbers", .glo "_law_lengths", .glo "_law_sets", .glo "_law_is_clique", .glo "_law_due", .glo "_law_right", .glo "law", .glo "Shape", .cls "Shape", .noat "Shape" "names", .noat "Shape" "before", .noat "Shape" "machines", .noat "Shape" "crew", .noat "Shape" "asks", .mkr "Shape", .free "abs", .free "all", .free "any", .free "bool", .free "dict", .free "enumerate", .free "int", .free "isinstance", .free "len"]
def fal_2 : List He.Fa := [.free "list", .free "max", .free "min", .free "range", .free "set", .free "sorted", .free "str", .free "sum", .free "tuple", .str "LETTERS" "abcdefghijklmnopqrstuvwxyz", .int "MAX_AMOUNT" (1000), .int "MAX_ASKS" (3), .int "MAX_MACHINES" (4), .int "MAX_MANY" (7), .int "MAX_NAME" (12), .int "MAX_PAIRS" (30), .int "MAX_SKILLS" (5), .int "MAX_WORKERS" (8), .str "SIGNS" "abcdefghijklmnopqrstuvwxyz0123456789-"]
def fal : List He.Fa := fal_0 ++ fal_1 ++ fal_2
def lol_0 : List PySem.Str := ["CrewError", "NoShape", "NoDurations", "NoGraph", "is_int", "divisor_of", "is_number", "halves_of", "number_of", "plus", "is_less", "is_amount", "sum_of", "MAX_MANY", "MAX_PAIRS", "MAX_MACHINES", "MAX_AMOUNT", "MAX_WORKERS", "MAX_SKILLS", "MAX_ASKS", "MAX_NAME", "LETTERS", "SIGNS", "is_name", "is_index", "is_pair", "is_row", "closure", "has_ring", "check_names"]
def lol_1 : List PySem.Str := ["check_before", "is_machine", "are_skills", "are_asks", "skills_among", "sets_of", "lacking_skills", "check_crew", "Shape", "check_shape", "check_durations", "fault_of_row", "check_graph", "cliques_of", "time_in", "time_of", "_law_well", "_law_draw", "_law_pick", "_law_row", "_law_number", "_law_numbers", "_law_lengths", "_law_sets", "_law_is_clique", "_law_due", "_law_right"]
def lol : List PySem.Str := lol_0 ++ lol_1
def tfl : List He.Defn := [("sets_of", none), ("check_graph", none)]
def tbl (K : PySem.W.Frag) : List (Addr × Addr × PySem.Str) := [((He.cT K ("sets_of", none)).1, (He.cT K ("sets_of", none)).2, ("sets_of" : PySem.Str) ++ ".<locals>." ++ "<lambda>"), ((He.cT K ("check_graph", none)).1, (He.cT K ("check_graph", none)).2, ("check_graph" : PySem.Str) ++ ".<locals>." ++ "<lambda>")]
def uqB (K : PySem.W.Frag) : Bool := (tbl K).all fun p => (tbl K).all fun r => !decide (p.2.1 = r.2.1) || decide (p.2.2 = r.2.2)
theorem uqB_ok {K : PySem.W.Frag} (h : uqB K = true) : ∀ p ∈ tbl K, ∀ q ∈ tbl K, p.2.1 = q.2.1 → p.2.2 = q.2.2 := fun p hp q hq e => by
  have z := List.all_eq_true.mp (List.all_eq_true.mp h p hp) q hq
  simp only [Bool.or_eq_true, Bool.not_eq_true', decide_eq_false_iff_not, decide_eq_true_eq] at z
  exact z.elim (fun y => absurd e y) id
def tbOf (K : PySem.W.Frag) : TB := if h : uqB K = true then ⟨tbl K, uqB_ok h, fun _ => none⟩ else ⟨[], (fun _ h => by cases h), fun _ => none⟩
theorem tbOf_T {K : PySem.W.Frag} (h : uqB K = true) : (tbOf K).T = tbl K := by
  have e : tbOf K = ⟨tbl K, uqB_ok h, fun _ => none⟩ := dif_pos h
  exact congrArg (fun z : TB => z.T) e
def ex_0 (K : PySem.W.Frag) : Bool := clsB K (He.ga K "Shape")
def ex_1 (K : PySem.W.Frag) : Bool := empT K (kwdAt ("Shape", some "__init__") "before" K)
def ex_2 (K : PySem.W.Frag) : Bool := empT K (kwdAt ("Shape", some "__init__") "machines" K)
def ex_3 (K : PySem.W.Frag) : Bool := empT K (kwdAt ("Shape", some "__init__") "crew" K)
def ex_4 (K : PySem.W.Frag) : Bool := empT K (kwdAt ("Shape", some "__init__") "asks" K)
def ex_5 (K : PySem.W.Frag) : Bool := codeB K ("sets_of", none)
def ex_6 (K : PySem.W.Frag) : Bool := codeB K ("check_graph", none)
def ex_7 (K : PySem.W.Frag) : Bool := uqB K
def ex_8 (K : PySem.W.Frag) : Bool := true
def exl (K : PySem.W.Frag) : Bool := [ex_0, ex_1, ex_2, ex_3, ex_4, ex_5, ex_6, ex_7, ex_8].all fun f => f K
theorem exl_at {K : PySem.W.Frag} (h : exl K = true) {f : PySem.W.Frag → Bool} (hf : f ∈ [ex_0, ex_1, ex_2, ex_3, ex_4, ex_5, ex_6, ex_7, ex_8]) : f K = true := List.all_eq_true.mp h f hf
abbrev Rw : PySem.W.OpenRow := PySem.W.OpenLaw.row PySem.Challenge.rw_crewlags_k23_greatest_cliques_of_graphs
abbrev hk : PySem.W.Hook := hookY 5 fal fnl tfl exl
def ob (s : PySem.W.SharedT) : He.AlX := obsY 5 fal fnl tfl exl (HandSHeadRun.getT s)
theorem ob_eq (s : PySem.W.SharedT) : ob s = hk.obs s.abs := obsY_eq (HandSHeadRun.getT_eq s)
theorem run (w : World) : HandSHeadRun.RunEq Rw (PySem.W.view Rw.prog [65]) hk ob 20000 lol w := by
  intro os
  kernel_rfl
theorem tb_in (K : PySem.W.Frag) : ∀ q ∈ (tbOf K).T, ∃ p ∈ tfl, q.1 = (He.cT K p).1 ∧ q.2.1 = (He.cT K p).2 := fun q h => by
  by_cases hh : uqB K = true
  · rw [tbOf_T hh] at h
    simp only [tbl, List.mem_cons, List.not_mem_nil, or_false] at h
    rcases h with rfl | rfl
    · exact ⟨("sets_of", none), by simp [tfl], rfl, rfl⟩
    · exact ⟨("check_graph", none), by simp [tfl], rfl, rfl⟩
  · have e : tbOf K = ⟨[], (fun _ h => by cases h), fun _ => none⟩ := dif_neg hh
    have e2 : (tbOf K).T = [] := congrArg (fun z : TB => z.T) e
    rw [e2] at h
    cases h
section
variable {w : World} {K : PySem.W.Frag} {mg : Mg} {h : Heap}
theorem txt (X : K.In h) (G : h.Ns mainGlobals mg) (c : He.SaysX fal fnl [] tfl exl w h K) (cv : Nat → Option (Addr × HO × List V)) : letI : TB := TB.wi (tbOf K) cv; Txt K mg := by
  letI : TB := TB.wi (tbOf K) cv
  have glo : ∀ (x : PySem.Str) (i : Nat), fal[i]? = some (.glo x) → mg x = some (.ref (He.ga K x)) := fun x i hi => He.glo_ok X G (c.t.d.fact i (f := .glo x) hi)
  constructor
  case d_is_int =>
    obtain ⟨fd, F⟩ := c.t.d.def_ 0 (d := dd_is_int) rfl
    exact ⟨_, fd, F, glo "is_int" 0 rfl, FunD.ba F (fun _ _ _ _ _ _ us hl => match us, hl with | [_], _ => rfl)⟩
  case d_divisor_of =>
    obtain ⟨fd, F⟩ := c.t.d.def_ 1 (d := dd_divisor_of) rfl
    exact ⟨_, fd, F, glo "divisor_of" 1 rfl, FunD.ba F (fun _ _ _ _ _ _ us hl => match us, hl with | [_, _], _ => rfl)⟩
  case d_is_number =>
    obtain ⟨fd, F⟩ := c.t.d.def_ 2 (d := dd_is_number) rfl
    exact ⟨_, fd, F, glo "is_number" 2 rfl, FunD.ba F (fun _ _ _ _ _ _ us hl => match us, hl with | [_], _ => rfl)⟩
  case d_halves_of =>
    obtain ⟨fd, F⟩ := c.t.d.def_ 3 (d := dd_halves_of) rfl
    exact ⟨_, fd, F, glo "halves_of" 3 rfl, FunD.ba F (fun _ _ _ _ _ _ us hl => match us, hl with | [_], _ => rfl)⟩
  case d_number_of =>
    obtain ⟨fd, F⟩ := c.t.d.def_ 4 (d := dd_number_of) rfl
    exact ⟨_, fd, F, glo "number_of" 4 rfl, FunD.ba F (fun _ _ _ _ _ _ us hl => match us, hl with | [_, _], _ => rfl)⟩
  case d_plus =>
    obtain ⟨fd, F⟩ := c.t.d.def_ 5 (d := dd_plus) rfl
    exact ⟨_, fd, F, glo "plus" 5 rfl, FunD.ba F (fun _ _ _ _ _ _ us hl => match us, hl with | [_, _], _ => rfl)⟩
  case d_is_less =>
    obtain ⟨fd, F⟩ := c.t.d.def_ 6 (d := dd_is_less) rfl
    exact ⟨_, fd, F, glo "is_less" 6 rfl, FunD.ba F (fun _ _ _ _ _ _ us hl => match us, hl with | [_, _], _ => rfl)⟩
  case d_is_amount =>
    obtain ⟨fd, F⟩ := c.t.d.def_ 7 (d := dd_is_amount) rfl
    exact ⟨_, fd, F, glo "is_amount" 7 rfl, FunD.ba F (fun _ _ _ _ _ _ us hl => match us, hl with | [_], _ => rfl)⟩
  case d_sum_of =>
    obtain ⟨fd, F⟩ := c.t.d.def_ 8 (d := dd_sum_of) rfl
    exact ⟨_, fd, F, glo "sum_of" 8 rfl, FunD.ba F (fun _ _ _ _ _ _ us hl => match us, hl with | [_], _ => rfl)⟩
  case d_is_name =>
    obtain ⟨fd, F⟩ := c.t.d.def_ 9 (d := dd_is_name) rfl
    exact ⟨_, fd, F, glo "is_name" 9 rfl, FunD.ba F (fun _ _ _ _ _ _ us hl => match us, hl with | [_], _ => rfl)⟩
  case d_is_index =>
    obtain ⟨fd, F⟩ := c.t.d.def_ 10 (d := dd_is_index) rfl
    exact ⟨_, fd, F, glo "is_index" 10 rfl, FunD.ba F (fun _ _ _ _ _ _ us hl => match us, hl with | [_, _], _ => rfl)⟩
  case d_is_pair =>
    obtain ⟨fd, F⟩ := c.t.d.def_ 11 (d := dd_is_pair) rfl
    exact ⟨_, fd, F, glo "is_pair" 11 rfl, FunD.ba F (fun _ _ _ _ _ _ us hl => match us, hl with | [_, _], _ => rfl)⟩
  case d_is_row =>
    obtain ⟨fd, F⟩ := c.t.d.def_ 12 (d := dd_is_row) rfl
    exact ⟨_, fd, F, glo "is_row" 12 rfl, FunD.ba F (fun _ _ _ _ _ _ us hl => match us, hl with | [_, _], _ => rfl)⟩
  case d_closure =>
    obtain ⟨fd, F⟩ := c.t.d.def_ 13 (d := dd_closure) rfl
    exact ⟨_, fd, F, glo "closure" 13 rfl, FunD.ba F (fun _ _ _ _ _ _ us hl => match us, hl with | [_, _], _ => rfl)⟩
  case d_has_ring =>
    obtain ⟨fd, F⟩ := c.t.d.def_ 14 (d := dd_has_ring) rfl
    exact ⟨_, fd, F, glo "has_ring" 14 rfl, FunD.ba F (fun _ _ _ _ _ _ us hl => match us, hl with | [_, _], _ => rfl)⟩
  case d_check_names =>
    obtain ⟨fd, F⟩ := c.t.d.def_ 15 (d := dd_check_names) rfl
    exact ⟨_, fd, F, glo "check_names" 15 rfl, FunD.ba F (fun _ _ _ _ _ _ us hl => match us, hl with | [_], _ => rfl)⟩
  case d_check_before =>
    obtain ⟨fd, F⟩ := c.t.d.def_ 16 (d := dd_check_before) rfl
    exact ⟨_, fd, F, glo "check_before" 16 rfl, FunD.ba F (fun _ _ _ _ _ _ us hl => match us, hl with | [_, _], _ => rfl)⟩
  case d_is_machine =>
    obtain ⟨fd, F⟩ := c.t.d.def_ 17 (d := dd_is_machine) rfl
    exact ⟨_, fd, F, glo "is_machine" 17 rfl, FunD.ba F (fun _ _ _ _ _ _ us hl => match us, hl with | [_, _], _ => rfl)⟩
  case d_are_skills =>
    obtain ⟨fd, F⟩ := c.t.d.def_ 18 (d := dd_are_skills) rfl
    exact ⟨_, fd, F, glo "are_skills" 18 rfl, FunD.ba F (fun _ _ _ _ _ _ us hl => match us, hl with | [_], _ => rfl)⟩
  case d_are_asks =>
    obtain ⟨fd, F⟩ := c.t.d.def_ 19 (d := dd_are_asks) rfl
    exact ⟨_, fd, F, glo "are_asks" 19 rfl, FunD.ba F (fun _ _ _ _ _ _ us hl => match us, hl with | [_], _ => rfl)⟩
  case d_skills_among =>
    obtain ⟨fd, F⟩ := c.t.d.def_ 20 (d := dd_skills_among) rfl
    exact ⟨_, fd, F, glo "skills_among" 20 rfl, FunD.ba F (fun _ _ _ _ _ _ us hl => match us, hl with | [_, _], _ => rfl)⟩
  case d_sets_of =>
    obtain ⟨fd, F⟩ := c.t.d.def_ 21 (d := dd_sets_of) rfl
    refine ⟨_, fd, _, (He.cT K ("sets_of", none)).2, F, glo "sets_of" 21 rfl, FunD.ba F (fun _ _ _ _ _ _ us hl => match us, hl with | [_], _ => rfl), codeB_ok (exl_at c.more (f := ex_5) (by simp)) F, ?_⟩
    show _ ∈ (tbOf K).T
    rw [tbOf_T (exl_at c.more (f := ex_7) (by simp))]
    simp only [tbl, List.mem_cons]
    exact .inl rfl
  case d_lacking_skills =>
    obtain ⟨fd, F⟩ := c.t.d.def_ 22 (d := dd_lacking_skills) rfl
    exact ⟨_, fd, F, glo "lacking_skills" 22 rfl, FunD.ba F (fun _ _ _ _ _ _ us hl => match us, hl with | [_, _], _ => rfl)⟩
  case d_check_crew =>
    obtain ⟨fd, F⟩ := c.t.d.def_ 23 (d := dd_check_crew) rfl
    exact ⟨_, fd, F, glo "check_crew" 23 rfl, FunD.ba F (fun _ _ _ _ _ _ us hl => match us, hl with | [_, _, _], _ => rfl)⟩
  case d_check_shape =>
    obtain ⟨fd, F⟩ := c.t.d.def_ 24 (d := dd_check_shape) rfl
    exact ⟨_, fd, F, glo "check_shape" 24 rfl, FunD.ba F (fun _ _ _ _ _ _ us hl => match us, hl with | [_], _ => rfl)⟩
  case d_check_durations =>
    obtain ⟨fd, F⟩ := c.t.d.def_ 25 (d := dd_check_durations) rfl
    exact ⟨_, fd, F, glo "check_durations" 25 rfl, FunD.ba F (fun _ _ _ _ _ _ us hl => match us, hl with | [_, _], _ => rfl)⟩
  case d_fault_of_row =>
    obtain ⟨fd, F⟩ := c.t.d.def_ 26 (d := dd_fault_of_row) rfl
    exact ⟨_, fd, F, glo "fault_of_row" 26 rfl, FunD.ba F (fun _ _ _ _ _ _ us hl => match us, hl with | [_, _], _ => rfl)⟩
  case d_check_graph =>
    obtain ⟨fd, F⟩ := c.t.d.def_ 27 (d := dd_check_graph) rfl
    refine ⟨_, fd, _, (He.cT K ("check_graph", none)).2, F, glo "check_graph" 27 rfl, FunD.ba F (fun _ _ _ _ _ _ us hl => match us, hl with | [_, _], _ => rfl), codeB_ok (exl_at c.more (f := ex_6) (by simp)) F, ?_⟩
    show _ ∈ (tbOf K).T
    rw [tbOf_T (exl_at c.more (f := ex_7) (by simp))]
    simp only [tbl, List.mem_cons]
    exact .inr (.inl rfl)
  case d_cliques_of =>
    obtain ⟨fd, F⟩ := c.t.d.def_ 28 (d := dd_cliques_of) rfl
    exact ⟨_, fd, F, glo "cliques_of" 28 rfl, FunD.ba F (fun _ _ _ _ _ _ us hl => match us, hl with | [_, _], _ => rfl)⟩
  case d_time_in =>
    obtain ⟨fd, F⟩ := c.t.d.def_ 29 (d := dd_time_in) rfl
    exact ⟨_, fd, F, glo "time_in" 29 rfl, FunD.ba F (fun _ _ _ _ _ _ us hl => match us, hl with | [_, _], _ => rfl)⟩
  case d_time_of =>
    obtain ⟨fd, F⟩ := c.t.d.def_ 30 (d := dd_time_of) rfl
    exact ⟨_, fd, F, glo "time_of" 30 rfl, FunD.ba F (fun _ _ _ _ _ _ us hl => match us, hl with | [_, _, _], _ => rfl)⟩
  case d__law_well =>
    obtain ⟨fd, F⟩ := c.t.d.def_ 31 (d := dd__law_well) rfl
    exact ⟨_, fd, F, glo "_law_well" 31 rfl, FunD.ba F (fun _ _ _ _ _ _ us hl => match us, hl with | [_, _], _ => rfl)⟩
  case d__law_draw =>
    obtain ⟨fd, F⟩ := c.t.d.def_ 32 (d := dd__law_draw) rfl
    exact ⟨_, fd, F, glo "_law_draw" 32 rfl, FunD.ba F (fun _ _ _ _ _ _ us hl => match us, hl with | [_, _], _ => rfl)⟩
  case d__law_pick =>
    obtain ⟨fd, F⟩ := c.t.d.def_ 33 (d := dd__law_pick) rfl
    exact ⟨_, fd, F, glo "_law_pick" 33 rfl, FunD.ba F (fun _ _ _ _ _ _ us hl => match us, hl with | [_, _], _ => rfl)⟩
  case d__law_row =>
    obtain ⟨fd, F⟩ := c.t.d.def_ 34 (d := dd__law_row) rfl
    exact ⟨_, fd, F, glo "_law_row" 34 rfl, FunD.ba F (fun _ _ _ _ _ _ us hl => match us, hl with | [_, _], _ => rfl)⟩
  case d__law_number =>
    obtain ⟨fd, F⟩ := c.t.d.def_ 35 (d := dd__law_number) rfl
    exact ⟨_, fd, F, glo "_law_number" 35 rfl, FunD.ba F (fun _ _ _ _ _ _ us hl => match us, hl with | [_], _ => rfl)⟩
  case d__law_numbers =>
    obtain ⟨fd, F⟩ := c.t.d.def_ 36 (d := dd__law_numbers) rfl
    exact ⟨_, fd, F, glo "_law_numbers" 36 rfl, FunD.ba F (fun _ _ _ _ _ _ us hl => match us, hl with | [_], _ => rfl)⟩
  case d__law_lengths =>
    obtain ⟨fd, F⟩ := c.t.d.def_ 37 (d := dd__law_lengths) rfl
    exact ⟨_, fd, F, glo "_law_lengths" 37 rfl, FunD.ba F (fun _ _ _ _ _ _ us hl => match us, hl with | [_, _], _ => rfl)⟩
  case d__law_sets =>
    obtain ⟨fd, F⟩ := c.t.d.def_ 38 (d := dd__law_sets) rfl
    exact ⟨_, fd, F, glo "_law_sets" 38 rfl, FunD.ba F (fun _ _ _ _ _ _ us hl => match us, hl with | [_], _ => rfl)⟩
  case d__law_is_clique =>
    obtain ⟨fd, F⟩ := c.t.d.def_ 39 (d := dd__law_is_clique) rfl
    exact ⟨_, fd, F, glo "_law_is_clique" 39 rfl, FunD.ba F (fun _ _ _ _ _ _ us hl => match us, hl with | [_, _], _ => rfl)⟩
  case d__law_due =>
    obtain ⟨fd, F⟩ := c.t.d.def_ 40 (d := dd__law_due) rfl
    exact ⟨_, fd, F, glo "_law_due" 40 rfl, FunD.ba F (fun _ _ _ _ _ _ us hl => match us, hl with | [_, _], _ => rfl)⟩
  case d__law_right =>
    obtain ⟨fd, F⟩ := c.t.d.def_ 41 (d := dd__law_right) rfl
    exact ⟨_, fd, F, glo "_law_right" 41 rfl, FunD.ba F (fun _ _ _ _ _ _ us hl => match us, hl with | [_], _ => rfl)⟩
  case d_law =>
    obtain ⟨fd, F⟩ := c.t.d.def_ 42 (d := dd_law) rfl
    exact ⟨_, fd, F, glo "law" 42 rfl, FunD.ba F (fun _ _ _ _ _ _ us hl => match us, hl with | [_], _ => rfl)⟩
  case b_abs => exact He.free_ok X G (c.t.d.fact 51 (f := .free "abs") rfl)
  case b_all => exact He.free_ok X G (c.t.d.fact 52 (f := .free "all") rfl)
  case b_any => exact He.free_ok X G (c.t.d.fact 53 (f := .free "any") rfl)
  case b_bool => exact He.free_ok X G (c.t.d.fact 54 (f := .free "bool") rfl)
  case b_dict => exact He.free_ok X G (c.t.d.fact 55 (f := .free "dict") rfl)
  case b_enumerate => exact He.free_ok X G (c.t.d.fact 56 (f := .free "enumerate") rfl)
  case b_int => exact He.free_ok X G (c.t.d.fact 57 (f := .free "int") rfl)
  case b_isinstance => exact He.free_ok X G (c.t.d.fact 58 (f := .free "isinstance") rfl)
  case b_len => exact He.free_ok X G (c.t.d.fact 59 (f := .free "len") rfl)
  case b_list => exact He.free_ok X G (c.t.d.fact 60 (f := .free "list") rfl)
  case b_max => exact He.free_ok X G (c.t.d.fact 61 (f := .free "max") rfl)
  case b_min => exact He.free_ok X G (c.t.d.fact 62 (f := .free "min") rfl)
  case b_range => exact He.free_ok X G (c.t.d.fact 63 (f := .free "range") rfl)
  case b_set => exact He.free_ok X G (c.t.d.fact 64 (f := .free "set") rfl)
  case b_sorted => exact He.free_ok X G (c.t.d.fact 65 (f := .free "sorted") rfl)
  case b_str => exact He.free_ok X G (c.t.d.fact 66 (f := .free "str") rfl)
  case b_sum => exact He.free_ok X G (c.t.d.fact 67 (f := .free "sum") rfl)
  case b_tuple => exact He.free_ok X G (c.t.d.fact 68 (f := .free "tuple") rfl)
  case g_LETTERS => exact He.str_ok X G (c.t.d.fact 69 rfl)
  case g_MAX_AMOUNT => exact He.int_ok X G (c.t.d.fact 70 rfl)
  case g_MAX_ASKS => exact He.int_ok X G (c.t.d.fact 71 rfl)
  case g_MAX_MACHINES => exact He.int_ok X G (c.t.d.fact 72 rfl)
  case g_MAX_MANY => exact He.int_ok X G (c.t.d.fact 73 rfl)
  case g_MAX_NAME => exact He.int_ok X G (c.t.d.fact 74 rfl)
  case g_MAX_PAIRS => exact He.int_ok X G (c.t.d.fact 75 rfl)
  case g_MAX_SKILLS => exact He.int_ok X G (c.t.d.fact 76 rfl)
  case g_MAX_WORKERS => exact He.int_ok X G (c.t.d.fact 77 rfl)
  case g_SIGNS => exact He.str_ok X G (c.t.d.fact 78 rfl)
  case c_Shape => exact ⟨_, clsB_ok X G (c.t.d.fact 43 (f := .glo "Shape") rfl) (exl_at c.more (f := ex_0) (by simp)), ⟨He.noat_ok (c.t.d.fact 45 (f := .noat "Shape" "names") rfl), He.noat_ok (c.t.d.fact 46 (f := .noat "Shape" "before") rfl), He.noat_ok (c.t.d.fact 47 (f := .noat "Shape" "machines") rfl), He.noat_ok (c.t.d.fact 48 (f := .noat "Shape" "crew") rfl), He.noat_ok (c.t.d.fact 49 (f := .noat "Shape" "asks") rfl)⟩⟩
  case i_Shape =>
    obtain ⟨fd, F⟩ := c.t.d.def_ 43 (d := dd_Shape) rfl
    exact ⟨_, _, fd, glo "Shape" 43 rfl, He.mkr_ok (c.t.d.fact 50 (f := .mkr "Shape") rfl), ⟨_, F⟩, form_pick (ks := []) (n := 1) F [0, 1, 2, 3, 4] [("before", V.ref (kwdAt ("Shape", some "__init__") "before" K)), ("machines", V.ref (kwdAt ("Shape", some "__init__") "machines" K)), ("crew", V.ref (kwdAt ("Shape", some "__init__") "crew" K)), ("asks", V.ref (kwdAt ("Shape", some "__init__") "asks" K))] [.tup [], .tup [], .tup [], .tup []] (by simp [dd_Shape, He.DefD.kws]) (fun q hq => by
        simp only [List.mem_cons, List.not_mem_nil, or_false] at hq
        rcases hq with rfl | rfl | rfl | rfl <;> simp [dd_Shape, He.DefD.kws, He.Dv.v]) (fun F => .cons (empT_ok (exl_at c.more (f := ex_1) (by simp)) F) (.cons (empT_ok (exl_at c.more (f := ex_2) (by simp)) F) (.cons (empT_ok (exl_at c.more (f := ex_3) (by simp)) F) (.cons (empT_ok (exl_at c.more (f := ex_4) (by simp)) F) (.nil))))) (fun D doc pm an cdv ct us mv ws l1 l2 l3 => match us, mv, ws, l1, l2, l3 with | [_, _], [_, _, _, _], [], _, _, _ => ⟨_, _, _, _, _, _, rfl, rfl, ⟨_, _, _, _, _, _, rfl, rfl, ⟨_, _, _, _, _, _, rfl, rfl, ⟨_, _, _, _, _, _, rfl, rfl, rfl⟩⟩⟩⟩)⟩
end
end Lw
open PySem PySem.W PySem.Calls PyProof.Rows
theorem PySem.Challenge.cw_crewlags_k23_greatest_cliques_of_graphs_holds : PySem.Challenge.rw_crewlags_k23_greatest_cliques_of_graphs.Holds := by
  w_on; o_law
  refine HandSHeadRun.head_any (r := OpenLaw.row PySem.Challenge.rw_crewlags_k23_greatest_cliques_of_graphs) (q := view (OpenLaw.row PySem.Challenge.rw_crewlags_k23_greatest_cliques_of_graphs).prog [65]) (H := Lw.hk) (ob := Lw.ob) (M := 20000) (loose := Lw.lol) (d := HandSHeadRun.topDef (OpenLaw.row PySem.Challenge.rw_crewlags_k23_greatest_cliques_of_graphs).prog 65) (kwd := []) Lw.ob_eq
    (by kernel_rfl) (fun s => by kernel_rfl) Lw.run (by kernel_rfl) (by kernel_rfl) (by kernel_rfl) (by rfl) (by first | assumption | decide +kernel) (by decide +kernel) ⟨rfl, rfl, rfl, rfl, rfl, by decide +kernel⟩ ?hw ?hc
  case hw => w_witness2
  case hc =>
    refine LamX.walk_ofTsE (l := PySem.Challenge.rw_crewlags_k23_greatest_cliques_of_graphs) (n := 63) (k := 12) (x := "_law_script") (CX := fun w => L2.CX (PySem.Challenge.rw_crewlags_k23_greatest_cliques_of_graphs).prog w) rfl (by decide) (by kernel_rfl) ⟨rfl, by decide, by decide⟩ ?F ?X
    case X => exact fun w H s e s' h => @Y.cx_none (Lw.tbOf []) _ _ _ _ _ _ h
    case F =>
      intro w mg fa h Y G hmg0
      obtain ⟨K, KX, c⟩ := Y
      have hmg : mg ("law" : PySem.Str) = some (.ref fa) := by
        have e : (HandSHeadRun.topDef (OpenLaw.row PySem.Challenge.rw_crewlags_k23_greatest_cliques_of_graphs).prog 65).name = ("law" : PySem.Str) := by kernel_rfl
        rw [← e]
        exact hmg0
      letI : Y.TB := Lw.tbOf K
      exact ⟨K, KX, Y.law_at KX c.hd c.out c.empty (Lw.tb_in K) (Lw.all_ok (Lw.tbOf K) (Lw.txt KX G c) (Lw.tbOf K).cv) hmg Lw.law_true⟩

