import PyProof.Rows.All
import Wide.All
import OpenK.AllK
import Wide.FinOn
import HandS.ForMost
import HandS.ForExc
import HandS.CallSlots
import HandS.Deep
import HandS.Flow
import HandS.TupAny
import HandS.Wide
import HandS.WideMore
import HandS.IsInst
import HandS.Text
import HandS.Style
import HandS.Iter
import HandS.MakeKw
import HandS.ExcField
import HandS.TryMany
import HandS.More
import HandS.EndBits
import PyProof.InstSpecial
import PySem.Challenge.RW_listworks_k45_heights_one_below_the_othe
set_option Elab.async false
set_option linter.all false
set_option maxRecDepth 100000
set_option maxHeartbeats 4000000
/-! Lw0: deep values, the store of mutable objects, what it is that a heap bears them. -/
namespace Lw
open PySem PySem.Spec PyProof.Rows L2

/-- what an expression comes to: plain data, or the i-th mutable object of the store -/
inductive SV where
  | pu (d : PyData)
  | rf (i : Nat)
  | sc (ns : List Int)
mutual
/-- a field of an object: plain data, or an object that is its own -/
inductive FV where
  | pu (d : PyData)
  | ow (o : MO)
inductive MO where
  | lst (ds : List PyData)
  | dic (kvs : List (Key × PyData))
  | ins (C : Addr) (fs : List (Str × FV))
  | fz (d : PyData)
  | gone
end
/-- a frame's state: slots, store; objects from base on are the frame's own -/
structure S where
  sl : List (Option SV)
  st : List MO
  base : Nat

inductive Res (α : Type) where
  | no
  | ok (a : α) (s : S)
  | ex (c : Addr) (d : PyData) (s : S)
def Res.bind {α β : Type} (r : Res α) (f : α → S → Res β) : Res β := match r with
  | .no => .no
  | .ok a s => f a s
  | .ex c d s => .ex c d s
inductive Out where
  | no
  | nx (s : S)
  | bk (s : S)
  | ct (s : S)
  | rt (v : SV) (s : S)
  | ex (c : Addr) (d : PyData) (s : S)

/-! ### data that lies in the frozen part -/
mutual
inductive Dq (K : PySem.W.Frag) (G : Hp) : V → PyData → Prop
  | non : Dq K G .non .none
  | bl (b : Bool) : Dq K G (.bl b) (.bool b)
  | int (i : Int) : Dq K G (.int i) (.int i)
  | str (x : Str) : Dq K G (.str x) (.str x)
  | lst {a : Addr} {xs : List V} {ds : List PyData} (h : G a = some (.lst xs)) (t : DqAll K G xs ds) : Dq K G (.ref a) (.list ds)
  | tup {a : Addr} {xs : List V} {ds : List PyData} (h : SqT K G a xs) (t : DqAll K G xs ds) : Dq K G (.ref a) (.tuple ds)
inductive DqAll (K : PySem.W.Frag) (G : Hp) : List V → List PyData → Prop
  | nil : DqAll K G [] []
  | cons {v : V} {vs : List V} {d : PyData} {ds : List PyData} (h : Dq K G v d) (t : DqAll K G vs ds) : DqAll K G (v :: vs) (d :: ds)
end
section
variable {K : PySem.W.Frag} {G H G' H' : Hp}
mutual
theorem Dq.dp : ∀ {v : V} {d : PyData}, Dq K G v d → Dp K G v d
  | _, _, .non => .non
  | _, _, .bl b => .bl b
  | _, _, .int i => .int i
  | _, _, .str x => .str x
  | _, _, .lst h t => .lst (SqL.of h) (DqAll.dp t)
  | _, _, .tup h t => .tup h (DqAll.dp t)
theorem DqAll.dp : ∀ {vs : List V} {ds : List PyData}, DqAll K G vs ds → DpAll K G vs ds
  | _, _, .nil => .nil
  | _, _, .cons h t => .cons (Dq.dp h) (DqAll.dp t)
end
theorem sqT_same {a : Addr} {xs : List V} (e : Same G G') (h : SqT K G a xs) : SqT K G' a xs := by
  rcases h with (h | ⟨o, h⟩) | h
  · exact .inl (.inl (e _ _ h))
  · exact .inl (.inr ⟨o, e _ _ h⟩)
  · exact .inr h
mutual
theorem Dq.grow (e : Same G G') : ∀ {v : V} {d : PyData}, Dq K G v d → Dq K G' v d
  | _, _, .non => .non
  | _, _, .bl b => .bl b
  | _, _, .int i => .int i
  | _, _, .str x => .str x
  | _, _, .lst h t => .lst (e _ _ h) (DqAll.grow e t)
  | _, _, .tup h t => .tup (sqT_same e h) (DqAll.grow e t)
theorem DqAll.grow (e : Same G G') : ∀ {vs : List V} {ds : List PyData}, DqAll K G vs ds → DqAll K G' vs ds
  | _, _, .nil => .nil
  | _, _, .cons h t => .cons (Dq.grow e h) (DqAll.grow e t)
end
theorem DqAll.length : ∀ {vs : List V} {ds : List PyData}, DqAll K G vs ds → vs.length = ds.length
  | _, _, .nil => rfl
  | _, _, .cons _ t => by rw [List.length_cons, List.length_cons, DqAll.length t]
theorem DqAll.get : ∀ {vs : List V} {ds : List PyData} {i : Nat} {d : PyData}, DqAll K G vs ds → ds[i]? = some d → ∃ v, vs[i]? = some v ∧ Dq K G v d
  | _, _, _, _, .nil, e => by simp at e
  | _, _, 0, _, .cons h _, e => by simp at e; subst e; exact ⟨_, rfl, h⟩
  | _, _, i + 1, d, .cons _ t, e => by
    obtain ⟨v, h1, h2⟩ := DqAll.get (i := i) (d := d) t (by simpa using e)
    exact ⟨v, by simpa using h1, h2⟩
theorem DqAll.getV : ∀ {vs : List V} {ds : List PyData} {i : Nat} {v : V}, DqAll K G vs ds → vs[i]? = some v → ∃ d, ds[i]? = some d ∧ Dq K G v d
  | _, _, _, _, .nil, e => by simp at e
  | _, _, 0, _, .cons h _, e => by simp at e; subst e; exact ⟨_, rfl, h⟩
  | _, _, i + 1, d, .cons _ t, e => by
    obtain ⟨v, h1, h2⟩ := DqAll.getV (i := i) (v := d) t (by simpa using e)
    exact ⟨v, by simpa using h1, h2⟩
theorem DqAll.app : ∀ {vs us : List V} {ds es : List PyData}, DqAll K G vs ds → DqAll K G us es → DqAll K G (vs ++ us) (ds ++ es)
  | _, _, _, _, .nil, h => h
  | _, _, _, _, .cons a t, h => .cons a (DqAll.app t h)
theorem DqAll.take : ∀ {vs : List V} {ds : List PyData} (n : Nat), DqAll K G vs ds → DqAll K G (vs.take n) (ds.take n)
  | _, _, 0, _ => .nil
  | _, _, _ + 1, .nil => .nil
  | _, _, n + 1, .cons r t => .cons r (DqAll.take n t)
theorem DqAll.drop : ∀ {vs : List V} {ds : List PyData} (n : Nat), DqAll K G vs ds → DqAll K G (vs.drop n) (ds.drop n)
  | _, _, 0, r => r
  | _, _, _ + 1, .nil => .nil
  | _, _, n + 1, .cons _ t => DqAll.drop n t
theorem DqAll.set {v : V} {d : PyData} (r : Dq K G v d) : ∀ {vs : List V} {ds : List PyData} (i : Nat), DqAll K G vs ds → DqAll K G (vs.set i v) (ds.set i d)
  | _, _, _, .nil => .nil
  | _, _, 0, .cons _ t => .cons r t
  | _, _, i + 1, .cons q t => .cons q (DqAll.set r i t)
theorem DqAll.erase : ∀ {vs : List V} {ds : List PyData} (i : Nat), DqAll K G vs ds → DqAll K G (vs.eraseIdx i) (ds.eraseIdx i)
  | _, _, _, .nil => .nil
  | _, _, 0, .cons _ t => t
  | _, _, i + 1, .cons q t => .cons q (DqAll.erase i t)
theorem DqAll.rev {vs : List V} {ds : List PyData} (h : DqAll K G vs ds) : DqAll K G vs.reverse ds.reverse := by
  induction h using DqAll.rec (motive_1 := fun _ _ _ => True) with
  | nil => exact .nil
  | cons a t _ ih => rw [List.reverse_cons, List.reverse_cons]; exact DqAll.app ih (.cons a .nil)
  | _ => trivial
theorem Dq.int_inv {v : V} {i : Int} (h : Dq K G v (.int i)) : v = .int i := by cases h; rfl
theorem Dq.bl_inv {v : V} {b : Bool} (h : Dq K G v (.bool b)) : v = .bl b := by cases h; rfl
theorem Dq.str_inv {v : V} {x : Str} (h : Dq K G v (.str x)) : v = .str x := by cases h; rfl
theorem Dq.non_inv {v : V} (h : Dq K G v .none) : v = .non := by cases h; rfl
theorem Dq.lst_inv {v : V} {ds : List PyData} (h : Dq K G v (.list ds)) : ∃ a xs, v = .ref a ∧ G a = some (.lst xs) ∧ DqAll K G xs ds := by
  cases h with
  | lst h t => exact ⟨_, _, rfl, h, t⟩
theorem Dq.tup_inv {v : V} {ds : List PyData} (h : Dq K G v (.tuple ds)) : ∃ a xs, v = .ref a ∧ SqT K G a xs ∧ DqAll K G xs ds := by
  cases h with
  | tup h t => exact ⟨_, _, rfl, h, t⟩
end

/-! ### what a heap bears -/
section
variable (K : PySem.W.Frag) (G H : Hp)
mutual
inductive ObRep : Addr → MO → List Addr → Prop
  | lst {a : Addr} {vs : List V} {ds : List PyData} : G a = none → H a = some (.lst vs) → DqAll K G vs ds → ObRep a (.lst ds) [a]
  | dic {a : Addr} {vs : List (Key × V)} {ds : List (Key × PyData)} : G a = none → H a = some (.dK vs) → Paired (fun p q => p.1 = q.1 ∧ Dq K G p.2 q.2) vs ds → ObRep a (.dic ds) [a]
  | ins {a C dx : Addr} {vs : List (Str × V)} {fs : List (Str × FV)} {fp : List Addr} : G a = none → H a = some (.ins C dx vs) → FvsRep vs fs fp → a ∉ fp → ObRep a (.ins C fs) (a :: fp)
  | fz {a : Addr} {d : PyData} : Dq K G (.ref a) d → ObRep a (.fz d) []
  | gone {a : Addr} : ObRep a .gone []
inductive FvRep : V → FV → List Addr → Prop
  | pu {v : V} {d : PyData} : Dq K G v d → FvRep v (.pu d) []
  | ow {a : Addr} {o : MO} {fp : List Addr} : ObRep a o fp → FvRep (.ref a) (.ow o) fp
inductive FvsRep : List (Str × V) → List (Str × FV) → List Addr → Prop
  | nil : FvsRep [] [] []
  | cons {f : Str} {v : V} {u : FV} {vs : List (Str × V)} {us : List (Str × FV)} {fp fp' : List Addr} : FvRep v u fp → FvsRep vs us fp' → (∀ b ∈ fp, b ∉ fp') → FvsRep ((f, v) :: vs) ((f, u) :: us) (fp ++ fp')
end
end
section
variable {K : PySem.W.Frag} {G H G' H' : Hp}
mutual
theorem ObRep.foot : ∀ {a : Addr} {o : MO} {fp : List Addr}, ObRep K G H a o fp → ∀ b ∈ fp, G b = none ∧ ∃ u, H b = some u ∧ Mut (some u)
  | _, _, _, .lst g h _, b, hb => by
    rw [List.mem_singleton.mp hb]; exact ⟨g, _, h, trivial⟩
  | _, _, _, .dic g h _, b, hb => by
    rw [List.mem_singleton.mp hb]; exact ⟨g, _, h, trivial⟩
  | _, _, _, .ins g h t n, b, hb => by
    rcases List.mem_cons.mp hb with e | hb
    · rw [e]; exact ⟨g, _, h, trivial⟩
    · exact FvsRep.foot t b hb
  | _, _, _, .fz _, b, hb => nomatch hb
  | _, _, _, .gone, b, hb => nomatch hb
theorem FvRep.foot : ∀ {v : V} {u : FV} {fp : List Addr}, FvRep K G H v u fp → ∀ b ∈ fp, G b = none ∧ ∃ u, H b = some u ∧ Mut (some u)
  | _, _, _, .pu _, b, hb => nomatch hb
  | _, _, _, .ow h, b, hb => ObRep.foot h b hb
theorem FvsRep.foot : ∀ {vs : List (Str × V)} {us : List (Str × FV)} {fp : List Addr}, FvsRep K G H vs us fp → ∀ b ∈ fp, G b = none ∧ ∃ u, H b = some u ∧ Mut (some u)
  | _, _, _, .nil, b, hb => nomatch hb
  | _, _, _, .cons h t _, b, hb => by
    rcases List.mem_append.mp hb with hb | hb
    · exact FvRep.foot h b hb
    · exact FvsRep.foot t b hb
end
/-! its objects stand as they stood, the frozen part has grown elsewhere -/
mutual
theorem ObRep.stay (e : Same G G') : ∀ {a : Addr} {o : MO} {fp : List Addr}, ObRep K G H a o fp → (∀ b ∈ fp, H' b = H b) → (∀ b ∈ fp, G' b = none) → ObRep K G' H' a o fp
  | a, _, _, .lst g h t, k, n => .lst (n a (by simp)) ((k a (by simp)).trans h) (DqAll.grow e t)
  | a, _, _, .dic g h t, k, n => .dic (n a (by simp)) ((k a (by simp)).trans h) (Paired.mapP t fun p q z => ⟨z.1, Dq.grow e z.2⟩)
  | a, _, _, .ins g h t ne, k, n => .ins (n a (by simp)) ((k a (by simp)).trans h) (FvsRep.stay e t (fun b hb => k b (List.mem_cons_of_mem _ hb)) fun b hb => n b (List.mem_cons_of_mem _ hb)) ne
  | _, _, _, .fz d, _, _ => .fz (Dq.grow e d)
  | _, _, _, .gone, _, _ => .gone
theorem FvRep.stay (e : Same G G') : ∀ {v : V} {u : FV} {fp : List Addr}, FvRep K G H v u fp → (∀ b ∈ fp, H' b = H b) → (∀ b ∈ fp, G' b = none) → FvRep K G' H' v u fp
  | _, _, _, .pu d, _, _ => .pu (Dq.grow e d)
  | _, _, _, .ow h, k, n => .ow (ObRep.stay e h k n)
theorem FvsRep.stay (e : Same G G') : ∀ {vs : List (Str × V)} {us : List (Str × FV)} {fp : List Addr}, FvsRep K G H vs us fp → (∀ b ∈ fp, H' b = H b) → (∀ b ∈ fp, G' b = none) → FvsRep K G' H' vs us fp
  | _, _, _, .nil, _, _ => .nil
  | _, _, _, .cons h t d, k, n => .cons (FvRep.stay e h (fun b hb => k b (List.mem_append_left _ hb)) fun b hb => n b (List.mem_append_left _ hb))
      (FvsRep.stay e t (fun b hb => k b (List.mem_append_right _ hb)) fun b hb => n b (List.mem_append_right _ hb)) d
end
end

/-- where the objects of the store lie: the address, the footprint -/
abbrev Gh := Nat → Addr × List Addr
/-- a world: the frozen part, the heap, the ghost, the store -/
structure Wd where
  G : Hp
  H : Hp
  g : Gh
  st : List MO
  b : Nat
def Wd.M (w : Wd) (b : Addr) : Prop := ∃ i, i < w.st.length ∧ b ∈ (w.g i).2

structure Sto (K : PySem.W.Frag) (w : Wd) : Prop where
  sub : Same w.G w.H
  ob : ∀ i o, w.st[i]? = some o → ObRep K w.G w.H (w.g i).1 o (w.g i).2
  dj : ∀ i j, i ≠ j → i < w.st.length → j < w.st.length → ∀ b ∈ (w.g i).2, b ∉ (w.g j).2

structure Evo (k : Nat) (w w' : Wd) : Prop where
  g : Same w.G w'.G
  keep : ∀ b o, w.H b = some o → ¬ w.M b → w'.H b = some o
  dm : ∀ b, w'.H b = none → w.H b = none
  fr : ∀ b o, w'.G b = some o → w.G b = some o ∨ w.H b = none ∨ w.M b
  nw : ∀ b, w'.M b → w.M b ∨ w.H b = none
  kp : ∀ i, i < k → (w'.g i).1 = (w.g i).1
  ln : k ≤ w.st.length ∧ k ≤ w'.st.length
  bb : w'.b = w.b

theorem Evo.refl {k : Nat} {w : Wd} (h : k ≤ w.st.length) : Evo k w w := ⟨Same.refl _, fun _ _ h _ => h, fun _ h => h, fun _ _ h => .inl h, fun _ h => .inl h, fun _ _ => rfl, ⟨h, h⟩, rfl⟩
theorem Evo.mono {j k : Nat} {w w' : Wd} (e : Evo k w w') (h : j ≤ k) : Evo j w w' := ⟨e.g, e.keep, e.dm, e.fr, e.nw, fun i hi => e.kp i (Nat.lt_of_lt_of_le hi h), ⟨Nat.le_trans h e.ln.1, Nat.le_trans h e.ln.2⟩, e.bb⟩
theorem Evo.trans {k : Nat} {w w1 w2 : Wd} (a : Evo k w w1) (b : Evo k w1 w2) : Evo k w w2 where
  g := a.g.trans b.g
  keep := fun c o h n => b.keep c o (a.keep c o h n) fun m => (a.nw c m).elim n fun z => by rw [z] at h; cases h
  dm := fun c h => a.dm c (b.dm c h)
  fr := fun c o h => by
    rcases b.fr c o h with h | h | h
    · exact a.fr c o h
    · exact .inr (.inl (a.dm c h))
    · exact (a.nw c h).elim (fun z => .inr (.inr z)) fun z => .inr (.inl z)
  nw := fun c h => (b.nw c h).elim (fun z => a.nw c z) fun z => .inr (a.dm c z)
  kp := fun i h => (b.kp i h).trans (a.kp i h)
  ln := ⟨a.ln.1, b.ln.2⟩
  bb := b.bb.trans a.bb

def SvRep (K : PySem.W.Frag) (w : Wd) : V → SV → Prop
  | v, .pu d => Dq K w.G v d
  | v, .rf i => i < w.st.length ∧ v = .ref (w.g i).1
  | v, .sc ns => ∃ a, v = .ref a ∧ SqL K w.G a (ns.map V.int)
theorem SvRep.evo {K : PySem.W.Frag} {k : Nat} {w w' : Wd} {v : V} {x : SV} (h : SvRep K w v x) (e : Evo k w w') (hk : w.st.length ≤ k) : SvRep K w' v x := by
  cases x with
  | pu d => exact Dq.grow e.g h
  | rf i => exact ⟨Nat.lt_of_lt_of_le h.1 (Nat.le_trans hk e.ln.2), by rw [e.kp i (Nat.lt_of_lt_of_le h.1 hk)]; exact h.2⟩
  | sc ns => obtain ⟨a, h1, h2⟩ := h; exact ⟨a, h1, e.g.seq h2⟩

/-- a frame's state is borne -/
structure Stt (K : PySem.W.Frag) (w : Wd) (σ : List (Option V)) (s : S) : Prop where
  sto : Sto K w
  st : s.st = w.st
  len : s.sl.length = σ.length
  sl : ∀ (i : Nat) (x : SV), s.sl[i]? = some (some x) → ∃ v : V, σ[i]? = some (some v) ∧ SvRep K w v x
  bs : s.base ≤ w.st.length
  be : s.base = w.b
end Lw
/-! Lw1: judgements: an expression (a test, arguments, a statement) does what its denotation says. -/
namespace Lw
open PySem PySem.Spec PyProof.Rows L2

abbrev Sg := List (Option V)

/-- how an exception lies: its class, its value -/
def ExRep (K : PySem.W.Frag) (w : Wd) (c : Addr) (d : PyData) (cls : Value) (dd : Option Addr) : Prop :=
  cls = .ref c ∧ ∃ da v, dd = some da ∧ w.H da = some (.xd [(("value" : Str), v)]) ∧ ¬ w.M da ∧ Dq K w.G v d

section
variable (K : PySem.W.Frag) (W : WX)
def ROut {α β : Type} (w : Wd) (σ : Sg) (rep : Wd → β → α → Prop) (Q : β → Hp → Prop) : Res α → Prop
  | .no => False
  | .ok x s' => ∀ v w', Stt K w' σ s' → rep w' v x → Evo w.st.length w w' → Q v w'.H
  | .ex c d s' => ∀ cls dd w', Stt K w' σ s' → ExRep K w' c d cls dd → Evo w.st.length w w' → W cls dd σ w'.H
/-- the reading of a denotation -/
def TR {α β : Type} (rep : Wd → β → α → Prop) (den : S → Res α) : Sg → Hp → (β → Hp → Prop) → Prop := fun σ H Q =>
  ∃ w s, w.H = H ∧ Stt K w σ s ∧ ROut K W w σ rep Q (den s)
def SOut (w : Wd) (b : Nat) (D : Ends) : Out → Prop
  | .no => False
  | .nx s' => ∀ σ' w', Stt K w' σ' s' → Evo b w w' → D.nx σ' w'.H
  | .bk s' => ∀ σ' w', Stt K w' σ' s' → Evo b w w' → D.bk σ' w'.H
  | .ct s' => ∀ σ' w', Stt K w' σ' s' → Evo b w w' → D.ct σ' w'.H
  | .rt x s' => ∀ v σ' w', Stt K w' σ' s' → SvRep K w' v x → Evo b w w' → D.rt v w'.H
  | .ex c d s' => ∀ cls dd σ' w', Stt K w' σ' s' → ExRep K w' c d cls dd → Evo b w w' → W cls dd σ' w'.H
def TDS (den : S → Out) : TS := fun D σ H => ∃ w s, w.H = H ∧ Stt K w σ s ∧ SOut K W w s.base D (den s)
end
abbrev rB : Wd → Bool → Bool → Prop := fun _ b c => b = c
abbrev rL (K : PySem.W.Frag) : Wd → List V → List SV → Prop := fun w vs xs => Paired (SvRep K w) vs xs

abbrev DE (X : Cx) (W : WX) (e : Expr) (den : S → Res SV) : Prop := PE X e (TR X.K W (SvRep X.K) den)
abbrev DT (X : Cx) (W : WX) (e : Expr) (den : S → Res Bool) : Prop := PT X e (TR X.K W rB den)
abbrev DW (X : Cx) (W : WX) (e : Expr) (den : S → Res Bool) : Prop := PW X e (TR X.K W rB den)
abbrev DA (X : Cx) (W : WX) (es : List Expr) (den : S → Res (List SV)) : Prop := PA X es (TR X.K W (rL X.K) den)
abbrev DS (X : Cx) (W : WX) (st : Stmt) (den : S → Out) : Prop := PS X st (TDS X.K W den)
abbrev DSs (X : Cx) (W : WX) (st : List Stmt) (den : S → Out) : Prop := PSs X st (TDS X.K W den)

section
variable {X : Cx} {e : Expr}
theorem pe_imp {t t' : TE} (h : PE X e t) (k : ∀ σ H Q, t' σ H Q → t σ H Q) : PE X e t' := ⟨fun pins s σ H Q I q => h.run pins s σ H Q I (k _ _ _ q)⟩
theorem pt_imp {t t' : TT} (h : PT X e t) (k : ∀ σ H Q, t' σ H Q → t σ H Q) : PT X e t' := ⟨fun pins s σ H Q I q => h.run pins s σ H Q I (k _ _ _ q)⟩
theorem pw_imp {t t' : TT} (h : PW X e t) (k : ∀ σ H Q, t' σ H Q → t σ H Q) : PW X e t' := ⟨fun wh pins s σ H Q I q => h.run wh pins s σ H Q I (k _ _ _ q)⟩
theorem pa_imp {es : List Expr} {t t' : TA} (h : PA X es t) (k : ∀ σ H Q, t' σ H Q → t σ H Q) : PA X es t' := ⟨fun pos pins s σ H Q I q => h.run pos pins s σ H Q I (k _ _ _ q)⟩
theorem ps_imp {st : Stmt} {t t' : TS} (h : PS X st t) (k : ∀ D σ H, t' D σ H → t D σ H) : PS X st t' := ⟨fun pins s σ H D I q => h.run pins s σ H D I (k _ _ _ q)⟩
theorem pss_imp {st : List Stmt} {t t' : TS} (h : PSs X st t) (k : ∀ D σ H, t' D σ H → t D σ H) : PSs X st t' := ⟨fun pins s σ H D I q => h.run pins s σ H D I (k _ _ _ q)⟩
end

section
variable {K : PySem.W.Frag} {W : WX} {α β γ δ : Type} {w w1 w' : Wd} {σ : Sg} {s : S}
theorem ExRep.evo {k : Nat} {c : Addr} {d : PyData} {cls : Value} {dd : Option Addr} (h : ExRep K w c d cls dd) (e : Evo k w w') : ExRep K w' c d cls dd := by
  obtain ⟨h1, da, v, h2, h3, h4, h5⟩ := h
  exact ⟨h1, da, v, h2, e.keep _ _ h3 h4, fun m => (e.nw _ m).elim h4 fun z => by (rw [z] at h3; cases h3), Dq.grow e.g h5⟩
theorem ROut.from {rep : Wd → β → α → Prop} {Q : β → Hp → Prop} {r : Res α} (h : ROut K W w σ rep Q r) (e : Evo w.st.length w w1) : ROut K W w1 σ rep Q r := by
  cases r with
  | no => exact h
  | ok x s' => exact fun v w' t r e' => h v w' t r (e.trans (e'.mono e.ln.2))
  | ex c d s' => exact fun c1 dd w' t r e' => h c1 dd w' t r (e.trans (e'.mono e.ln.2))
/-- one part, then the rest -/
theorem TR.seq {rep1 : Wd → β → α → Prop} {den1 : S → Res α} {rep : Wd → δ → γ → Prop} {f : α → S → Res γ} {Q : δ → Hp → Prop} {P : β → Hp → Prop}
    (hs : Stt K w σ s) (h : ROut K W w σ rep Q ((den1 s).bind f))
    (k : ∀ v x s1 w1, Stt K w1 σ s1 → rep1 w1 v x → Evo w.st.length w w1 → ROut K W w1 σ rep Q (f x s1) → P v w1.H) : TR K W rep1 den1 σ w.H P := by
  refine ⟨w, s, rfl, hs, ?_⟩
  cases q : den1 s with
  | no => rw [q] at h; exact h
  | ok x s1 =>
    rw [q] at h
    intro v w1 t r e
    exact k v x s1 w1 t r e (ROut.from (r := f x s1) h e)
  | ex c d s1 =>
    rw [q] at h
    exact h
theorem TR.one {rep1 : Wd → β → α → Prop} {den1 : S → Res α} {Q : β → Hp → Prop} (hs : Stt K w σ s) (h : ROut K W w σ rep1 Q (den1 s)) : TR K W rep1 den1 σ w.H Q := ⟨w, s, rfl, hs, h⟩
theorem ROut.ret {rep : Wd → β → α → Prop} {Q : β → Hp → Prop} {x : α} {v : β} (hs : Stt K w σ s) (h : ROut K W w σ rep Q (.ok x s)) (r : rep w v x) : Q v w.H := h v w hs r (Evo.refl (Nat.le_refl _))

/-! ### new frozen objects -/
theorem frz_lay {p : Addr} {o : HO} {k : Nat} (hs : Stt K w σ s) (hp : w.H p = none) (hk : k ≤ w.st.length) :
    Stt K ⟨upd w.G p o, upd w.H p o, w.g, w.st, w.b⟩ σ s ∧ Evo k w ⟨upd w.G p o, upd w.H p o, w.g, w.st, w.b⟩ := by
  have gp : w.G p = none := hs.sto.sub.free hp
  have sG : Same w.G (upd w.G p o) := fun b u q => by rw [upd_ne (ne_of_none q gp)]; exact q
  have nf : ∀ i, i < w.st.length → ∀ b ∈ (w.g i).2, b ≠ p := fun i hi b hb z => by
    obtain ⟨u, hu⟩ : ∃ u, w.st[i]? = some u := ⟨_, List.getElem?_eq_getElem hi⟩
    obtain ⟨_, u', e, _⟩ := (hs.sto.ob i u hu).foot b hb
    rw [z, hp] at e; cases e
  refine ⟨⟨⟨fun b u q => ?_, fun i u q => ?_, hs.sto.dj⟩, hs.st, hs.len, fun i x q => ?_, hs.bs, hs.be⟩, ⟨sG, fun b u q _ => ?_, fun b q => ?_, fun b u q => ?_, fun b q => .inl q, fun _ _ => rfl, ⟨hk, hk⟩, rfl⟩⟩
  · by_cases e : b = p
    · subst e
      have q' : upd w.G b o b = some u := q
      rw [upd_same] at q'
      show upd w.H b o b = some u
      rw [upd_same]; exact q'
    · have q' : w.G b = some u := by rw [← q]; exact (upd_ne e).symm
      show upd w.H p o b = some u
      rw [upd_ne e]; exact hs.sto.sub b u q'
  · have hi : i < w.st.length := (List.getElem?_eq_some_iff.mp q).1
    exact (hs.sto.ob i u q).stay sG (fun b hb => upd_ne (nf i hi b hb)) fun b hb => by
      show upd w.G p o b = none
      rw [upd_ne (nf i hi b hb)]; exact ((hs.sto.ob i u q).foot b hb).1
  · obtain ⟨v, h1, h2⟩ := hs.sl i x q
    refine ⟨v, h1, ?_⟩
    cases x with
    | pu d => exact Dq.grow sG h2
    | rf j => exact h2
    | sc ns => obtain ⟨a, h3, h4⟩ := h2; exact ⟨a, h3, sG.seq h4⟩
  · show upd w.H p o b = some u
    rw [upd_ne (ne_of_none q hp)]; exact q
  · cases z : w.H b with
    | none => rfl
    | some u =>
      have q' : upd w.H p o b = none := q
      rw [upd_ne (ne_of_none z hp), z] at q'; cases q'
  · by_cases e : b = p
    · subst e; exact .inr (.inl hp)
    · have q' : upd w.G p o b = some u := q
      rw [upd_ne e] at q'; exact .inl q'
/-- a new list of data -/
theorem new_lst {p : Addr} {vs : List V} {ds : List PyData} (hs : Stt K w σ s) (hp : w.H p = none) (h : DqAll K w.G vs ds) :
    ∃ w', w'.H = upd w.H p (.lst vs) ∧ Stt K w' σ s ∧ Dq K w'.G (.ref p) (.list ds) ∧ Evo w.st.length w w' := by
  obtain ⟨h1, h2⟩ := frz_lay (o := .lst vs) (k := w.st.length) hs hp (Nat.le_refl _)
  exact ⟨_, rfl, h1, .lst upd_same (DqAll.grow h2.g h), h2⟩
theorem new_tup {p : Addr} {vs : List V} {ds : List PyData} (hs : Stt K w σ s) (hp : w.H p = none) (h : DqAll K w.G vs ds) :
    ∃ w', w'.H = upd w.H p (.tup vs) ∧ Stt K w' σ s ∧ Dq K w'.G (.ref p) (.tuple ds) ∧ Evo w.st.length w w' := by
  obtain ⟨h1, h2⟩ := frz_lay (o := .tup vs) (k := w.st.length) hs hp (Nat.le_refl _)
  exact ⟨_, rfl, h1, .tup (SqT.of upd_same) (DqAll.grow h2.g h), h2⟩

/-! ### what a value may be read as -/
def rd (st : List MO) : SV → Option PyData
  | .pu d => some d
  | .rf i => match st[i]? with
    | some (.lst ds) => some (.list ds)
    | some (.fz d) => some d
    | _ => none
  | .sc ns => some (.list (ns.map PyData.int))
theorem dpInts {H : Hp} : ∀ ns : List Int, DpAll K H (ns.map V.int) (ns.map PyData.int)
  | [] => .nil
  | n :: ns => .cons (.int n) (dpInts ns)
theorem rd_dp {v : V} {x : SV} {d : PyData} (hs : Stt K w σ s) (r : SvRep K w v x) (h : rd s.st x = some d) : Dp K w.H v d := by
  cases x with
  | pu d' => cases h; exact (Dq.grow hs.sto.sub r).dp
  | sc ns =>
    obtain ⟨a, rfl, h2⟩ := r
    cases h
    exact .lst (hs.sto.sub.seq h2) (dpInts ns)
  | rf i =>
    obtain ⟨_, rfl⟩ := r
    have h' : (match w.st[i]? with | some (.lst ds) => some (.list ds) | some (.fz d) => some d | _ => none) = some d := by rw [← hs.st]; exact h
    cases q : w.st[i]? with
    | none => rw [q] at h'; cases h'
    | some o =>
      have ob := hs.sto.ob i o q
      rw [q] at h'
      generalize (w.g i).1 = ad at ob ⊢
      generalize (w.g i).2 = fp at ob
      cases ob with
      | lst g hh t => cases h'; exact .lst (SqL.of hh) (DqAll.grow hs.sto.sub t).dp
      | fz t => cases h'; exact (Dq.grow hs.sto.sub t).dp
      | dic g hh t => cases h'
      | ins g hh t n => cases h'
      | gone => cases h'
/-- plain data only -/
def pur (st : List MO) : SV → Option PyData
  | .pu d => some d
  | .rf i => match st[i]? with
    | some (.fz d) => some d
    | _ => none
  | .sc _ => none
theorem pur_dp {v : V} {x : SV} {d : PyData} (hs : Stt K w σ s) (r : SvRep K w v x) (h : pur s.st x = some d) : Dq K w.G v d := by
  cases x with
  | pu d' => cases h; exact r
  | sc ns => cases h
  | rf i =>
    obtain ⟨_, rfl⟩ := r
    have h' : (match w.st[i]? with | some (.fz d) => some d | _ => none) = some d := by rw [← hs.st]; exact h
    cases q : w.st[i]? with
    | none => rw [q] at h'; cases h'
    | some o =>
      have ob := hs.sto.ob i o q
      rw [q] at h'
      generalize (w.g i).1 = ad at ob ⊢
      generalize (w.g i).2 = fp at ob
      cases ob with
      | fz t => cases h'; exact t
      | lst g hh t => cases h'
      | dic g hh t => cases h'
      | ins g hh t n => cases h'
      | gone => cases h'
def purs (st : List MO) : List SV → Option (List PyData)
  | [] => some []
  | x :: xs => match pur st x, purs st xs with
    | some d, some ds => some (d :: ds)
    | _, _ => none
theorem purs_dp (hs : Stt K w σ s) : ∀ {vs : List V} {xs : List SV} {ds : List PyData}, rL K w vs xs → purs s.st xs = some ds → DqAll K w.G vs ds
  | _, _, _, .nil, h => by cases h; exact .nil
  | _, _, ds, .cons r t, h => by
    unfold purs at h
    split at h
    · rename_i d ds' e1 e2
      cases h
      exact .cons (pur_dp hs r e1) (purs_dp hs t e2)
    · cases h
theorem rL.evo {k : Nat} (e : Evo k w w') (hk : w.st.length ≤ k) : ∀ {vs : List V} {xs : List SV}, rL K w vs xs → rL K w' vs xs
  | _, _, .nil => .nil
  | _, _, .cons r t => .cons (SvRep.evo r e hk) (rL.evo e hk t)
end
end Lw
/-! Lw2: rules for expressions over data. -/
namespace Lw
open PySem PySem.Spec PyProof.Rows L2
noncomputable section

def eVar (i : Nat) : S → Res SV := fun s => match s.sl[i]? with
  | some (some x) => .ok x s
  | _ => .no
def eC (d : PyData) : S → Res SV := fun s => .ok (.pu d) s
def opt (o : Option PyData) (s : S) : Res SV := match o with
  | some d => .ok (.pu d) s
  | none => .no
abbrev G2 := List MO → SV → SV → Option PyData
abbrev G1 := List MO → SV → Option PyData
def e2 (g : G2) (a b : S → Res SV) : S → Res SV := fun s => (a s).bind fun x s1 => (b s1).bind fun y s2 => opt (g s2.st x y) s2
def e1 (g : G1) (a : S → Res SV) : S → Res SV := fun s => (a s).bind fun x s1 => opt (g s1.st x) s1
def asB : Option PyData → Option Bool
  | some (.bool b) => some b
  | _ => none
def optB (o : Option Bool) (s : S) : Res Bool := match o with
  | some b => .ok b s
  | none => .no
def t2 (g : G2) (a b : S → Res SV) : S → Res Bool := fun s => (a s).bind fun x s1 => (b s1).bind fun y s2 => optB (asB (g s2.st x y)) s2
def tV (a : S → Res SV) : S → Res Bool := fun s => (a s).bind fun x s1 => match x with
  | .pu (.bool b) => .ok b s1
  | _ => .no

/-- what a two-place operation on values does with data -/
def Op2 (K : PySem.W.Frag) (r : R2) (g : G2) : Prop := ∀ (w : Wd) (σ : Sg) (s : S) (x y : V) (a b : SV) (d : PyData) (Q : VK), Stt K w σ s → SvRep K w x a → SvRep K w y b → g s.st a b = some d →
  (∀ v w', Stt K w' σ s → Dq K w'.G v d → Evo w.st.length w w' → Q v w'.H) → r x y w.H Q
def Op1 (K : PySem.W.Frag) (r : V → Hp → VK → Prop) (g : G1) : Prop := ∀ (w : Wd) (σ : Sg) (s : S) (x : V) (a : SV) (d : PyData) (Q : VK), Stt K w σ s → SvRep K w x a → g s.st a = some d →
  (∀ v w', Stt K w' σ s → Dq K w'.G v d → Evo w.st.length w w' → Q v w'.H) → r x w.H Q

section
variable {X : Cx} {W : WX} {pos : Pos} {a b c : Expr} {da db dc : S → Res SV}
theorem de_var (i : Nat) {x : Str} (hN : X.N[i]? = some x := by rfl) (hv : Vis X.env.scope x := by first | exact Or.inl rfl | exact Or.inr (Or.inl rfl) | exact Or.inr (Or.inr rfl)) (hd : (x == ("__debug__" : Str)) = false := by decide)
    (hcd : (x == ("__classdict__" : Str)) = false := by decide) : DE X W (.Name x pos) (eVar i) := pe_imp (pv i hN hv hd hcd) fun σ H Q ⟨w, s, e, hs, h⟩ => by
  subst e
  unfold eVar at h
  cases q : s.sl[i]? with
  | none => rw [q] at h; exact h.elim
  | some o =>
    cases o with
    | none => rw [q] at h; exact h.elim
    | some x =>
      rw [q] at h
      obtain ⟨v, h1, h2⟩ := hs.sl i x q
      exact ⟨v, h1, ROut.ret (rep := SvRep X.K) hs h h2⟩
theorem de_const {v : V} {d : PyData} {e : Expr} (he : PE X e (tC v)) (r : ∀ G, Dq X.K G v d) : DE X W e (eC d) := pe_imp he fun σ H Q ⟨w, s, e, hs, h⟩ => by
  subst e
  exact ROut.ret (rep := SvRep X.K) (x := .pu d) (v := v) hs h (r w.G)
theorem de_int {i j} : DE X W (.Constant (.int i) j pos) (eC (.int i)) := de_const pe_int fun _ => .int i
theorem de_str {x j} : DE X W (.Constant (.str x) j pos) (eC (.str x)) := de_const pe_str fun _ => .str x
theorem de_bl {k j} : DE X W (.Constant (.bool k) j pos) (eC (.bool k)) := de_const pe_bl fun _ => .bl k
theorem de_non {j} : DE X W (.Constant .none j pos) (eC .none) := de_const pe_non fun _ => .non
theorem de_globS {x : Str} {y : Str} {t : Tok} (hm : X.mg x = some (.str y t)) (hg : Gl X x := by rfl) (hd : (x == ("__debug__" : Str)) = false := by decide) : DE X W (.Name x pos) (eC (.str y)) :=
  de_const (v := .str y) (pe_glob hg hm (show RelV (.str y) (.str y t) from ⟨t, rfl⟩) hd) fun _ => .str y
theorem de_globI {x : Str} {i : Int} {t : Tok} (hm : X.mg x = some (.int i t)) (hg : Gl X x := by rfl) (hd : (x == ("__debug__" : Str)) = false := by decide) : DE X W (.Name x pos) (eC (.int i)) :=
  de_const (v := .int i) (pe_glob hg hm (show RelV (.int i) (.int i t) from ⟨t, rfl⟩) hd) fun _ => .int i

theorem opt_ok {w : Wd} {σ : Sg} {s : S} {Q : VK} {o : Option PyData} (h : ROut X.K W w σ (SvRep X.K) Q (opt o s)) : ∃ d, o = some d ∧ ∀ v w', Stt X.K w' σ s → Dq X.K w'.G v d → Evo w.st.length w w' → Q v w'.H := by
  cases o with
  | none => exact h.elim
  | some d => exact ⟨d, rfl, h⟩
theorem r2_of {r : R2} {g : G2} (hg : Op2 X.K r g) {σ : Sg} {H : Hp} {Q : VK} (h : TR X.K W (SvRep X.K) (e2 g da db) σ H Q) : tOp r (TR X.K W (SvRep X.K) da) (TR X.K W (SvRep X.K) db) σ H Q := by
  obtain ⟨w, s, rfl, hs, h⟩ := h
  refine TR.seq hs h fun v x s1 w1 hs1 r1 e1 h1 => ?_
  refine TR.seq hs1 h1 fun u y s2 w2 hs2 r2 e2 h2 => ?_
  obtain ⟨d, q, k⟩ := opt_ok h2
  exact hg w2 σ s2 v u x y d Q hs2 (r1.evo e2 (Nat.le_refl _)) r2 q k
theorem de_bin {op : Operator} {r : R2} {g : G2} (ho : OpR X (binaryOp op) r) (hg : Op2 X.K r g) (ha : DE X W a da) (hb : DE X W b db) : DE X W (.BinOp a op b pos) (e2 g da db) :=
  pe_imp (pe_op ho ha hb) fun _ _ _ h => r2_of hg h
theorem de_cmp {op : CmpOp} {r : R2} {g : G2} (ho : OpR X (compareOp op) r) (hg : Op2 X.K r g) (ha : DE X W a da) (hb : DE X W b db) (hm : behindInMarks op b = false) : DE X W (.Compare a [op] [b] pos) (e2 g da db) :=
  pe_imp (pe_cmpR ho ha hb hm) fun _ _ _ h => r2_of hg h
theorem dt_cmp {op : CmpOp} {r : R2} {g : G2} (ho : OpR X (compareOp op) r) (hg : Op2 X.K r g) (ha : DE X W a da) (hb : DE X W b db) (hm : behindInMarks op b = false) : DT X W (.Compare a [op] [b] pos) (t2 g da db) :=
  pt_imp (pt_cmpR ho ha hb hm) fun σ H Q h => by
    obtain ⟨w, s, rfl, hs, h⟩ := h
    refine TR.seq hs h fun v x s1 w1 hs1 r1 e1 h1 => ?_
    refine TR.seq hs1 h1 fun u y s2 w2 hs2 r2 e2 h2 => ?_
    cases q : g s2.st x y with
    | none => rw [q] at h2; exact h2.elim
    | some d =>
      rw [q] at h2
      cases d with
      | bool k =>
        refine hg w2 σ s2 v u x y _ _ hs2 (r1.evo e2 (Nat.le_refl _)) r2 q fun z w3 hs3 r3 e3 => ?_
        cases r3
        exact ⟨k, rfl, h2 k w3 hs3 rfl e3⟩
      | _ => exact h2.elim
theorem de_un {op : UnaryOp} {r : V → Hp → VK → Prop} {g : G1} (ho : UnR X (unaryOp op) r) (hg : Op1 X.K r g) (ha : DE X W a da) : DE X W (.UnaryOp op a pos) (e1 g da) :=
  pe_imp (pe_un ho ha) fun σ H Q h => by
    obtain ⟨w, s, rfl, hs, h⟩ := h
    refine TR.seq hs h fun v x s1 w1 hs1 r1 e1 h1 => ?_
    obtain ⟨d, q, k⟩ := opt_ok h1
    exact hg w1 σ s1 v x d Q hs1 r1 q k
/-- an expression whose value is a bool, as a test -/
theorem tv_of {σ : Sg} {H : Hp} {Q : Bool → Hp → Prop} (h : TR X.K W rB (tV da) σ H Q) : tB (TR X.K W (SvRep X.K) da) σ H Q := by
  obtain ⟨w, s, rfl, hs, h⟩ := h
  refine TR.seq hs h fun v x s1 w1 hs1 r1 e1 h1 => ?_
  cases x with
  | rf i => exact h1.elim
  | sc ns => exact h1.elim
  | pu d =>
    cases d with
    | bool k =>
      have r2 : v = .bl k := Dq.bl_inv r1
      exact ⟨k, r2, ROut.ret (rep := rB) (x := k) hs1 h1 rfl⟩
    | _ => exact h1.elim
theorem dt_val (ha : DE X W a da) (he : ∀ whole, isTrue a X.env whole = (do let v ← whole; standAt a.pos; holding [v] (truthy v)) := by intro _; rfl) : DT X W a (tV da) :=
  pt_imp (pt_val ha he) fun _ _ _ h => tv_of h

/-! ### and, or, not, if -/
variable {ta tb : S → Res Bool} {rest : List Expr}
def tAndD (a b : S → Res Bool) : S → Res Bool := fun s => (a s).bind fun x s1 => if x = true then b s1 else .ok false s1
def tOrD (a b : S → Res Bool) : S → Res Bool := fun s => (a s).bind fun x s1 => if x = true then .ok true s1 else b s1
def tNotD (a : S → Res Bool) : S → Res Bool := fun s => (a s).bind fun x s1 => .ok (!x) s1
def eIfD (c : S → Res Bool) (a b : S → Res SV) : S → Res SV := fun s => (c s).bind fun x s1 => if x = true then a s1 else b s1
def eTst (t : S → Res Bool) : S → Res SV := fun s => (t s).bind fun x s1 => .ok (.pu (.bool x)) s1
theorem dw_and1 (ha : DT X W a ta) : DW X W (.BoolOp .And [a] pos) ta := pw_and1 ha
theorem dw_or1 (ha : DT X W a ta) : DW X W (.BoolOp .Or [a] pos) ta := pw_or1 ha
theorem dw_and (ha : DT X W a ta) (hb : DW X W (.BoolOp .And (b :: rest) pos) tb) : DW X W (.BoolOp .And (a :: b :: rest) pos) (tAndD ta tb) :=
  pw_imp (pw_and ha hb) fun σ H Q h => by
    obtain ⟨w, s, rfl, hs, h⟩ := h
    refine TR.seq hs h fun v x s1 w1 hs1 r1 e1 h1 => ?_
    cases r1
    cases v with
    | true => exact ⟨w1, s1, rfl, hs1, h1⟩
    | false => exact ROut.ret (rep := rB) (x := false) hs1 h1 rfl
theorem dw_or (ha : DT X W a ta) (hb : DW X W (.BoolOp .Or (b :: rest) pos) tb) : DW X W (.BoolOp .Or (a :: b :: rest) pos) (tOrD ta tb) :=
  pw_imp (pw_or ha hb) fun σ H Q h => by
    obtain ⟨w, s, rfl, hs, h⟩ := h
    refine TR.seq hs h fun v x s1 w1 hs1 r1 e1 h1 => ?_
    cases r1
    cases v with
    | true => exact ROut.ret (rep := rB) (x := true) hs1 h1 rfl
    | false => exact ⟨w1, s1, rfl, hs1, h1⟩
theorem dt_w (h : DW X W a ta) : DT X W a ta := h.pt
theorem dt_not (ha : DT X W a ta) : DT X W (.UnaryOp .Not a pos) (tNotD ta) :=
  pt_imp (pt_not ha) fun σ H Q h => by
    obtain ⟨w, s, rfl, hs, h⟩ := h
    refine TR.seq hs h fun v x s1 w1 hs1 r1 e1 h1 => ?_
    cases r1
    exact ROut.ret (rep := rB) (x := !v) hs1 h1 rfl
theorem de_if (hc : DT X W c ta) (ha : DE X W a da) (hb : DE X W b db) : DE X W (.IfExp c a b pos) (eIfD ta da db) :=
  pe_imp (pe_ifExp hc ha hb) fun σ H Q h => by
    obtain ⟨w, s, rfl, hs, h⟩ := h
    refine TR.seq hs h fun v x s1 w1 hs1 r1 e1 h1 => ?_
    cases r1
    cases v with
    | true => exact ⟨w1, s1, rfl, hs1, h1⟩
    | false => exact ⟨w1, s1, rfl, hs1, h1⟩
/-- and, or, not of bools as values -/
def eAndV (a b : S → Res SV) : S → Res SV := fun s => (a s).bind fun x s1 => match x with
  | .pu (.bool true) => b s1
  | .pu (.bool false) => .ok (.pu (.bool false)) s1
  | _ => .no
def eOrV (a b : S → Res SV) : S → Res SV := fun s => (a s).bind fun x s1 => match x with
  | .pu (.bool true) => .ok (.pu (.bool true)) s1
  | .pu (.bool false) => b s1
  | _ => .no
def eNotV (a : S → Res SV) : S → Res SV := fun s => (a s).bind fun x s1 => match x with
  | .pu (.bool k) => .ok (.pu (.bool (!k))) s1
  | _ => .no
theorem de_one {op} (h : DE X W a da) : DE X W (.BoolOp op [a] pos) da := pe_one h
theorem bool_cases {w : Wd} {v : V} {x : SV} {P : SV → Prop} (r : SvRep X.K w v x) (h : P x) (hn : (∀ k, x ≠ .pu (.bool k)) → ¬ P x) : ∃ k, x = .pu (.bool k) ∧ v = .bl k := by
  cases x with
  | pu d =>
    cases d with
    | bool k => exact ⟨k, rfl, Dq.bl_inv r⟩
    | _ => exact absurd h (hn fun _ z => nomatch z)
  | _ => exact absurd h (hn fun _ z => nomatch z)
theorem de_and (ha : DE X W a da) (hb : DE X W (.BoolOp .And (b :: rest) pos) db) : DE X W (.BoolOp .And (a :: b :: rest) pos) (eAndV da db) :=
  pe_imp (pe_and ha hb) fun σ H Q h => by
    obtain ⟨w, s, rfl, hs, h⟩ := h
    refine TR.seq hs h fun v x s1 w1 hs1 r1 e1 h1 => ?_
    cases x with
    | pu d =>
      cases d with
      | bool k =>
        refine ⟨k, Dq.bl_inv r1, ?_⟩
        cases k with
        | true => exact ⟨w1, s1, rfl, hs1, h1⟩
        | false => exact ROut.ret (rep := SvRep X.K) (x := .pu (.bool false)) hs1 h1 (Dq.bl false)
      | _ => exact h1.elim
    | _ => exact h1.elim
theorem de_or (ha : DE X W a da) (hb : DE X W (.BoolOp .Or (b :: rest) pos) db) : DE X W (.BoolOp .Or (a :: b :: rest) pos) (eOrV da db) :=
  pe_imp (pe_or ha hb) fun σ H Q h => by
    obtain ⟨w, s, rfl, hs, h⟩ := h
    refine TR.seq hs h fun v x s1 w1 hs1 r1 e1 h1 => ?_
    cases x with
    | pu d =>
      cases d with
      | bool k =>
        refine ⟨k, Dq.bl_inv r1, ?_⟩
        cases k with
        | true => exact ROut.ret (rep := SvRep X.K) (x := .pu (.bool true)) hs1 h1 (Dq.bl true)
        | false => exact ⟨w1, s1, rfl, hs1, h1⟩
      | _ => exact h1.elim
    | _ => exact h1.elim
theorem de_not (ha : DE X W a da) : DE X W (.UnaryOp .Not a pos) (eNotV da) :=
  pe_imp (pe_not ha) fun σ H Q h => by
    obtain ⟨w, s, rfl, hs, h⟩ := h
    refine TR.seq hs h fun v x s1 w1 hs1 r1 e1 h1 => ?_
    cases x with
    | pu d =>
      cases d with
      | bool k => exact ⟨k, Dq.bl_inv r1, ROut.ret (rep := SvRep X.K) (x := .pu (.bool (!k))) hs1 h1 (Dq.bl _)⟩
      | _ => exact h1.elim
    | _ => exact h1.elim

/-! ### arguments, displays -/
variable {es : List Expr} {dl : S → Res (List SV)}
def aNil : S → Res (List SV) := fun s => .ok [] s
def aCons (a : S → Res SV) (r : S → Res (List SV)) : S → Res (List SV) := fun s => (a s).bind fun x s1 => (r s1).bind fun xs s2 => .ok (x :: xs) s2
theorem da_nil : DA X W [] aNil := pa_imp pa_nil fun σ H Q h => by
  obtain ⟨w, s, rfl, hs, h⟩ := h
  exact ROut.ret (rep := rL X.K) (x := []) hs h .nil
theorem da_cons (ha : DE X W a da) (hr : DA X W es dl) (hs : starEach (a :: es) X.env = (false, eval a X.env) :: starEach es X.env := by rfl) : DA X W (a :: es) (aCons da dl) := pa_imp (pa_cons ha hr hs) fun σ H Q h => by
  obtain ⟨w, s, rfl, hs, h⟩ := h
  refine TR.seq hs h fun v x s1 w1 hs1 r1 e1 h1 => ?_
  refine TR.seq hs1 h1 fun vs xs s2 w2 hs2 r2 e2 h2 => ?_
  exact ROut.ret (rep := rL X.K) (x := x :: xs) hs2 h2 (.cons (r1.evo e2 (Nat.le_refl _)) r2)
def eTup (t : S → Res (List SV)) : S → Res SV := fun s => (t s).bind fun xs s1 => match purs s1.st xs with
  | some ds => if ds.length ≤ 1000 then .ok (.pu (.tuple ds)) s1 else .no
  | none => .no
def eLst (t : S → Res (List SV)) : S → Res SV := fun s => (t s).bind fun xs s1 => match purs s1.st xs with
  | some ds => if ds.length ≤ 1000 then .ok (.pu (.list ds)) s1 else .no
  | none => .no
theorem le_line {n : Nat} (h : n ≤ 16777216) : n ≤ sizeLine := by rw [sizeLine_eq]; exact h
theorem de_tup {x1} (h : DA X W es dl) : DE X W (.Tuple es x1 pos) (eTup dl) := pe_imp (pe_tup h) fun σ H Q h => by
  obtain ⟨w, s, rfl, hs, h⟩ := h
  refine TR.seq hs h fun vs xs s1 w1 hs1 r1 e1 h1 => ?_
  cases q : purs s1.st xs with
  | none => rw [q] at h1; exact h1.elim
  | some ds =>
    rw [q] at h1
    dsimp only at h1
    have hd := purs_dp hs1 r1 q
    split at h1
    · rename_i hl
      refine ⟨by rw [hd.length]; exact le_line (by omega), fun p hp => ?_⟩
      obtain ⟨w2, e, hs2, r2, e2⟩ := new_tup hs1 hp hd
      rw [← e]
      exact h1 _ w2 hs2 r2 e2
    · exact h1.elim
theorem de_lst (h : DA X W es dl) : DE X W (.List es pos) (eLst dl) := pe_imp (pe_lst h) fun σ H Q h => by
  obtain ⟨w, s, rfl, hs, h⟩ := h
  refine TR.seq hs h fun vs xs s1 w1 hs1 r1 e1 h1 => ?_
  cases q : purs s1.st xs with
  | none => rw [q] at h1; exact h1.elim
  | some ds =>
    rw [q] at h1
    dsimp only at h1
    have hd := purs_dp hs1 r1 q
    split at h1
    · rename_i hl
      refine ⟨by rw [hd.length]; exact le_line (by omega), fun p hp => ?_⟩
      obtain ⟨w2, e, hs2, r2, e2⟩ := new_lst hs1 hp hd
      rw [← e]
      exact h1 _ w2 hs2 r2 e2
    · exact h1.elim
end

/-! ### operations on ints -/
section
variable {K : PySem.W.Frag}
def ii (f : Int → Int → Option PyData) : G2 := fun _ x y => match x, y with
  | .pu (.int i), .pu (.int j) => f i j
  | _, _ => none
theorem ii_inv {f : Int → Int → Option PyData} {st : List MO} {x y : SV} {d : PyData} (h : ii f st x y = some d) : ∃ i j, x = .pu (.int i) ∧ y = .pu (.int j) ∧ f i j = some d := by
  unfold ii at h
  split at h
  · exact ⟨_, _, rfl, rfl, h⟩
  · cases h
theorem o2_ii {g : Int → Int → V} {f : Int → Int → Option PyData} (h : ∀ i j d, f i j = some d → ∀ G, Dq K G (g i j) d) : Op2 K (rI0 g) (ii f) := by
  intro w σ s x y a b d Q hs rx ry q k
  obtain ⟨i, j, rfl, rfl, q⟩ := ii_inv q
  exact ⟨i, j, Dq.int_inv rx, Dq.int_inv ry, k _ w hs (h i j d q w.G) (Evo.refl (Nat.le_refl _))⟩
theorem o2_iiC {C : Int → Int → Prop} {g : Int → Int → V} {f : Int → Int → Option PyData} (h : ∀ i j d, f i j = some d → C i j ∧ ∀ G, Dq K G (g i j) d) : Op2 K (rI C g) (ii f) := by
  intro w σ s x y a b d Q hs rx ry q k
  obtain ⟨i, j, rfl, rfl, q⟩ := ii_inv q
  exact ⟨i, j, Dq.int_inv rx, Dq.int_inv ry, (h i j d q).1, k _ w hs ((h i j d q).2 w.G) (Evo.refl (Nat.le_refl _))⟩
theorem int_of {i : Int} {d : PyData} (h : some (PyData.int i) = some d) : ∀ G, Dq K G (.int i) d := fun _ => by cases h; exact .int i
theorem bl_of {i : Bool} {d : PyData} (h : some (PyData.bool i) = some d) : ∀ G, Dq K G (.bl i) d := fun _ => by cases h; exact .bl i
def gSub : G2 := ii fun i j => some (.int (i - j))
theorem o_sub : Op2 K (rI0 fun i j => .int (i - j)) gSub := o2_ii fun _ _ _ h => int_of h
def gMul : G2 := ii fun i j => @ite _ ((-(2 ^ 64) < i ∧ i < 2 ^ 64) ∨ (-(2 ^ 64) < j ∧ j < 2 ^ 64)) (Classical.propDecidable _) (some (.int (i * j))) none
theorem o_mul : Op2 K (rI CMul fun i j => .int (i * j)) gMul := o2_iiC fun i j d h => by
  split at h
  · rename_i c; exact ⟨c, int_of h⟩
  · cases h
/-- of greater ints -/
def gMulW : G2 := ii fun i j => @ite _ (i.natAbs < 2 ^ 20000 ∧ j.natAbs < 2 ^ 20000) (Classical.propDecidable _) (some (.int (i * j))) none
theorem o_mulW : Op2 K (rI CMulW fun i j => .int (i * j)) gMulW := o2_iiC fun i j d h => by
  split at h
  · rename_i c; exact ⟨wide_mul c.1 c.2 (by decide) (by decide) (by decide), int_of h⟩
  · cases h
def gFdiv : G2 := ii fun i j => @ite _ (0 < j ∧ j < 1073741824) (Classical.propDecidable _) (some (.int (i / j))) none
theorem o_fdiv : Op2 K (rI CDiv fun i j => .int (i / j)) gFdiv := o2_iiC fun i j d h => by
  split at h
  · rename_i c; exact ⟨c, int_of h⟩
  · cases h
def gMod : G2 := ii fun i j => if 0 < j then some (.int (i % j)) else none
theorem o_mod : Op2 K (rI (fun _ j => 0 < j) fun i j => .int (i % j)) gMod := o2_iiC fun i j d h => by
  split at h
  · rename_i c; exact ⟨c, int_of h⟩
  · cases h
def gLt : G2 := ii fun i j => some (.bool (decide (i < j)))
def gLe : G2 := ii fun i j => some (.bool (decide (i ≤ j)))
def gGt : G2 := ii fun i j => some (.bool (decide (j < i)))
def gGe : G2 := ii fun i j => some (.bool (decide (j ≤ i)))
theorem o_lt : Op2 K (rI0 fun i j => .bl (decide (i < j))) gLt := o2_ii fun _ _ _ h => bl_of h
theorem o_le : Op2 K (rI0 fun i j => .bl (decide (i ≤ j))) gLe := o2_ii fun _ _ _ h => bl_of h
theorem o_gt : Op2 K (rI0 fun i j => .bl (decide (j < i))) gGt := o2_ii fun _ _ _ h => bl_of h
theorem o_ge : Op2 K (rI0 fun i j => .bl (decide (j ≤ i))) gGe := o2_ii fun _ _ _ h => bl_of h
def gNeg : G1 := fun _ x => match x with
  | .pu (.int i) => some (.int (-i))
  | _ => none
theorem o_neg : Op1 K (rU fun i => .int (-i)) gNeg := by
  intro w σ s x a d Q hs rx q k
  unfold gNeg at q
  split at q
  · cases q
    exact ⟨_, Dq.int_inv rx, k _ w hs (.int _) (Evo.refl (Nat.le_refl _))⟩
  · cases q
/-- powers of written size -/
def CPowW (i j : Int) : Prop := 0 ≤ j ∧ (Builtin.Int.intBits i : Int) * j ≤ 2 ^ 27
theorem op_powW {X : Cx} : OpR X (binaryOp .Pow) (rI CPowW fun i j => .int (i ^ j.toNat)) := opI fun _ _ _ _ _ _ _ hc q => pow_int hc.1 hc.2 q

/-! ### == and != of data, is None -/
def gEq : G2 := fun st x y => match rd st x, rd st y with
  | some d, some e => if SeqAt.shaped d = true ∧ SeqAt.shaped e = true then some (.bool (PyData.eqv d e)) else none
  | _, _ => none
def gNe : G2 := fun st x y => match rd st x, rd st y with
  | some d, some e => if SeqAt.shaped d = true ∧ SeqAt.shaped e = true then some (.bool (!PyData.eqv d e)) else none
  | _, _ => none
theorem o_eq : Op2 K (rEqD K) gEq := by
  intro w σ s x y a b d Q hs rx ry q k
  unfold gEq at q
  split at q
  · rename_i e1 e2 q1 q2
    split at q
    · rename_i c
      exact ⟨e1, e2, rd_dp hs rx q1, rd_dp hs ry q2, c.1, c.2, k _ w hs (bl_of q w.G) (Evo.refl (Nat.le_refl _))⟩
    · cases q
  · cases q
theorem o_ne : Op2 K (rNeD K) gNe := by
  intro w σ s x y a b d Q hs rx ry q k
  unfold gNe at q
  split at q
  · rename_i e1 e2 q1 q2
    split at q
    · rename_i c
      exact ⟨e1, e2, rd_dp hs rx q1, rd_dp hs ry q2, c.1, c.2, k _ w hs (bl_of q w.G) (Evo.refl (Nat.le_refl _))⟩
    · cases q
  · cases q
/-- x is None -/
def isNon : SV → Bool
  | .pu .none => true
  | _ => false
theorem isNon_iff {w : Wd} {v : V} {x : SV} (r : SvRep K w v x) : isNon x = decide (v = .non) := by
  cases x with
  | rf i => obtain ⟨_, rfl⟩ := r; rfl
  | sc ns => obtain ⟨a, rfl, _⟩ := r; rfl
  | pu d =>
    cases d <;> cases r <;> rfl
def gIsN : G2 := fun _ x y => match y with
  | .pu .none => some (.bool (isNon x))
  | _ => none
def gNotN : G2 := fun _ x y => match y with
  | .pu .none => some (.bool (!isNon x))
  | _ => none
theorem o_isN : Op2 K (fun x y H Q => y = .non ∧ Q (.bl (decide (x = .non))) H) gIsN := by
  intro w σ s x y a b d Q hs rx ry q k
  unfold gIsN at q
  split at q
  · exact ⟨Dq.non_inv ry, by rw [← isNon_iff rx]; exact k _ w hs (bl_of q w.G) (Evo.refl (Nat.le_refl _))⟩
  · cases q
theorem o_notN : Op2 K (fun x y H Q => y = .non ∧ Q (.bl (!decide (x = .non))) H) gNotN := by
  intro w σ s x y a b d Q hs rx ry q k
  unfold gNotN at q
  split at q
  · exact ⟨Dq.non_inv ry, by rw [← isNon_iff rx]; exact k _ w hs (bl_of q w.G) (Evo.refl (Nat.le_refl _))⟩
  · cases q
end
end
end Lw
/-! Lw3: +, in, places, slices, the calls of built-in functions. -/
namespace Lw
open PySem PySem.Spec PyProof.Rows L2
noncomputable section

section
variable {K : PySem.W.Frag} {W : WX} {w : Wd} {σ : Sg} {s : S}
/-- a list, not the script -/
def rdl (st : List MO) : SV → Option PyData
  | .sc _ => none
  | x => rd st x
theorem rdl_lst {v : V} {x : SV} {ds : List PyData} (hs : Stt K w σ s) (r : SvRep K w v x) (h : rdl s.st x = some (.list ds)) : ∃ a vs, v = .ref a ∧ w.H a = some (.lst vs) ∧ DqAll K w.G vs ds := by
  cases x with
  | pu d =>
    cases h
    obtain ⟨a, xs, rfl, h1, h2⟩ := Dq.lst_inv r
    exact ⟨a, xs, rfl, hs.sto.sub _ _ h1, h2⟩
  | sc ns => cases h
  | rf i =>
    obtain ⟨_, rfl⟩ := r
    have h' : (match w.st[i]? with | some (.lst ds) => some (.list ds) | some (.fz d) => some d | _ => none) = some (.list ds) := by rw [← hs.st]; exact h
    cases q : w.st[i]? with
    | none => rw [q] at h'; cases h'
    | some o =>
      have ob := hs.sto.ob i o q
      rw [q] at h'
      generalize (w.g i).1 = ad at ob ⊢
      generalize (w.g i).2 = fp at ob
      cases ob with
      | lst g hh t => cases h'; exact ⟨_, _, rfl, hh, t⟩
      | fz t =>
        cases h'
        obtain ⟨a, xs, e, h1, h2⟩ := Dq.lst_inv t
        cases e
        exact ⟨_, _, rfl, hs.sto.sub _ _ h1, h2⟩
      | dic g hh t => cases h'
      | ins g hh t n => cases h'
      | gone => cases h'
/-- a tuple of data -/
theorem pur_tup {v : V} {x : SV} {ds : List PyData} (hs : Stt K w σ s) (r : SvRep K w v x) (h : pur s.st x = some (.tuple ds)) : ∃ a vs, v = .ref a ∧ SqT K w.H a vs ∧ DqAll K w.G vs ds := by
  obtain ⟨a, xs, rfl, h1, h2⟩ := Dq.tup_inv (pur_dp hs r h)
  exact ⟨a, xs, rfl, sqT_same hs.sto.sub h1, h2⟩
theorem rd_of_pur {st : List MO} {x : SV} {d : PyData} (h : pur st x = some d) : rd st x = some d := by
  unfold pur at h
  split at h
  · cases h; rfl
  · split at h
    · rename_i q; cases h; unfold rd; simp [q]
    · cases h
  · cases h

/-! ### + -/
def gAdd : G2 := fun st x y => match rdl st x, rdl st y with
  | some (.int i), some (.int j) => some (.int (i + j))
  | some (.str i), some (.str j) => @ite _ (i.length + j.length ≤ 16777216) (Classical.propDecidable _) (some (.str (i ++ j))) none
  | some (.list i), some (.list j) => @ite _ (i.length + j.length ≤ 16777216) (Classical.propDecidable _) (some (.list (i ++ j))) none
  | some (.tuple i), some (.tuple j) => match pur st x, pur st y with
    | some _, some _ => @ite _ (i.length + j.length ≤ 16777216) (Classical.propDecidable _) (some (.tuple (i ++ j))) none
    | _, _ => none
  | _, _ => none
def rAdd4 (K : PySem.W.Frag) : R2 := fun x y H Q => rI0 (fun i j => .int (i + j)) x y H Q ∨ (∃ i j, x = .str i ∧ y = .str j ∧ i.length + j.length ≤ sizeLine ∧ Q (.str (i ++ j)) H) ∨ rCat x y H Q ∨ rCatA K x y H Q
theorem op_add4 {X : Cx} : OpR X (binaryOp .Add) (rAdd4 X.K) := op_add.or (op_add_str.or (op_cat.or op_catA))
theorem rdl_rd {st : List MO} {x : SV} {d : PyData} (h : rdl st x = some d) : rd st x = some d := by
  cases x with
  | sc ns => cases h
  | _ => exact h
theorem dp_int {H : Hp} {v : V} {i : Int} (h : Dp K H v (.int i)) : v = .int i := by cases h; rfl
theorem dp_str {H : Hp} {v : V} {i : Str} (h : Dp K H v (.str i)) : v = .str i := by cases h; rfl
theorem dp_bl {H : Hp} {v : V} {i : Bool} (h : Dp K H v (.bool i)) : v = .bl i := by cases h; rfl
theorem o_add : Op2 K (rAdd4 K) gAdd := by
  intro w σ s x y a b d Q hs rx ry q k
  unfold gAdd at q
  split at q
  · rename_i i j q1 q2
    cases q
    exact .inl ⟨i, j, dp_int (rd_dp hs rx (rdl_rd q1)), dp_int (rd_dp hs ry (rdl_rd q2)), k _ w hs (.int _) (Evo.refl (Nat.le_refl _))⟩
  · rename_i i j q1 q2
    split at q
    · rename_i c
      cases q
      exact .inr (.inl ⟨i, j, dp_str (rd_dp hs rx (rdl_rd q1)), dp_str (rd_dp hs ry (rdl_rd q2)), le_line c, k _ w hs (.str _) (Evo.refl (Nat.le_refl _))⟩)
    · cases q
  · rename_i i j q1 q2
    split at q
    · rename_i c
      cases q
      obtain ⟨p, vs, rfl, h1, h2⟩ := rdl_lst hs rx q1
      obtain ⟨p', us, rfl, h3, h4⟩ := rdl_lst hs ry q2
      refine .inr (.inr (.inl ⟨p, p', vs, us, rfl, rfl, h1, h3, by rw [h2.length, h4.length]; exact le_line c, fun l hl => ?_⟩))
      obtain ⟨w2, e, hs2, r2, e2⟩ := new_lst hs hl (h2.app h4)
      rw [← e]
      exact k _ w2 hs2 r2 e2
    · cases q
  · rename_i i j q1 q2
    split at q
    · rename_i t1 t2 q3 q4
      split at q
      · rename_i c
        cases q
        have e1 := (rd_of_pur q3).symm.trans (rdl_rd q1)
        have e2 := (rd_of_pur q4).symm.trans (rdl_rd q2)
        cases e1; cases e2
        obtain ⟨p, vs, rfl, h1, h2⟩ := pur_tup hs rx q3
        obtain ⟨p', us, rfl, h3, h4⟩ := pur_tup hs ry q4
        have d1 := pur_dp hs rx q3
        have d2 := pur_dp hs ry q4
        refine .inr (.inr (.inr ⟨p, p', vs, us, rfl, rfl, h1, h3, by rw [h2.length, h4.length]; exact le_line c, fun z => ?_, fun _ z => ?_, fun _ _ l hl => ?_⟩))
        · subst z
          have : i = [] := by have := h2.length; cases i with | nil => rfl | cons _ _ => cases this
          subst this
          exact k _ w hs d2 (Evo.refl (Nat.le_refl _))
        · subst z
          have : j = [] := by have := h4.length; cases j with | nil => rfl | cons _ _ => cases this
          subst this
          rw [List.append_nil] at k
          exact k _ w hs d1 (Evo.refl (Nat.le_refl _))
        · obtain ⟨w2, e, hs2, r2, e2⟩ := new_tup hs hl (h2.app h4)
          rw [← e]
          exact k _ w2 hs2 r2 e2
      · cases q
    · cases q
  · cases q

/-! ### list * int -/
def gRep : G2 := fun st x y => match rdl st x, y with
  | some (.list ds), .pu (.int n) => @ite _ (-(2 ^ 63) ≤ n ∧ n < 2 ^ 63 ∧ ds.length * n.toNat ≤ 16777216) (Classical.propDecidable _) (some (.list (List.replicate n.toNat ds).flatten)) none
  | _, _ => none
theorem DqAll.rep {G : Hp} {vs : List V} {ds : List PyData} (h : DqAll K G vs ds) : ∀ n : Nat, DqAll K G (List.replicate n vs).flatten (List.replicate n ds).flatten
  | 0 => .nil
  | n + 1 => by
    rw [List.replicate_succ, List.replicate_succ, List.flatten_cons, List.flatten_cons]
    exact h.app (DqAll.rep h n)
theorem o_rep : Op2 K rRep gRep := by
  intro w σ s x y a b d Q hs rx ry q k
  unfold gRep at q
  split at q
  · rename_i ds n q1
    split at q
    · rename_i c
      cases q
      obtain ⟨p, vs, rfl, h1, h2⟩ := rdl_lst hs rx q1
      refine ⟨p, n, vs, rfl, Dq.int_inv ry, h1, c.1, c.2.1, by rw [h2.length]; exact le_line c.2.2, fun l hl => ?_⟩
      obtain ⟨w2, e, hs2, r2, e2⟩ := new_lst hs hl (h2.rep n.toNat)
      rw [← e]
      exact k _ w2 hs2 r2 e2
    · cases q
  · cases q

/-! ### in, not in: a list of data -/
def gIn : G2 := fun st x y => match rd st x, rd st y with
  | some d, some (.list ds) => if SeqAt.shaped d = true ∧ SeqAt.shaped (.list ds) = true then some (.bool (ds.any fun z => PyData.eqv z d)) else none
  | _, _ => none
def gNotIn : G2 := fun st x y => match rd st x, rd st y with
  | some d, some (.list ds) => if SeqAt.shaped d = true ∧ SeqAt.shaped (.list ds) = true then some (.bool (!ds.any fun z => PyData.eqv z d)) else none
  | _, _ => none
theorem o_in : Op2 K (rInD K) gIn := by
  intro w σ s x y a b d Q hs rx ry q k
  unfold gIn at q
  split at q
  · rename_i e1 ds q1 q2
    split at q
    · rename_i c
      exact ⟨e1, ds, rd_dp hs rx q1, rd_dp hs ry q2, c.1, c.2, k _ w hs (bl_of q w.G) (Evo.refl (Nat.le_refl _))⟩
    · cases q
  · cases q
theorem o_notIn : Op2 K (rNotInD K) gNotIn := by
  intro w σ s x y a b d Q hs rx ry q k
  unfold gNotIn at q
  split at q
  · rename_i e1 ds q1 q2
    split at q
    · rename_i c
      exact ⟨e1, ds, rd_dp hs rx q1, rd_dp hs ry q2, c.1, c.2, k _ w hs (bl_of q w.G) (Evo.refl (Nat.le_refl _))⟩
    · cases q
  · cases q

/-! ### x[i] -/
def atD (ds : List PyData) (i : Int) : Option PyData := atI ds i
theorem atD_v {G : Hp} {vs : List V} {ds : List PyData} {i : Int} {d : PyData} (h : DqAll K G vs ds) (q : atI ds i = some d) : ∃ v, atI vs i = some v ∧ Dq K G v d := by
  unfold atI at q ⊢
  rw [h.length]
  cases z : ixN ds.length i with
  | none => rw [z] at q; cases q
  | some j =>
    rw [z] at q
    exact h.get q
def gIx : G2 := fun st x y => match y with
  | .pu (.int i) => match x with
    | .sc ns => match atI ns i with
      | some n => some (.int n)
      | none => none
    | _ => match rd st x with
      | some (.list ds) => atI ds i
      | some (.tuple ds) => match pur st x with
        | some _ => atI ds i
        | none => none
      | some (.str z) => @ite _ (z.length ≤ 16777216) (Classical.propDecidable _) ((match atI z.cps.toList i with
        | some c => some (.str ⟨#[c]⟩)
        | none => none)) none
      | _ => none
  | _ => none
theorem rd_ix {v : V} {x : SV} {ds : List PyData} {i : Int} {d : PyData} (hs : Stt K w σ s) (r : SvRep K w v x) (hn : ∀ ns, x ≠ .sc ns) (h : rd s.st x = some (.list ds)) (q : atI ds i = some d) :
    ∃ a vs u, v = .ref a ∧ SqL K w.H a vs ∧ atI vs i = some u ∧ Dq K w.G u d := by
  obtain ⟨a, vs, rfl, h1, h2⟩ := rdl_lst hs r (show rdl s.st x = some (.list ds) by cases x with | sc ns => exact absurd rfl (hn ns) | _ => exact h)
  obtain ⟨u, h3, h4⟩ := atD_v h2 q
  exact ⟨a, vs, u, rfl, SqL.of h1, h3, h4⟩
theorem o_ix : Op2 K (rIx K) gIx := by
  intro w σ s x y a b d Q hs rx ry q k
  unfold gIx at q
  split at q
  · rename_i i
    have ey : y = .int i := Dq.int_inv ry
    split at q
    · rename_i ns
      split at q
      · rename_i n e
        cases q
        obtain ⟨p, rfl, h2⟩ := rx
        refine .inl ⟨p, _, i, .int n, rfl, ey, hs.sto.sub.seq h2, ?_, k _ w hs (.int n) (Evo.refl (Nat.le_refl _))⟩
        unfold atI at e ⊢
        rw [List.length_map]
        cases z : ixN ns.length i with
        | none => rw [z] at e; cases e
        | some j =>
          rw [z] at e
          have e' : ns[j]? = some n := e
          show (ns.map V.int)[j]? = some (.int n)
          rw [List.getElem?_map, e']; rfl
      · cases q
    · rename_i hn
      split at q
      · rename_i ds e
        obtain ⟨p, vs, u, rfl, h1, h2, h3⟩ := rd_ix hs rx hn e q
        exact .inl ⟨p, vs, i, u, rfl, ey, h1, h2, k _ w hs h3 (Evo.refl (Nat.le_refl _))⟩
      · rename_i ds e
        split at q
        · rename_i t e2
          have e1 := (rd_of_pur e2).symm.trans e
          cases e1
          obtain ⟨p, vs, rfl, h1, h2⟩ := pur_tup hs rx e2
          obtain ⟨u, h3, h4⟩ := atD_v h2 q
          exact .inr (.inl ⟨p, vs, i, u, rfl, ey, h1, h3, k _ w hs h4 (Evo.refl (Nat.le_refl _))⟩)
        · cases q
      · rename_i z e
        split at q
        · rename_i c
          split at q
          · rename_i ch e2
            cases q
            exact .inr (.inr ⟨z, i, ch, dp_str (rd_dp hs rx e), ey, le_line c, e2, k _ w hs (.str _) (Evo.refl (Nat.le_refl _))⟩)
          · cases q
        · cases q
      · cases q
  · cases q
end
section
variable {X : Cx} {W : WX} {pos p2 : Pos} {a b c : Expr} {da db dc : S → Res SV} {es : List Expr} {dl : S → Res (List SV)}
theorem de_ix (ha : DE X W a da) (hb : DE X W b db) (hs : PlainIx b := by exact fun _ _ => rfl) : DE X W (.Subscript a b pos) (e2 gIx da db) := pe_imp (pe_ix ix_seq ha hb hs) fun _ _ _ h => r2_of o_ix h

/-! ### slices -/
def eO (a : Option (S → Res SV)) : S → Res (Option Int) := fun s => match a with
  | none => .ok none s
  | some a => (a s).bind fun x s1 => match x with
    | .pu (.int i) => .ok (some i) s1
    | _ => .no
abbrev rO : Wd → Option Int → Option Int → Prop := fun _ a b => a = b
abbrev DO (X : Cx) (W : WX) (e : Option Expr) (den : S → Res (Option Int)) : Prop := PO X e (TR X.K W rO den)
theorem po_imp {e : Option Expr} {t t' : TO} (h : PO X e t) (k : ∀ σ H Q, t' σ H Q → t σ H Q) : PO X e t' := ⟨fun pins s σ H Q I q => h.run pins s σ H Q I (k _ _ _ q)⟩
theorem do_none : DO X W none (eO none) := po_imp po_none fun σ H Q h => by
  obtain ⟨w, s, rfl, hs, h⟩ := h
  exact ROut.ret (rep := rO) (x := none) hs h rfl
theorem do_some (ha : DE X W a da) : DO X W (some a) (eO (some da)) := po_imp (po_some ha) fun σ H Q h => by
  obtain ⟨w, s, rfl, hs, h⟩ := h
  refine TR.seq hs h fun v x s1 w1 hs1 r1 e1 h1 => ?_
  cases x with
  | pu d =>
    cases d with
    | int i => exact ⟨i, Dq.int_inv r1, ROut.ret (rep := rO) (x := some i) hs1 h1 rfl⟩
    | _ => exact h1.elim
  | _ => exact h1.elim
def cutD (ds : List PyData) (lo hi : Option Int) : List PyData := (ds.drop (HT.sIx ds.length 0 lo)).take (HT.sIx ds.length ds.length hi - HT.sIx ds.length 0 lo)
def gSl (st : List MO) (x : SV) (lo hi : Option Int) : Option PyData := match rdl st x with
  | some (.list ds) => some (.list (cutD ds lo hi))
  | some (.tuple ds) => match pur st x with
    | some _ => some (.tuple (cutD ds lo hi))
    | none => none
  | _ => none
def eSl (a : S → Res SV) (lo hi : S → Res (Option Int)) : S → Res SV := fun s => (a s).bind fun x s1 => (lo s1).bind fun l s2 => (hi s2).bind fun h s3 => opt (gSl s3.st x l h) s3
theorem cut_dq {K : PySem.W.Frag} {G : Hp} {vs : List V} {ds : List PyData} (h : DqAll K G vs ds) (lo hi : Option Int) : DqAll K G (cutV vs lo hi) (cutD ds lo hi) := by
  unfold cutV cutD
  rw [h.length]
  exact (h.drop _).take _
end
end
end Lw
/-! Lw3b: slices, calls of built-in functions. -/
namespace Lw
open PySem PySem.Spec PyProof.Rows L2
noncomputable section
section
variable {X : Cx} {W : WX} {pos p2 p : Pos} {a b c e : Expr} {da db dc : S → Res SV} {es : List Expr} {dl : S → Res (List SV)} {lo hi : Option Expr} {dlo dhi : S → Res (Option Int)}
def rSl3 (K : PySem.W.Frag) : V → Option Int → Option Int → Hp → VK → Prop := fun x l h H Q => rSlL K x l h H Q ∨ rSlA K x l h H Q ∨ rSlS x l h H Q
theorem sl_3 : SlR X (rSl3 X.K) := sl_list.or (sl_tupA.or sl_str)
def gSl3 (st : List MO) (x : SV) (lo hi : Option Int) : Option PyData := match rdl st x with
  | some (.list ds) => some (.list (cutD ds lo hi))
  | some (.tuple ds) => match pur st x with
    | some _ => some (.tuple (cutD ds lo hi))
    | none => none
  | some (.str z) => @ite _ (z.length ≤ 16777216) (Classical.propDecidable _) (some (.str (cutS z lo hi))) none
  | _ => none
def eSl3 (a : S → Res SV) (lo hi : S → Res (Option Int)) : S → Res SV := fun s => (a s).bind fun x s1 => (lo s1).bind fun l s2 => (hi s2).bind fun h s3 => opt (gSl3 s3.st x l h) s3
theorem de_slice (ha : DE X W a da) (hl : DO X W lo dlo) (hh : DO X W hi dhi) : DE X W (.Subscript a (.Slice lo hi none p2) pos) (eSl3 da dlo dhi) :=
  pe_imp (pe_slice sl_3 ha hl hh) fun σ H Q h => by
    obtain ⟨w, s, rfl, hs, h⟩ := h
    refine TR.seq hs h fun v x s1 w1 hs1 r1 e1 h1 => ?_
    refine TR.seq hs1 h1 fun l l' s2 w2 hs2 r2 e2 h2 => ?_
    cases r2
    refine TR.seq hs2 h2 fun u u' s3 w3 hs3 r3 e3 h3 => ?_
    cases r3
    obtain ⟨d, q, k⟩ := opt_ok h3
    have r3 : SvRep X.K w3 v x := (r1.evo e2 (Nat.le_refl _)).evo e3 (Nat.le_refl _)
    unfold gSl3 at q
    split at q
    · rename_i ds q1
      cases q
      obtain ⟨p, vs, rfl, h1, h2⟩ := rdl_lst hs3 r3 q1
      refine .inl ⟨p, vs, rfl, SqL.of h1, fun l' hl' => ?_⟩
      obtain ⟨w4, e, hs4, r4, e4⟩ := new_lst hs3 hl' (cut_dq h2 l u)
      rw [← e]
      exact k _ w4 hs4 r4 e4
    · rename_i ds q1
      split at q
      · rename_i t q2
        cases q
        have z := (rd_of_pur q2).symm.trans (rdl_rd q1)
        cases z
        have d1 := pur_dp hs3 r3 q2
        obtain ⟨p, vs, rfl, h1, h2⟩ := pur_tup hs3 r3 q2
        refine .inr (.inl ⟨p, vs, rfl, h1, fun c => ?_, fun c l' hl' => ?_⟩)
        · have e : cutD ds l u = ds := by
            unfold cutD
            rw [h2.length] at c
            rw [c.1, c.2, List.drop_zero, Nat.sub_zero, List.take_length]
          rw [e] at k
          exact k _ w3 hs3 d1 (Evo.refl (Nat.le_refl _))
        · obtain ⟨w4, e, hs4, r4, e4⟩ := new_tup hs3 hl' (cut_dq h2 l u)
          rw [← e]
          exact k _ w4 hs4 r4 e4
      · cases q
    · rename_i z q1
      split at q
      · rename_i c
        cases q
        exact .inr (.inr ⟨z, dp_str (rd_dp hs3 r3 (rdl_rd q1)), le_line c, k _ w3 hs3 (.str _) (Evo.refl (Nat.le_refl _))⟩)
      · cases q
    · cases q

/-! ### calls -/
abbrev GC := List MO → List SV → Option PyData
def OpC (K : PySem.W.Frag) (r : List V → Hp → VK → Prop) (g : GC) : Prop := ∀ (w : Wd) (σ : Sg) (s : S) (xs : List V) (as : List SV) (d : PyData) (Q : VK), Stt K w σ s → rL K w xs as → g s.st as = some d →
  (∀ v w', Stt K w' σ s → Dq K w'.G v d → Evo w.st.length w w' → Q v w'.H) → r xs w.H Q
def eCl (g : GC) (t : S → Res (List SV)) : S → Res SV := fun s => (t s).bind fun xs s1 => opt (g s1.st xs) s1
theorem cb_of {r : List V → Hp → VK → Prop} {g : GC} (hg : OpC X.K r g) {σ : Sg} {H : Hp} {Q : VK} (h : TR X.K W (SvRep X.K) (eCl g dl) σ H Q) : tCB r (TR X.K W (rL X.K) dl) σ H Q := by
  obtain ⟨w, s, rfl, hs, h⟩ := h
  refine TR.seq hs h fun v x s1 w1 hs1 r1 e1 h1 => ?_
  obtain ⟨d, q, k⟩ := opt_ok h1
  exact hg w1 σ s1 v x d Q hs1 r1 q k
theorem de_callB {r : List V → Hp → VK → Prop} {g : GC} {x : Str} {id : String} (hc : CallR X (.builtin id) r) (hg' : OpC X.K r g) (hm : X.mg x = none) (hv : bootBuiltins x = some (.builtin id)) (ha : DA X W (e :: es) dl) (hg : Gl X x := by rfl) (hn : x ≠ "__name__" := by decide) (hdb : (x == ("__debug__" : Str)) = false := by decide)
    (he : starEach (e :: es) X.env = (false, eval e X.env) :: starEach es X.env := by rfl) (hpl : (backTo pos (starEach es X.env)).any (·.1) = false := by rfl) : DE X W (.Call (.Name x p) (e :: es) [] pos) (eCl g dl) :=
  pe_imp (pe_callB hc hg hm hv ha hn hdb he hpl) fun _ _ _ h => cb_of hg' h
theorem de_callT {r : List V → Hp → VK → Prop} {g : GC} {x : Str} {T : String} (hc : CallR X (.type T) r) (hg' : OpC X.K r g) (hm : X.mg x = none) (hv : bootBuiltins x = some (.type T)) (ha : DA X W (e :: es) dl) (hg : Gl X x := by rfl) (hn : x ≠ "__name__" := by decide) (hdb : (x == ("__debug__" : Str)) = false := by decide)
    (he : starEach (e :: es) X.env = (false, eval e X.env) :: starEach es X.env := by rfl) (hpl : (backTo pos (starEach es X.env)).any (·.1) = false := by rfl) : DE X W (.Call (.Name x p) (e :: es) [] pos) (eCl g dl) :=
  pe_imp (pe_callTy hc hg hm hv ha hn hdb he hpl) fun _ _ _ h => cb_of hg' h
end
section
variable {K : PySem.W.Frag}
theorem rL1 {w : Wd} {xs : List V} {a : SV} (h : rL K w xs [a]) : ∃ v, xs = [v] ∧ SvRep K w v a := by
  cases h with
  | cons r t => cases t; exact ⟨_, rfl, r⟩
theorem rL2 {w : Wd} {xs : List V} {a b : SV} (h : rL K w xs [a, b]) : ∃ v u, xs = [v, u] ∧ SvRep K w v a ∧ SvRep K w u b := by
  cases h with
  | cons r t =>
    obtain ⟨u, rfl, r2⟩ := rL1 t
    exact ⟨_, u, rfl, r, r2⟩
/-- len -/
def gLen : GC := fun st as => match as with
  | [.sc ns] => some (.int ns.length)
  | [x] => match rd st x with
    | some (.list ds) => some (.int ds.length)
    | some (.tuple ds) => match pur st x with
      | some _ => some (.int ds.length)
      | none => none
    | some (.str z) => @ite _ (z.length ≤ 16777216) (Classical.propDecidable _) (some (.int z.length)) none
    | _ => none
  | _ => none
def rLen (K : PySem.W.Frag) : List V → Hp → VK → Prop := fun xs H Q => ∃ x n, xs = [x] ∧ LenV K x H n ∧ Q (.int n) H
theorem o_len : OpC K (rLen K) gLen := by
  intro w σ s xs as d Q hs rx q k
  unfold gLen at q
  split at q
  · rename_i ns
    cases q
    obtain ⟨v, rfl, r⟩ := rL1 rx
    obtain ⟨p, rfl, h2⟩ := r
    exact ⟨_, ns.length, rfl, .inl ⟨_, hs.sto.sub.seq h2, by rw [List.length_map]⟩, k _ w hs (.int _) (Evo.refl (Nat.le_refl _))⟩
  · rename_i x hn
    obtain ⟨v, rfl, r⟩ := rL1 rx
    split at q
    · rename_i ds q1
      cases q
      obtain ⟨p, vs, rfl, h1, h2⟩ := rdl_lst hs r (show rdl s.st x = some (.list ds) by cases x with | sc ns => exact absurd rfl (hn ns) | _ => exact q1)
      exact ⟨_, ds.length, rfl, .inl ⟨_, SqL.of h1, h2.length.symm⟩, k _ w hs (.int _) (Evo.refl (Nat.le_refl _))⟩
    · rename_i ds q1
      split at q
      · rename_i t q2
        cases q
        have z := (rd_of_pur q2).symm.trans q1
        cases z
        obtain ⟨p, vs, rfl, h1, h2⟩ := pur_tup hs r q2
        exact ⟨_, ds.length, rfl, .inr ⟨_, h1, h2.length.symm⟩, k _ w hs (.int _) (Evo.refl (Nat.le_refl _))⟩
      · cases q
    · rename_i z q1
      split at q
      · rename_i c
        cases q
        have e := dp_str (rd_dp hs r q1)
        subst e
        exact ⟨_, z.length, rfl, ⟨le_line c, rfl⟩, k _ w hs (.int _) (Evo.refl (Nat.le_refl _))⟩
      · cases q
    · cases q
  · cases q
/-- int -/
def gInt : GC := fun _ as => match as with
  | [.pu (.int i)] => some (.int i)
  | [.pu (.bool k)] => some (.int (if k then 1 else 0))
  | _ => none
theorem o_int : OpC K (fun xs H Q => (∃ i, xs = [.int i] ∧ Q (.int i) H) ∨ ∃ k, xs = [.bl k] ∧ Q (.int (if k then 1 else 0)) H) gInt := by
  intro w σ s xs as d Q hs rx q k
  unfold gInt at q
  split at q
  · cases q
    obtain ⟨v, rfl, r⟩ := rL1 rx
    exact .inl ⟨_, by rw [Dq.int_inv r], k _ w hs (.int _) (Evo.refl (Nat.le_refl _))⟩
  · cases q
    obtain ⟨v, rfl, r⟩ := rL1 rx
    exact .inr ⟨_, by rw [Dq.bl_inv r], k _ w hs (.int _) (Evo.refl (Nat.le_refl _))⟩
  · cases q
def gAbs : GC := fun _ as => match as with
  | [.pu (.int i)] => some (.int (if i < 0 then -i else i))
  | _ => none
theorem o_abs : OpC K (fun xs H Q => ∃ i, xs = [.int i] ∧ Q (.int (if i < 0 then -i else i)) H) gAbs := by
  intro w σ s xs as d Q hs rx q k
  unfold gAbs at q
  split at q
  · cases q
    obtain ⟨v, rfl, r⟩ := rL1 rx
    exact ⟨_, by rw [Dq.int_inv r], k _ w hs (.int _) (Evo.refl (Nat.le_refl _))⟩
  · cases q
def gMax2 : GC := fun _ as => match as with
  | [.pu (.int i), .pu (.int j)] => some (.int (if j > i then j else i))
  | _ => none
theorem o_max2 : OpC K (fun xs H Q => ∃ i j, xs = [.int i, .int j] ∧ Q (.int (if j > i then j else i)) H) gMax2 := by
  intro w σ s xs as d Q hs rx q k
  unfold gMax2 at q
  split at q
  · cases q
    obtain ⟨v, u, rfl, r, r2⟩ := rL2 rx
    exact ⟨_, _, by rw [Dq.int_inv r, Dq.int_inv r2], k _ w hs (.int _) (Evo.refl (Nat.le_refl _))⟩
  · cases q
def gMin2 : GC := fun _ as => match as with
  | [.pu (.int i), .pu (.int j)] => some (.int (if j < i then j else i))
  | _ => none
theorem o_min2 : OpC K (fun xs H Q => ∃ i j, xs = [.int i, .int j] ∧ Q (.int (if j < i then j else i)) H) gMin2 := by
  intro w σ s xs as d Q hs rx q k
  unfold gMin2 at q
  split at q
  · cases q
    obtain ⟨v, u, rfl, r, r2⟩ := rL2 rx
    exact ⟨_, _, by rw [Dq.int_inv r, Dq.int_inv r2], k _ w hs (.int _) (Evo.refl (Nat.le_refl _))⟩
  · cases q
/-- all ints -/
def intsOf : List PyData → Option (List Int)
  | [] => some []
  | .int i :: r => match intsOf r with
    | some l => some (i :: l)
    | none => none
  | _ :: _ => none
theorem ints_dq {G : Hp} : ∀ {vs : List V} {ds : List PyData} {ns : List Int}, DqAll K G vs ds → intsOf ds = some ns → vs = ns.map V.int
  | _, _, ns, .nil, h => by cases h; rfl
  | _, d :: ds, ns, .cons r t, h => by
    cases d with
    | int i =>
      unfold intsOf at h
      split at h
      · rename_i l e
        cases h
        rw [List.map_cons, Dq.int_inv r, ints_dq t e]
      · cases h
    | _ => cases h
theorem intsOf_map : ∀ ns : List Int, intsOf (ns.map PyData.int) = some ns
  | [] => rfl
  | n :: ns => by rw [List.map_cons, intsOf, intsOf_map ns]
def gSum : GC := fun st as => match as with
  | [x] => match rdl st x with
    | some (.list ds) => match intsOf ds with
      | some ns => some (.int ns.sum)
      | none => none
    | _ => none
  | _ => none
theorem o_sum : OpC K (rSum K) gSum := by
  intro w σ s xs as d Q hs rx q k
  unfold gSum at q
  split at q
  · obtain ⟨v, rfl, r⟩ := rL1 rx
    split at q
    · rename_i ds q1
      split at q
      · rename_i ns q2
        cases q
        obtain ⟨p, vs, rfl, h1, h2⟩ := rdl_lst hs r q1
        have e := ints_dq h2 q2
        subst e
        exact ⟨p, ns, rfl, SqL.of h1, k _ w hs (.int _) (Evo.refl (Nat.le_refl _))⟩
      · cases q
    · cases q
  · cases q
/-- list(x), tuple(x) -/
def gListOf : GC := fun st as => match as with
  | [x] => match rdl st x with
    | some (.list ds) => some (.list ds)
    | some (.tuple ds) => match pur st x with
      | some _ => some (.list ds)
      | none => none
    | _ => none
  | _ => none
theorem o_listOf : OpC K (fun xs H Q => ∃ p ys, xs = [.ref p] ∧ (SqL K H p ys ∨ SqT K H p ys) ∧ ∀ l, H l = none → Q (.ref l) (upd H l (.lst ys))) gListOf := by
  intro w σ s xs as d Q hs rx q k
  unfold gListOf at q
  split at q
  · obtain ⟨v, rfl, r⟩ := rL1 rx
    split at q
    · rename_i ds q1
      cases q
      obtain ⟨p, vs, rfl, h1, h2⟩ := rdl_lst hs r q1
      refine ⟨p, vs, rfl, .inl (SqL.of h1), fun l hl => ?_⟩
      obtain ⟨w2, e, hs2, r2, e2⟩ := new_lst hs hl h2
      rw [← e]
      exact k _ w2 hs2 r2 e2
    · rename_i ds q1
      split at q
      · rename_i t q2
        cases q
        have z := (rd_of_pur q2).symm.trans (rdl_rd q1)
        cases z
        obtain ⟨p, vs, rfl, h1, h2⟩ := pur_tup hs r q2
        refine ⟨p, vs, rfl, .inr h1, fun l hl => ?_⟩
        obtain ⟨w2, e, hs2, r2, e2⟩ := new_lst hs hl h2
        rw [← e]
        exact k _ w2 hs2 r2 e2
      · cases q
    · cases q
  · cases q
def gTupOf : GC := fun st as => match as with
  | [x] => match rdl st x with
    | some (.list ds) => some (.tuple ds)
    | some (.tuple ds) => match pur st x with
      | some _ => some (.tuple ds)
      | none => none
    | _ => none
  | _ => none
theorem o_tupOf : OpC K (fun xs H Q => ∃ p ys, xs = [.ref p] ∧ ((SqL K H p ys ∧ ∀ l, H l = none → Q (.ref l) (upd H l (.tup ys))) ∨ (SqT K H p ys ∧ Q (.ref p) H))) gTupOf := by
  intro w σ s xs as d Q hs rx q k
  unfold gTupOf at q
  split at q
  · obtain ⟨v, rfl, r⟩ := rL1 rx
    split at q
    · rename_i ds q1
      cases q
      obtain ⟨p, vs, rfl, h1, h2⟩ := rdl_lst hs r q1
      refine ⟨p, vs, rfl, .inl ⟨SqL.of h1, fun l hl => ?_⟩⟩
      obtain ⟨w2, e, hs2, r2, e2⟩ := new_tup hs hl h2
      rw [← e]
      exact k _ w2 hs2 r2 e2
    · rename_i ds q1
      split at q
      · rename_i t q2
        cases q
        have z := (rd_of_pur q2).symm.trans (rdl_rd q1)
        cases z
        have d1 := pur_dp hs r q2
        obtain ⟨p, vs, rfl, h1, h2⟩ := pur_tup hs r q2
        exact ⟨p, vs, rfl, .inr ⟨h1, k _ w hs d1 (Evo.refl (Nat.le_refl _))⟩⟩
      · cases q
    · cases q
  · cases q

/-! ### isinstance(x, T), T a built-in type -/
def tyN (st : List MO) (x : SV) : Option String := match rdl st x with
  | some .none => some "NoneType"
  | some (.bool _) => some "bool"
  | some (.int _) => some "int"
  | some (.str _) => some "str"
  | some (.list _) => some "list"
  | some (.tuple _) => match pur st x with
    | some _ => some "tuple"
    | none => none
  | _ => none
theorem tyN_x {w : Wd} {σ : Sg} {s : S} {v : V} {x : SV} {t : String} (hs : Stt K w σ s) (r : SvRep K w v x) (h : tyN s.st x = some t) : TyX K w.H v (.type t) := by
  unfold tyN at h
  split at h
  · rename_i q; cases h
    have e := rd_dp hs r (rdl_rd q); cases e; exact .base .non
  · rename_i q; cases h
    have e := rd_dp hs r (rdl_rd q); cases e; exact .base (.bl _)
  · rename_i q; cases h
    have e := rd_dp hs r (rdl_rd q); cases e; exact .base (.int _)
  · rename_i q; cases h
    have e := rd_dp hs r (rdl_rd q); cases e; exact .base (.str _)
  · rename_i q; cases h
    obtain ⟨p, vs, rfl, h1, h2⟩ := rdl_lst hs r q
    exact .base (.lst h1)
  · rename_i q
    split at h
    · rename_i d q2
      cases h
      have z := (rd_of_pur q2).symm.trans (rdl_rd q)
      cases z
      obtain ⟨p, vs, rfl, h1, h2⟩ := pur_tup hs r q2
      rcases h1 with (h1 | ⟨o, h1⟩) | ⟨o, its, n, h1, h3, _⟩
      · exact .base (.tup h1)
      · exact .fTuple h1
      · exact .kTuple h1 h3
    · cases h
  · cases h
end
end
end Lw
/-! Lw4: the store's moves; statements. -/
namespace Lw
open PySem PySem.Spec PyProof.Rows L2
noncomputable section

def setG (g : Gh) (i : Nat) (x : Addr × List Addr) : Gh := fun j => if j = i then x else g j
theorem setG_same {g : Gh} {i : Nat} {x : Addr × List Addr} : setG g i x i = x := if_pos rfl
theorem setG_ne {g : Gh} {i j : Nat} {x : Addr × List Addr} (h : j ≠ i) : setG g i x j = g j := if_neg h

section
variable {K : PySem.W.Frag} {w : Wd} {σ : Sg} {s : S}
theorem Stt.foot (hs : Stt K w σ s) {i : Nat} (hi : i < w.st.length) : ∀ b ∈ (w.g i).2, w.G b = none ∧ ∃ u, w.H b = some u ∧ Mut (some u) :=
  (hs.sto.ob i _ (List.getElem?_eq_getElem hi)).foot
/-- the old slots at a world in which the frozen part has grown and the objects they name stand where they stood -/
theorem slots_at {w' : Wd} (hs : Stt K w σ s) (g : Same w.G w'.G) (h : ∀ (i x : Nat), s.sl[i]? = some (some (SV.rf x)) → x < w'.st.length ∧ (w'.g x).1 = (w.g x).1) :
    ∀ (i : Nat) (x : SV), s.sl[i]? = some (some x) → ∃ v : V, σ[i]? = some (some v) ∧ SvRep K w' v x := fun i x e => by
  obtain ⟨v, h1, h2⟩ := hs.sl i x e
  refine ⟨v, h1, ?_⟩
  cases x with
  | pu d => exact Dq.grow g h2
  | sc ns => obtain ⟨a, h3, h4⟩ := h2; exact ⟨a, h3, g.seq h4⟩
  | rf j =>
    obtain ⟨h3, h4⟩ := h i j e
    exact ⟨h3, by rw [h4]; exact h2.2⟩
theorem Stt.lt (hs : Stt K w σ s) {i x : Nat} (e : s.sl[i]? = some (some (SV.rf x))) : x < w.st.length := by
  obtain ⟨v, _, h2⟩ := hs.sl i _ e
  exact h2.1

/-! ### a new object at the store's end -/
/-- o lies at p in H', which is H but for p; p is new -/
theorem tmp_add {p : Addr} {H' : Hp} {o : MO} (hs : Stt K w σ s) (hp : w.H p = none) (hH : ∀ b, b ≠ p → H' b = w.H b) (hn : H' p ≠ none) (ho : ObRep K w.G H' p o [p]) :
    Stt K ⟨w.G, H', setG w.g w.st.length (p, [p]), w.st ++ [o], w.b⟩ σ { s with st := s.st ++ [o] } ∧ Evo w.st.length w ⟨w.G, H', setG w.g w.st.length (p, [p]), w.st ++ [o], w.b⟩ ∧
      SvRep K ⟨w.G, H', setG w.g w.st.length (p, [p]), w.st ++ [o], w.b⟩ (.ref p) (.rf w.st.length) := by
  have nf : ∀ i, i < w.st.length → p ∉ (w.g i).2 := fun i hi hb => by
    obtain ⟨_, u', e, _⟩ := hs.foot hi p hb
    rw [hp] at e; cases e
  have gp : w.G p = none := hs.sto.sub.free hp
  have ne : ∀ b u, w.H b = some u → b ≠ p := fun b u e z => by rw [z, hp] at e; cases e
  have old : ∀ i, i < w.st.length → setG w.g w.st.length (p, [p]) i = w.g i := fun i hi => setG_ne (Nat.ne_of_lt hi)
  have sub : Same w.G H' := fun b u e => (hH b (fun z => by rw [z, gp] at e; cases e)).trans (hs.sto.sub b u e)
  refine ⟨⟨⟨sub, fun i u e => ?_, fun i j hij hi hj b hb hb' => ?_⟩, ?_, hs.len, ?_, ?_, hs.be⟩, ⟨Same.refl _, fun b u e _ => (hH b (ne b u e)).trans e, fun b e => ?_, fun b u e => .inl e, fun b hb => ?_, fun i hi => congrArg Prod.fst (old i hi), ⟨Nat.le_refl _, by simp⟩, rfl⟩, by simp, ?_⟩
  · show ObRep K w.G H' (setG w.g w.st.length (p, [p]) i).1 u (setG w.g w.st.length (p, [p]) i).2
    by_cases hi : i < w.st.length
    · have e' : w.st[i]? = some u := by rw [← e]; exact (List.getElem?_append_left hi).symm
      rw [old i hi]
      exact (hs.sto.ob i u e').stay (Same.refl _) (fun b hb => hH b fun z => nf i hi (z ▸ hb)) fun b hb => (hs.foot hi b hb).1
    · have hi2 : i = w.st.length := by
        have := (List.getElem?_eq_some_iff.mp e).1
        simp at this
        omega
      subst hi2
      have e' : some o = some u := by rw [← e]; simp
      cases e'
      rw [setG_same]
      exact ho
  · have hi : i < w.st.length + 1 := by simpa using hi
    have hj : j < w.st.length + 1 := by simpa using hj
    have hb : b ∈ (setG w.g w.st.length (p, [p]) i).2 := hb
    have hb' : b ∈ (setG w.g w.st.length (p, [p]) j).2 := hb'
    by_cases h1 : i < w.st.length
    · rw [old i h1] at hb
      by_cases h2 : j < w.st.length
      · rw [old j h2] at hb'
        exact hs.sto.dj i j hij h1 h2 b hb hb'
      · have : j = w.st.length := by omega
        subst this
        rw [setG_same] at hb'
        rw [List.mem_singleton.mp hb'] at hb
        exact nf i h1 hb
    · have : i = w.st.length := by omega
      subst this
      have h2 : j < w.st.length := by omega
      rw [setG_same] at hb
      rw [old j h2] at hb'
      rw [List.mem_singleton.mp hb] at hb'
      exact nf j h2 hb'
  · show s.st ++ [o] = w.st ++ [o]
    rw [hs.st]
  · exact slots_at (w := w) (s := s) hs (Same.refl _) fun i x e => ⟨by have := hs.lt e; simp; omega, by show (setG w.g w.st.length (p, [p]) x).1 = _; rw [old x (hs.lt e)]⟩
  · show s.base ≤ (w.st ++ [o]).length
    have := hs.bs
    simp; omega
  · show w.H b = none
    cases z : w.H b with
    | none => rfl
    | some u =>
      have := (hH b (ne b u z)).symm.trans e
      rw [z] at this; cases this
  · obtain ⟨i, hi, hb⟩ := hb
    have hi : i < w.st.length + 1 := by simpa using hi
    have hb : b ∈ (setG w.g w.st.length (p, [p]) i).2 := hb
    by_cases h1 : i < w.st.length
    · rw [old i h1] at hb
      exact .inl ⟨i, h1, hb⟩
    · have : i = w.st.length := by omega
      subst this
      rw [setG_same] at hb
      rw [List.mem_singleton.mp hb]
      exact .inr hp
  · show V.ref p = .ref (setG w.g w.st.length (p, [p]) w.st.length).1
    rw [setG_same]

/-! ### an object is written -/
theorem mut_at {j : Nat} {a : Addr} {o o' : MO} {H' : Hp} (hs : Stt K w σ s) (hj : w.st[j]? = some o) (ha : (w.g j).1 = a) (hf : a ∈ (w.g j).2) (hH : ∀ b, b ≠ a → H' b = w.H b) (hn : H' a ≠ none)
    (ho : ObRep K w.G H' a o' (w.g j).2) :
    Stt K ⟨w.G, H', w.g, w.st.set j o', w.b⟩ σ { s with st := s.st.set j o' } ∧ Evo w.st.length w ⟨w.G, H', w.g, w.st.set j o', w.b⟩ := by
  have hjl : j < w.st.length := (List.getElem?_eq_some_iff.mp hj).1
  have nf : ∀ i, i < w.st.length → i ≠ j → a ∉ (w.g i).2 := fun i hi ne hb => hs.sto.dj i j ne hi hjl a hb hf
  have ga : w.G a = none := (hs.foot hjl a hf).1
  obtain ⟨_, ua, hua, _⟩ := hs.foot hjl a hf
  have sub : Same w.G H' := fun b u e => (hH b (fun z => by rw [z, ga] at e; cases e)).trans (hs.sto.sub b u e)
  refine ⟨⟨⟨sub, fun i u e => ?_, fun i k hik hi hk => ?_⟩, ?_, hs.len, ?_, ?_, hs.be⟩, ⟨Same.refl _, fun b u e n => (hH b fun z => n (z ▸ ⟨j, hjl, hf⟩)).trans e, fun b e => ?_, fun b u e => .inl e, fun b hb => ?_, fun i hi => rfl, ⟨Nat.le_refl _, by simp⟩, rfl⟩⟩
  · show ObRep K w.G H' (w.g i).1 u (w.g i).2
    by_cases hij : i = j
    · subst hij
      have e' : some o' = some u := by rw [← e]; exact (List.getElem?_set_self hjl).symm
      cases e'
      rw [ha]
      exact ho
    · have e' : w.st[i]? = some u := by rw [← e]; exact (List.getElem?_set_ne (Ne.symm hij)).symm
      have hi := (List.getElem?_eq_some_iff.mp e').1
      exact (hs.sto.ob i u e').stay (Same.refl _) (fun b hb => hH b fun z => nf i hi hij (z ▸ hb)) fun b hb => (hs.foot hi b hb).1
  · exact hs.sto.dj i k hik (by simpa using hi) (by simpa using hk)
  · show s.st.set j o' = w.st.set j o'
    rw [hs.st]
  · exact slots_at (w := w) (s := s) hs (Same.refl _) fun i x e => ⟨by have := hs.lt e; simpa using this, rfl⟩
  · show s.base ≤ (w.st.set j o').length
    have := hs.bs
    simpa using this
  · show w.H b = none
    by_cases z : b = a
    · subst z; exact absurd e hn
    · exact (hH b z).symm.trans e
  · obtain ⟨i, hi, hb⟩ := hb
    exact .inl ⟨i, by simpa using hi, hb⟩

/-! ### a list is frozen -/
theorem frz_at {j : Nat} {ds : List PyData} (hs : Stt K w σ s) (hj : w.st[j]? = some (.lst ds)) :
    ∃ w', w'.H = w.H ∧ Stt K w' σ { s with st := s.st.set j (.fz (.list ds)) } ∧ Evo w.st.length w w' ∧ Dq K w'.G (.ref (w.g j).1) (.list ds) := by
  have hjl : j < w.st.length := (List.getElem?_eq_some_iff.mp hj).1
  have ob := hs.sto.ob j _ hj
  obtain ⟨a, fp, ea⟩ : ∃ a fp, w.g j = (a, fp) := ⟨_, _, rfl⟩
  rw [ea] at ob
  dsimp only at ob
  cases ob with
  | lst ga hh t =>
    rename_i vs
    have hf : a ∈ (w.g j).2 := by rw [ea]; simp
    have nf : ∀ i, i < w.st.length → i ≠ j → a ∉ (w.g i).2 := fun i hi ne hb => hs.sto.dj i j ne hi hjl a hb hf
    have sG : Same w.G (upd w.G a (.lst vs)) := fun b u e => by rw [upd_ne (fun z => by rw [z, ga] at e; cases e)]; exact e
    have old : ∀ i, i ≠ j → setG w.g j (a, []) i = w.g i := fun i hi => setG_ne hi
    have hd : Dq K (upd w.G a (.lst vs)) (.ref a) (.list ds) := .lst upd_same (DqAll.grow sG t)
    refine ⟨⟨upd w.G a (.lst vs), w.H, setG w.g j (a, []), w.st.set j (.fz (.list ds)), w.b⟩, rfl, ⟨⟨fun b u e => ?_, fun i u e => ?_, fun i k hik hi hk b hb hb' => ?_⟩, ?_, hs.len, ?_, ?_, hs.be⟩, ⟨sG, fun b u e _ => e, fun b e => e, fun b u e => ?_, fun b hb => ?_, fun i hi => ?_, ⟨Nat.le_refl _, by simp⟩, rfl⟩, ?_⟩
    · by_cases z : b = a
      · subst z
        have e' : upd w.G b (.lst vs) b = some u := e
        rw [upd_same] at e'; cases e'
        exact hh
      · have e' : upd w.G a (.lst vs) b = some u := e
        rw [upd_ne z] at e'
        exact hs.sto.sub b u e'
    · show ObRep K (upd w.G a (.lst vs)) w.H (setG w.g j (a, []) i).1 u (setG w.g j (a, []) i).2
      by_cases hij : i = j
      · subst hij
        have e' : some (MO.fz (.list ds)) = some u := by rw [← e]; exact (List.getElem?_set_self hjl).symm
        cases e'
        rw [setG_same]
        exact .fz hd
      · have e' : w.st[i]? = some u := by rw [← e]; exact (List.getElem?_set_ne (Ne.symm hij)).symm
        have hi := (List.getElem?_eq_some_iff.mp e').1
        rw [old i hij]
        refine (hs.sto.ob i u e').stay sG (fun b hb => rfl) fun b hb => ?_
        have nb : b ≠ a := fun z => nf i hi hij (by rw [← z]; exact hb)
        show upd w.G a (.lst vs) b = none
        rw [upd_ne nb]
        exact (hs.foot hi b hb).1
    · have hi : i < w.st.length := by simpa using hi
      have hk : k < w.st.length := by simpa using hk
      have hb : b ∈ (setG w.g j (a, []) i).2 := hb
      have hb' : b ∈ (setG w.g j (a, []) k).2 := hb'
      by_cases h1 : i = j
      · subst h1; rw [setG_same] at hb; cases hb
      · by_cases h2 : k = j
        · subst h2; rw [setG_same] at hb'; cases hb'
        · rw [old i h1] at hb
          rw [old k h2] at hb'
          exact hs.sto.dj i k hik hi hk b hb hb'
    · show s.st.set j _ = w.st.set j _
      rw [hs.st]
    · refine slots_at (w := w) (s := s) hs sG fun i x e => ⟨by have := hs.lt e; simpa using this, ?_⟩
      show (setG w.g j (a, []) x).1 = (w.g x).1
      by_cases z : x = j
      · subst z; rw [setG_same, ea]
      · rw [old x z]
    · show s.base ≤ (w.st.set j _).length
      have := hs.bs
      simpa using this
    · by_cases z : b = a
      · exact .inr (.inr (z ▸ ⟨j, hjl, hf⟩))
      · have e' : upd w.G a (.lst vs) b = some u := e
        rw [upd_ne z] at e'
        exact .inl e'
    · obtain ⟨i, hi, hb⟩ := hb
      have hi : i < w.st.length := by simpa using hi
      have hb : b ∈ (setG w.g j (a, []) i).2 := hb
      by_cases h1 : i = j
      · subst h1; rw [setG_same] at hb; cases hb
      · rw [old i h1] at hb
        exact .inl ⟨i, hi, hb⟩
    · show (setG w.g j (a, []) i).1 = (w.g i).1
      by_cases z : i = j
      · subst z; rw [setG_same, ea]
      · rw [old i z]
    · rw [ea]
      exact hd

/-! ### the end of the store is let go -/
theorem trim_at {lim : Nat} (hs : Stt K w σ s) (hb : s.base ≤ lim) (hl : lim ≤ w.st.length) (h : ∀ (i x : Nat), s.sl[i]? = some (some (SV.rf x)) → x < lim) :
    Stt K ⟨w.G, w.H, w.g, w.st.take lim, w.b⟩ σ { s with st := s.st.take lim } ∧ Evo lim w ⟨w.G, w.H, w.g, w.st.take lim, w.b⟩ := by
  have hlen : (w.st.take lim).length = lim := by rw [List.length_take]; omega
  refine ⟨⟨⟨hs.sto.sub, fun i u e => ?_, fun i k hik hi hk => ?_⟩, ?_, hs.len, ?_, ?_, hs.be⟩, ⟨Same.refl _, fun b u e _ => e, fun b e => e, fun b u e => .inl e, fun b hb => ?_, fun i hi => rfl, ⟨hl, ?_⟩, rfl⟩⟩
  · have e' : w.st[i]? = some u := by
      have hi := (List.getElem?_eq_some_iff.mp e).1
      rw [← e]
      show w.st[i]? = (w.st.take lim)[i]?
      rw [List.getElem?_take_of_lt (by have := hlen ▸ hi; exact this)]
    exact hs.sto.ob i u e'
  · have hi : i < (w.st.take lim).length := hi
    have hk : k < (w.st.take lim).length := hk
    exact hs.sto.dj i k hik (by omega) (by omega)
  · show s.st.take lim = w.st.take lim
    rw [hs.st]
  · exact slots_at (w := w) (s := s) hs (Same.refl _) fun i x e => ⟨by show x < (w.st.take lim).length; rw [hlen]; exact h i x e, rfl⟩
  · show s.base ≤ (w.st.take lim).length
    rw [hlen]; exact hb
  · obtain ⟨i, hi, hb⟩ := hb
    have hi : i < (w.st.take lim).length := hi
    exact .inl ⟨i, by omega, hb⟩
  · show lim ≤ (w.st.take lim).length
    rw [hlen]; exact Nat.le_refl _

/-! ### an object moves to another place -/
theorem move_at {j k : Nat} {o : MO} (hs : Stt K w σ s) (hk : w.st[k]? = some o) (hj : j < w.st.length) (hjk : j ≠ k) (hb : s.base ≤ j) (hkb : s.base ≤ k) (h : ∀ (i : Nat), s.sl[i]? ≠ some (some (SV.rf j)) ∧ s.sl[i]? ≠ some (some (SV.rf k))) :
    ∃ w', w'.H = w.H ∧ Stt K w' σ { s with st := (s.st.set j o).set k .gone } ∧ Evo s.base w w' ∧ (w'.g j).1 = (w.g k).1 ∧ w'.st.length = w.st.length ∧ ∀ i, i ≠ j → i ≠ k → w'.g i = w.g i := by
  have hkl : k < w.st.length := (List.getElem?_eq_some_iff.mp hk).1
  obtain ⟨a, fp, ea⟩ : ∃ a fp, w.g k = (a, fp) := ⟨_, _, rfl⟩
  have ob := hs.sto.ob k _ hk
  have gj : setG (setG w.g j (a, fp)) k (a, []) j = (a, fp) := by rw [setG_ne hjk, setG_same]
  have gk : setG (setG w.g j (a, fp)) k (a, []) k = (a, []) := setG_same
  have old : ∀ i, i ≠ j → i ≠ k → setG (setG w.g j (a, fp)) k (a, []) i = w.g i := fun i h1 h2 => by rw [setG_ne h2, setG_ne h1]
  have mem : ∀ i, i < w.st.length → ∀ b ∈ (setG (setG w.g j (a, fp)) k (a, []) i).2, (i ≠ j ∧ i ≠ k ∧ b ∈ (w.g i).2) ∨ (i = j ∧ b ∈ (w.g k).2) := fun i hi b hb => by
    by_cases h2 : i = k
    · subst h2; rw [gk] at hb; cases hb
    · by_cases h1 : i = j
      · subst h1; rw [gj] at hb; exact .inr ⟨rfl, by rw [ea]; exact hb⟩
      · rw [old i h1 h2] at hb; exact .inl ⟨h1, h2, hb⟩
  refine ⟨⟨w.G, w.H, setG (setG w.g j (a, fp)) k (a, []), (w.st.set j o).set k .gone, w.b⟩, rfl, ⟨⟨hs.sto.sub, fun i u e => ?_, fun i l hil hi hl b hb hb' => ?_⟩, ?_, hs.len, ?_, ?_, hs.be⟩, ⟨Same.refl _, fun b u e _ => e, fun b e => e, fun b u e => .inl e, fun b hb => ?_, fun i hi => ?_, ⟨hs.bs, ?_⟩, rfl⟩, ?_, by simp, old⟩
  · show ObRep K w.G w.H (setG (setG w.g j (a, fp)) k (a, []) i).1 u (setG (setG w.g j (a, fp)) k (a, []) i).2
    by_cases h2 : i = k
    · subst h2
      have e' : some MO.gone = some u := by rw [← e]; exact (List.getElem?_set_self (by simpa using hkl)).symm
      cases e'
      rw [gk]
      exact .gone
    · by_cases h1 : i = j
      · subst h1
        have e' : some o = some u := by
          rw [← e]
          show some o = ((w.st.set i o).set k .gone)[i]?
          rw [List.getElem?_set_ne (Ne.symm h2), List.getElem?_set_self hj]
        cases e'
        rw [gj, ← ea]
        exact ob
      · have e' : w.st[i]? = some u := by
          rw [← e]
          show w.st[i]? = ((w.st.set j o).set k .gone)[i]?
          rw [List.getElem?_set_ne (Ne.symm h2), List.getElem?_set_ne (Ne.symm h1)]
        rw [old i h1 h2]
        exact hs.sto.ob i u e'
  · have hi : i < w.st.length := by simpa using hi
    have hl : l < w.st.length := by simpa using hl
    rcases mem i hi b hb with ⟨h1, h2, h3⟩ | ⟨h1, h3⟩
    · rcases mem l hl b hb' with ⟨h4, h5, h6⟩ | ⟨h4, h6⟩
      · exact hs.sto.dj i l hil hi hl b h3 h6
      · exact hs.sto.dj i k h2 hi hkl b h3 h6
    · rcases mem l hl b hb' with ⟨h4, h5, h6⟩ | ⟨h4, h6⟩
      · exact hs.sto.dj l k h5 hl hkl b h6 h3
      · exact hil (h1.trans h4.symm)
  · show (s.st.set j o).set k .gone = (w.st.set j o).set k .gone
    rw [hs.st]
  · refine slots_at (w := w) (s := s) hs (Same.refl _) fun i x e => ⟨by have := hs.lt e; simpa using this, ?_⟩
    show (setG (setG w.g j (a, fp)) k (a, []) x).1 = (w.g x).1
    rw [old x (fun z => (h i).1 (z ▸ e)) fun z => (h i).2 (z ▸ e)]
  · show s.base ≤ ((w.st.set j o).set k .gone).length
    have := hs.bs
    simpa using this
  · obtain ⟨i, hi, hb⟩ := hb
    have hi : i < w.st.length := by simpa using hi
    rcases mem i hi b hb with ⟨h1, h2, h3⟩ | ⟨h1, h3⟩
    · exact .inl ⟨i, hi, h3⟩
    · exact .inl ⟨k, hkl, h3⟩
  · show (setG (setG w.g j (a, fp)) k (a, []) i).1 = (w.g i).1
    rw [old i (by omega) (by omega)]
  · show s.base ≤ ((w.st.set j o).set k .gone).length
    have := hs.bs
    simpa using this
  · show (setG (setG w.g j (a, fp)) k (a, []) j).1 = (w.g k).1
    rw [gj, ea]
/-- a slot is set -/
theorem slot_set {i : Nat} {v : V} {x : SV} (hs : Stt K w σ s) (r : SvRep K w v x) : Stt K w (σ.set i (some v)) { s with sl := s.sl.set i (some x) } := by
  refine ⟨hs.sto, hs.st, by simp [hs.len], fun j y e => ?_, hs.bs, hs.be⟩
  by_cases hj : j = i
  · subst hj
    have e1 : (s.sl.set j (some x))[j]? = some (some y) := e
    have hl : j < s.sl.length := by
      have := (List.getElem?_eq_some_iff.mp e1).1
      simpa using this
    rw [List.getElem?_set_self hl] at e1
    cases e1
    exact ⟨v, List.getElem?_set_self (by rw [← hs.len]; exact hl), r⟩
  · have e1 : (s.sl.set i (some x))[j]? = some (some y) := e
    rw [List.getElem?_set_ne (Ne.symm hj)] at e1
    rw [List.getElem?_set_ne (Ne.symm hj)]
    exact hs.sl j y e1
end
end
end Lw
/-! Lw5: statements. -/
namespace Lw
open PySem PySem.Spec PyProof.Rows L2
noncomputable section

def noRf (j : Nat) (l : List (Option SV)) : Bool := l.all fun o => match o with
  | some (.rf k) => k != j
  | _ => true
def belowRf (lim : Nat) (l : List (Option SV)) : Bool := l.all fun o => match o with
  | some (.rf k) => decide (k < lim)
  | _ => true
theorem noRf_spec {j : Nat} {l : List (Option SV)} (h : noRf j l = true) (i : Nat) : l[i]? ≠ some (some (SV.rf j)) := fun e => by
  have := List.all_eq_true.mp h _ (List.mem_of_getElem? e)
  simp at this
theorem belowRf_spec {lim : Nat} {l : List (Option SV)} (h : belowRf lim l = true) {i x : Nat} (e : l[i]? = some (some (SV.rf x))) : x < lim := by
  have := List.all_eq_true.mp h _ (List.mem_of_getElem? e)
  simpa using this
/-- a value goes into slot i; an object that has no place yet goes into the slot's own place -/
def sStore (i : Nat) (x : SV) (s : S) : Option S := match x with
  | .rf k => if k < s.base + s.sl.length then some { s with sl := s.sl.set i (some (.rf k)) }
    else match s.st[k]? with
      | some o => if s.base + i < s.st.length ∧ s.base + i < k ∧ noRf (s.base + i) (s.sl.set i none) = true ∧ noRf k s.sl = true
          then some { s with sl := s.sl.set i (some (.rf (s.base + i))), st := (s.st.set (s.base + i) o).set k .gone } else none
      | none => none
  | x => some { s with sl := s.sl.set i (some x) }
def Res.stm {α : Type} (r : Res α) (f : α → S → Out) : Out := match r with
  | .no => .no
  | .ok a s => f a s
  | .ex c d s => .ex c d s
def liftO (o : Option S) : Out := match o with
  | some s => .nx s
  | none => .no
def sSet (i : Nat) (a : S → Res SV) : S → Out := fun s => (a s).stm fun x s1 => liftO (sStore i x s1)
def sDrop (a : S → Res SV) : S → Out := fun s => (a s).stm fun _ s1 => .nx s1
def sRet (a : S → Res SV) : S → Out := fun s => (a s).stm fun x s1 => .rt x s1
def sSeq (a b : S → Out) : S → Out := fun s => match a s with
  | .nx s1 => b s1
  | o => o
def sIf (c : S → Res Bool) (a b : S → Out) : S → Out := fun s => (c s).stm fun x s1 => if x = true then a s1 else b s1
def sPass : S → Out := fun s => .nx s
def sBrk : S → Out := fun s => .bk s
def sCont : S → Out := fun s => .ct s
def trimO : Out → Out
  | .nx s => if s.base + s.sl.length ≤ s.st.length ∧ belowRf (s.base + s.sl.length) s.sl = true then .nx { s with st := s.st.take (s.base + s.sl.length) } else .no
  | o => o
def sTrim (a : S → Out) : S → Out := fun s => trimO (a s)
def sAug (i : Nat) (g : G2) (a : S → Res SV) : S → Out := fun s => match s.sl[i]? with
  | some (some x) => (a s).stm fun y s1 => match g s1.st x y with
      | some d => .nx { s1 with sl := s1.sl.set i (some (.pu d)) }
      | none => .no
  | _ => .no
/-- two values are stored, one after the other -/
def parRes (i j : Nat) (xs : List SV) (s1 : S) : Out := match xs with
  | [x, .pu y] => (match sStore i x s1 with
    | some s2 => .nx { s2 with sl := s2.sl.set j (some (.pu y)) }
    | none => .no)
  | [.pu x, y] => (match sStore j y { s1 with sl := s1.sl.set i (some (.pu x)) } with
    | some s2 => .nx s2
    | none => .no)
  | [.rf k, .rf k'] => if k' ≠ s1.base + i ∧ k ≠ k' then (match sStore i (.rf k) s1 with
    | some s2 => liftO (sStore j (.rf k') s2)
    | none => .no) else .no
  | _ => .no
def sPar2 (i j : Nat) (a : S → Res (List SV)) : S → Out := fun s => (a s).stm fun xs s1 => parRes i j xs s1
def sPar3 (i j l : Nat) (a : S → Res (List SV)) : S → Out := fun s => (a s).stm fun xs s1 => match xs with
  | [.pu x, .pu y, .pu z] => .nx { s1 with sl := ((s1.sl.set i (some (.pu x))).set j (some (.pu y))).set l (some (.pu z)) }
  | _ => .no

section
variable {K : PySem.W.Frag} {W : WX} {w w1 : Wd} {σ : Sg} {s s' : S}
theorem store_to {i : Nat} {v : V} {x : SV} (hs : Stt K w σ s) (r : SvRep K w v x) (h : sStore i x s = some s') :
    ∃ w', w'.H = w.H ∧ Stt K w' (σ.set i (some v)) s' ∧ Evo s.base w w' ∧ s'.base = s.base ∧ ∀ u y, SvRep K w u y → y ≠ .rf (s.base + i) → y ≠ x → SvRep K w' u y := by
  have refl : Evo s.base w w := Evo.refl hs.bs
  unfold sStore at h
  split at h
  · rename_i k
    split at h
    · cases h
      exact ⟨w, rfl, slot_set hs r, refl, rfl, fun _ _ q _ _ => q⟩
    · split at h
      · rename_i o q
        split at h
        · rename_i c
          cases h
          obtain ⟨c1, c2, c3, c4⟩ := c
          have hs0 : Stt K w (σ.set i (some v)) { s with sl := s.sl.set i none } := by
            refine ⟨hs.sto, hs.st, by simp [hs.len], fun j y e => ?_, hs.bs, hs.be⟩
            by_cases hj : j = i
            · subst hj
              have e1 : (s.sl.set j none)[j]? = some (some y) := e
              have hl : j < s.sl.length := by
                have := (List.getElem?_eq_some_iff.mp e1).1
                simpa using this
              rw [List.getElem?_set_self hl] at e1
              cases e1
            · have e1 : (s.sl.set i none)[j]? = some (some y) := e
              rw [List.getElem?_set_ne (Ne.symm hj)] at e1
              rw [List.getElem?_set_ne (Ne.symm hj)]
              exact hs.sl j y e1
          have q' : w.st[k]? = some o := by rw [← hs.st]; exact q
          obtain ⟨w', h1, h2, h3, h4, h5, h6⟩ := move_at (j := s.base + i) hs0 q' (by rw [← hs.st]; exact c1) (Nat.ne_of_lt c2) (Nat.le_add_right _ _) (Nat.le_of_lt (Nat.lt_of_le_of_lt (Nat.le_add_right _ _) c2)) fun j => ⟨noRf_spec c3 j, fun e => by
            by_cases hj : j = i
            · subst hj
              have e1 : (s.sl.set j none)[j]? = some (some (SV.rf k)) := e
              have hl : j < s.sl.length := by
                have := (List.getElem?_eq_some_iff.mp e1).1
                simpa using this
              rw [List.getElem?_set_self hl] at e1
              cases e1
            · have e1 : (s.sl.set i none)[j]? = some (some (SV.rf k)) := e
              rw [List.getElem?_set_ne (Ne.symm hj)] at e1
              exact noRf_spec c4 j e1⟩
          have r' : SvRep K w' v (.rf (s.base + i)) := ⟨by rw [h5, ← hs.st]; exact c1, by rw [h4]; exact r.2⟩
          have := slot_set (i := i) h2 r'
          have e1 : (s.sl.set i none).set i (some (SV.rf (s.base + i))) = s.sl.set i (some (SV.rf (s.base + i))) := List.set_set _
          have e2 : (σ.set i (some v)).set i (some v) = σ.set i (some v) := List.set_set _
          rw [e2] at this
          refine ⟨w', h1, ?_, h3, rfl, fun u y q1 q2 q3 => ?_⟩
          · have t := this
            dsimp only at t
            rw [e1] at t
            exact t
          · cases y with
            | pu d => exact Dq.grow h3.g q1
            | sc ns => obtain ⟨a, z1, z2⟩ := q1; exact ⟨a, z1, h3.g.seq z2⟩
            | rf y =>
              refine ⟨by rw [h5]; exact q1.1, ?_⟩
              rw [h6 y (fun z => q2 (by rw [z])) (fun z => q3 (by rw [z]))]
              exact q1.2
        · cases h
      · cases h
  · cases h
    exact ⟨w, rfl, slot_set hs r, refl, rfl, fun _ _ q _ _ => q⟩
theorem SOut.from {b : Nat} {D : Ends} {r : Out} (h : SOut K W w b D r) (e : Evo b w w1) : SOut K W w1 b D r := by
  cases r with
  | no => exact h
  | nx s' => exact fun σ' w' t e' => h σ' w' t (e.trans e')
  | bk s' => exact fun σ' w' t e' => h σ' w' t (e.trans e')
  | ct s' => exact fun σ' w' t e' => h σ' w' t (e.trans e')
  | rt x s' => exact fun v σ' w' t r e' => h v σ' w' t r (e.trans e')
  | ex c d s' => exact fun cls dd σ' w' t r e' => h cls dd σ' w' t r (e.trans e')
theorem Stt.base_eq {k : Nat} {σ' : Sg} {w' : Wd} (hs : Stt K w σ s) (hs' : Stt K w' σ' s') (e : Evo k w w') : s'.base = s.base := by
  rw [hs'.be, hs.be, e.bb]
/-- an expression's reading, from what is asked of the statement: ok, or the exception -/
theorem TR.stm {α β : Type} {rep : Wd → β → α → Prop} {den : S → Res α} {D : Ends} {f : α → S → Out} {P : β → Hp → Prop} (hs : Stt K w σ s)
    (h : SOut K W w s.base D ((den s).stm f))
    (k : ∀ v x s1 w1, Stt K w1 σ s1 → rep w1 v x → Evo w.st.length w w1 → SOut K W w1 s1.base D (f x s1) → P v w1.H) : TR K W rep den σ w.H P := by
  refine ⟨w, s, rfl, hs, ?_⟩
  cases q : den s with
  | no => rw [q] at h; exact h
  | ok x s1 =>
    rw [q] at h
    intro v w1 t r e
    have e' := e.mono hs.bs
    refine k v x s1 w1 t r e ?_
    rw [hs.base_eq t e']
    exact SOut.from (r := f x s1) h e'
  | ex c d s1 =>
    rw [q] at h
    exact fun cls dd w' t r e => h cls dd σ w' t r (e.mono hs.bs)
theorem SOut.nx {D : Ends} {σ' : Sg} (hs : Stt K w σ' s') (h : SOut K W w s'.base D (.nx s')) : D.nx σ' w.H := h σ' w hs (Evo.refl hs.bs)
end
section
variable {X : Cx} {W : WX} {pos pos' : Pos} {e : Expr} {d : S → Res SV} {st : Stmt} {sts : List Stmt} {p q : S → Out}
theorem ds_set (i : Nat) {x : Str} (hN : X.N.Nodup) (he : DE X W e d) (hi : X.N[i]? = some x := by rfl) (hx : Loc X.env.scope x := by first | exact Or.inl rfl | exact Or.inr rfl)
    (hs : swapsWith e (some (.Name x pos')) pos.line X.env = pure false := by rfl) (hf : X.fn x = true ∨ X.env.scope.names.lookup x = some .local := by first | exact .inl rfl | exact .inr rfl | assumption) :
    DS X W (.Assign [.Name x pos'] e pos) (sSet i d) := ps_imp (ps_set hN hi hx he hs hf) fun D σ H h => by
  obtain ⟨w, s, rfl, hs, h⟩ := h
  refine TR.stm hs h fun v x s1 w1 hs1 r1 e1 h1 => ?_
  cases q : sStore i x s1 with
  | none => rw [q] at h1; exact h1.elim
  | some s2 =>
    rw [q] at h1
    obtain ⟨w2, a1, a2, a3, a4, _⟩ := store_to hs1 r1 q
    show D.nx (σ.set i (some v)) w1.H
    rw [← a1]
    have h2 := SOut.from h1 a3
    rw [← a4] at h2
    exact SOut.nx a2 h2
theorem ds_expr (he : DE X W e d) (hs : swapsWith e none pos.line X.env = pure false := by rfl) : DS X W (.Expr e pos) (sDrop d) := ps_imp (ps_expr he hs) fun D σ H h => by
  obtain ⟨w, s, rfl, hs, h⟩ := h
  refine TR.stm hs h fun v x s1 w1 hs1 r1 e1 h1 => ?_
  exact SOut.nx hs1 h1
theorem ds_ret (he : DE X W e d) : DS X W (.Return (some e) pos) (sRet d) := ps_imp (ps_ret he) fun D σ H h => by
  obtain ⟨w, s, rfl, hs, h⟩ := h
  refine TR.stm hs h fun v x s1 w1 hs1 r1 e1 h1 => ?_
  exact h1 v σ w1 hs1 r1 (Evo.refl hs1.bs)
theorem ds_if {c : Expr} {a b : List Stmt} {t : S → Res Bool} (hc : DT X W c t) (ha : DSs X W a p) (hb : DSs X W b q) : DS X W (.If c a b pos) (sIf t p q) := ps_imp (ps_if hc ha hb) fun D σ H h => by
  obtain ⟨w, s, rfl, hs, h⟩ := h
  refine TR.stm hs h fun v x s1 w1 hs1 r1 e1 h1 => ?_
  cases r1
  cases v with
  | true => exact ⟨w1, s1, rfl, hs1, h1⟩
  | false => exact ⟨w1, s1, rfl, hs1, h1⟩
theorem ds_pass : DS X W (.Pass pos) sPass := ps_imp ps_pass fun D σ H h => by
  obtain ⟨w, s, rfl, hs, h⟩ := h
  exact SOut.nx hs h
theorem ds_brk : DS X W (.Break pos) sBrk := ps_imp ps_break fun D σ H h => by
  obtain ⟨w, s, rfl, hs, h⟩ := h
  exact h σ w hs (Evo.refl hs.bs)
theorem ds_cont : DS X W (.Continue pos) sCont := ps_imp ps_continue fun D σ H h => by
  obtain ⟨w, s, rfl, hs, h⟩ := h
  exact h σ w hs (Evo.refl hs.bs)
theorem dss_nil : DSs X W [] sPass := pss_imp pss_nil fun D σ H h => by
  obtain ⟨w, s, rfl, hs, h⟩ := h
  exact SOut.nx hs h
theorem dss_one (h : DS X W st p) : DSs X W [st] p := pss_one h
theorem dss_cons (h1 : DS X W st p) (h2 : DSs X W sts q) : DSs X W (st :: sts) (sSeq p q) := pss_imp (pss_cons h1 h2) fun D σ H h => by
  obtain ⟨w, s, rfl, hs, h⟩ := h
  refine ⟨w, s, rfl, hs, ?_⟩
  unfold sSeq at h
  cases z : p s with
  | nx s1 =>
    rw [z] at h
    intro σ1 w1 hs1 e1
    refine ⟨w1, s1, rfl, hs1, ?_⟩
    rw [hs.base_eq hs1 e1]
    exact SOut.from h e1
  | no => rw [z] at h; exact h
  | bk s1 => rw [z] at h; exact h
  | ct s1 => rw [z] at h; exact h
  | rt x s1 => rw [z] at h; exact h
  | ex c d s1 => rw [z] at h; exact h
/-- code that is not come to -/
def sNo : S → Out := fun _ => .no
theorem ds_no : DS X W st sNo := ps_imp ps_never fun D σ H h => by
  obtain ⟨w, s, rfl, hs, h⟩ := h
  exact h
theorem dss_no : DSs X W sts sNo := pss_imp pss_never fun D σ H h => by
  obtain ⟨w, s, rfl, hs, h⟩ := h
  exact h
theorem trim_to {D : Ends} {w : Wd} {σ : Sg} {s' : S} (hs : Stt X.K w σ s') (h : SOut X.K W w s'.base D (trimO (.nx s'))) : D.nx σ w.H := by
  unfold trimO at h
  dsimp only at h
  split at h
  · rename_i c
    have c1 : s'.base + s'.sl.length ≤ w.st.length := by rw [← hs.st]; exact c.1
    obtain ⟨a1, a2⟩ := trim_at hs (Nat.le_add_right _ _) c1 fun i x e => belowRf_spec c.2 e
    have a3 := a2.mono (Nat.le_add_right s'.base s'.sl.length)
    exact SOut.nx (w := ⟨w.G, w.H, w.g, w.st.take (s'.base + s'.sl.length), w.b⟩) a1 (SOut.from h a3)
  · exact h.elim
theorem ds_trim (h : DS X W st p) : DS X W st (sTrim p) := ps_imp h fun D σ H h => by
  obtain ⟨w, s, rfl, hs, h⟩ := h
  refine ⟨w, s, rfl, hs, ?_⟩
  unfold sTrim at h
  cases z : p s with
  | nx s1 =>
    rw [z] at h
    intro σ1 w1 hs1 e1
    refine trim_to (W := W) hs1 ?_
    rw [hs.base_eq hs1 e1]
    exact SOut.from h e1
  | no => rw [z] at h; exact h
  | bk s1 => rw [z] at h; exact h
  | ct s1 => rw [z] at h; exact h
  | rt x s1 => rw [z] at h; exact h
  | ex c d s1 => rw [z] at h; exact h
theorem ds_aug (i : Nat) {x : Str} {op : Operator} {r : R2} {g : G2} (hN : X.N.Nodup) (ho : OpR X (inplaceOp op) r) (hg : Op2 X.K r g) (he : DE X W e d) (hi : X.N[i]? = some x := by rfl) (hx : Loc X.env.scope x := by first | exact Or.inl rfl | exact Or.inr rfl)
    (hf : X.fn x = true ∨ X.env.scope.names.lookup x = some .local := by first | exact .inl rfl | exact .inr rfl | assumption) :
    DS X W (.AugAssign (.Name x pos') op e pos) (sAug i g d) := ps_imp (ps_aug hN hi hx he ho hf) fun D σ H h => by
  obtain ⟨w, s, rfl, hs, h⟩ := h
  unfold sAug at h
  split at h
  · rename_i x0 q0
    obtain ⟨v0, b1, b2⟩ := hs.sl i x0 q0
    refine ⟨v0, b1, TR.stm hs h fun v y s1 w1 hs1 r1 e1 h1 => ?_⟩
    split at h1
    · rename_i d1 q1
      refine hg w1 σ s1 v0 v x0 y d1 _ hs1 (b2.evo e1 (Nat.le_refl _)) r1 q1 fun z w2 hs2 r2 e2 => ?_
      · have a := slot_set (i := i) (x := .pu d1) hs2 r2
        have e3 := e2.mono hs1.bs
        exact SOut.nx a (SOut.from h1 e3)
    · exact h1.elim
  · exact h.elim
end
end
end Lw
/-! Lw6: pairs of stores, targets, loops. -/
namespace Lw
open PySem PySem.Spec PyProof.Rows L2
noncomputable section
section
variable {X : Cx} {W : WX} {pos pos' : Pos} {e a b c : Expr} {d : S → Res SV} {dl : S → Res (List SV)} {st : Stmt} {sts : List Stmt} {p q : S → Out}
theorem par_read {w1 : Wd} {σ : Sg} {s1 : S} {D : Ends} {i j : Nat} {vs : List V} {xs : List SV} (hs1 : Stt X.K w1 σ s1) (r1 : rL X.K w1 vs xs) (h1 : SOut X.K W w1 s1.base D (parRes i j xs s1)) : ∃ v u, vs = [v, u] ∧ D.nx ((σ.set i (some v)).set j (some u)) w1.H := by
  unfold parRes at h1
  split at h1
  · rename_i x0 y0
    obtain ⟨v, u, rfl, ra, rb⟩ := rL2 r1
    refine ⟨v, u, rfl, ?_⟩
    split at h1
    · rename_i s2 q2
      obtain ⟨w2, a1, a2, a3, a4, a5⟩ := store_to hs1 ra q2
      have rb' : SvRep X.K w2 u (.pu y0) := Dq.grow a3.g rb
      have a6 := slot_set (i := j) a2 rb'
      rw [← a1]
      have h2 := SOut.from h1 a3
      rw [← a4] at h2
      exact SOut.nx a6 h2
    · exact h1.elim
  · rename_i x0 y0 hn
    obtain ⟨v, u, rfl, ra, rb⟩ := rL2 r1
    refine ⟨v, u, rfl, ?_⟩
    split at h1
    · rename_i s2 q2
      have b1 := slot_set (i := i) hs1 ra
      obtain ⟨w2, a1, a2, a3, a4, a5⟩ := store_to b1 rb q2
      rw [← a1]
      have h2 := SOut.from h1 a3
      have h3 : SOut X.K W w2 s2.base D (.nx s2) := by
        rw [a4]; exact h2
      exact SOut.nx a2 h3
    · exact h1.elim
  · rename_i k k'
    obtain ⟨v, u, rfl, ra, rb⟩ := rL2 r1
    refine ⟨v, u, rfl, ?_⟩
    split at h1
    · rename_i c
      split at h1
      · rename_i s2 q2
        obtain ⟨w2, a1, a2, a3, a4, a5⟩ := store_to hs1 ra q2
        have rb' := a5 u (.rf k') rb (fun z => c.1 (by injection z)) fun z => c.2 (by injection z with z; exact z.symm)
        cases q3 : sStore j (.rf k') s2 with
        | none => rw [q3] at h1; exact h1.elim
        | some s3 =>
          rw [q3] at h1
          obtain ⟨w3, b1, b2, b3, b4, b5⟩ := store_to a2 rb' q3
          rw [← a1, ← b1]
          have h2 := SOut.from h1 (a3.trans (by rw [← a4]; exact b3))
          have h3 : SOut X.K W w3 s3.base D (.nx s3) := by
            rw [b4, a4]; exact h2
          exact SOut.nx b2 h3
      · exact h1.elim
    · exact h1.elim
  · exact h1.elim
theorem ds_par2 (i j : Nat) {x y : Str} {px py pt : Pos} {kt k2 pt2} (hc : X.calm = true) (hN : X.N.Nodup) (ha : DA X W [a, b] dl) (hi : X.N[i]? = some x := by rfl) (hj : X.N[j]? = some y := by rfl) (hij : i ≠ j := by decide)
    (hx : X.env.scope.names.lookup x = some .local := by rfl) (hy : X.env.scope.names.lookup y = some .local := by rfl)
    (hw : swappedStores [.Tuple [.Name x px, .Name y py] kt pt] (.Tuple [a, b] k2 pt2) X.env = pure (some [x, y]) := by rfl)
    (hs : swapsWithSole [.Tuple [.Name x px, .Name y py] kt pt] (.Tuple [a, b] k2 pt2) pos.line X.env = pure false := by rfl) :
    DS X W (.Assign [.Tuple [.Name x px, .Name y py] kt pt] (.Tuple [a, b] k2 pt2) pos) (sPar2 i j dl) := ps_imp (ps_par hc hN hi hj hij hx hy ha hw hs) fun D σ H h => by
  obtain ⟨w, s, rfl, hs, h⟩ := h
  refine TR.stm hs h fun vs xs s1 w1 hs1 r1 e1 h1 => ?_
  exact par_read hs1 r1 h1
theorem ds_par3 (i j l : Nat) {x y z : Str} {px py pz pt : Pos} {kt k2 pt2} (hc : X.calm = true) (hN : X.N.Nodup) (ha : DA X W [a, b, c] dl) (hi : X.N[i]? = some x := by rfl) (hj : X.N[j]? = some y := by rfl) (hl : X.N[l]? = some z := by rfl) (hij : i ≠ j := by decide) (hil : i ≠ l := by decide) (hjl : j ≠ l := by decide)
    (hx : X.env.scope.names.lookup x = some .local := by rfl) (hy : X.env.scope.names.lookup y = some .local := by rfl) (hz : X.env.scope.names.lookup z = some .local := by rfl)
    (hw : swappedStores [.Tuple [.Name x px, .Name y py, .Name z pz] kt pt] (.Tuple [a, b, c] k2 pt2) X.env = pure (some [x, y, z]) := by rfl)
    (hs : swapsWithSole [.Tuple [.Name x px, .Name y py, .Name z pz] kt pt] (.Tuple [a, b, c] k2 pt2) pos.line X.env = pure false := by rfl) :
    DS X W (.Assign [.Tuple [.Name x px, .Name y py, .Name z pz] kt pt] (.Tuple [a, b, c] k2 pt2) pos) (sPar3 i j l dl) := ps_imp (ps_par3 hc hN hi hj hl hij hil hjl hx hy hz ha hw hs) fun D σ H h => by
  obtain ⟨w, s, rfl, hs, h⟩ := h
  refine TR.stm hs h fun vs xs s1 w1 hs1 r1 e1 h1 => ?_
  split at h1
  · rename_i x0 y0 z0
    cases r1 with
    | cons ra r1 =>
      obtain ⟨u, t, rfl, rb, rc⟩ := rL2 r1
      exact ⟨_, u, t, rfl, SOut.nx (slot_set (i := l) (slot_set (i := j) (slot_set (i := i) hs1 ra) rb) rc) h1⟩
  · exact h1.elim

/-! ### targets -/
/-- only the slots at ks are set -/
def SetsAt (ks : List Nat) (σ σ' : Sg) : Prop := σ'.length = σ.length ∧ ∀ (j : Nat), j ∉ ks → σ'[j]? = σ[j]?
theorem SetsAt.refl {ks : List Nat} {σ : Sg} : SetsAt ks σ σ := ⟨rfl, fun _ _ => rfl⟩
theorem SetsAt.set {i : Nat} {σ : Sg} {v : Option V} : SetsAt [i] σ (σ.set i v) := ⟨by simp, fun j hj => List.getElem?_set_ne (fun z => hj (by simp [z]))⟩
theorem SetsAt.trans {ks ls : List Nat} {σ σ' σ'' : Sg} (a : SetsAt ks σ σ') (b : SetsAt ls σ' σ'') : SetsAt (ks ++ ls) σ σ'' :=
  ⟨b.1.trans a.1, fun j hj => (b.2 j fun z => hj (List.mem_append_right _ z)).trans (a.2 j fun z => hj (List.mem_append_left _ z))⟩
def TG (K : PySem.W.Frag) (ks : List Nat) (den : SV → S → Option S) : L2.TG := fun v σ H Q => ∃ w s x, w.H = H ∧ Stt K w σ s ∧ SvRep K w v x ∧ ∃ s', den x s = some s' ∧ ∀ σ' w', Stt K w' σ' s' → Evo w.st.length w w' → SetsAt ks σ σ' → Q σ' w'.H
def TGs (K : PySem.W.Frag) (ks : List Nat) (den : List SV → S → Option S) : L2.TGs := fun vs σ H Q => ∃ w s xs, w.H = H ∧ Stt K w σ s ∧ rL K w vs xs ∧ (∀ x ∈ xs, ∀ k, x ≠ .rf k) ∧ ∃ s', den xs s = some s' ∧ ∀ σ' w', Stt K w' σ' s' → Evo w.st.length w w' → SetsAt ks σ σ' → Q σ' w'.H
abbrev DG (X : Cx) (ks : List Nat) (tg : Expr) (den : SV → S → Option S) : Prop := PG X tg (TG X.K ks den)
abbrev DGs (X : Cx) (ks : List Nat) (tgs : List Expr) (den : List SV → S → Option S) : Prop := PGs X tgs (TGs X.K ks den)
def gdName (i : Nat) : SV → S → Option S := fun x s => match x with
  | .rf _ => none
  | x => some { s with sl := s.sl.set i (some x) }
theorem dg_name (i : Nat) {x : Str} {tp : Pos} (hN : X.N.Nodup) (hi : X.N[i]? = some x := by rfl) (hx : Loc X.env.scope x := by first | exact Or.inl rfl | exact Or.inr rfl) (hf : X.fn x = true ∨ X.env.scope.names.lookup x = some .local := by first | exact .inl rfl | exact .inr rfl | assumption) :
    DG X [i] (.Name x tp) (gdName i) := ⟨fun pins s0 σ H v u Q I r h => by
  refine (pg_name hN hi hx hf).run pins s0 σ H v u Q I r ?_
  obtain ⟨w, s, x, rfl, hs, rx, s', q, k⟩ := h
  unfold gdName at q
  split at q
  · cases q
  · cases q
    exact k _ w (slot_set hs rx) (Evo.refl (Nat.le_refl _)) SetsAt.set⟩
def gdNil : List SV → S → Option S := fun xs s => match xs with
  | [] => some s
  | _ => none
def gdCons (g : SV → S → Option S) (gs : List SV → S → Option S) : List SV → S → Option S := fun xs s => match xs with
  | x :: r => (g x s).bind fun s1 => gs r s1
  | [] => none
theorem dgs_nil : DGs X [] [] gdNil := ⟨fun pins s0 σ H vs us Q I r h => by
  refine pgs_nil.run pins s0 σ H vs us Q I r ?_
  obtain ⟨w, s, xs, rfl, hs, rx, _, s', q, k⟩ := h
  unfold gdNil at q
  split at q
  · cases q
    cases rx
    exact ⟨rfl, k _ w hs (Evo.refl (Nat.le_refl _)) SetsAt.refl⟩
  · cases q⟩
variable {ks ls : List Nat} {g : SV → S → Option S} {gs : List SV → S → Option S} {tg : Expr} {tgs : List Expr}
theorem dgs_cons (h1 : DG X ks tg g) (h2 : DGs X ls tgs gs) (hs : (assignEach (tg :: tgs) X.env).map (·.2) = assign tg X.env :: (assignEach tgs X.env).map (·.2) := by rfl) : DGs X (ks ++ ls) (tg :: tgs) (gdCons g gs) := ⟨fun pins s0 σ H vs us Q I r h => by
  refine (pgs_cons h1 h2 hs).run pins s0 σ H vs us Q I r ?_
  obtain ⟨w, s, xs, rfl, hs, rx, hp, s', q, k⟩ := h
  unfold gdCons at q
  split at q
  · rename_i x xr
    cases rx with
    | cons ra rr =>
      rename_i v vr
      cases q1 : g x s with
      | none => rw [q1] at q; cases q
      | some s1 =>
        rw [q1] at q
        refine ⟨v, vr, rfl, w, s, x, rfl, hs, ra, s1, q1, fun σ1 w1 hs1 e1 z1 => ?_⟩
        have hp' : ∀ y ∈ xr, ∀ k, y ≠ .rf k := fun y hy => hp y (List.mem_cons_of_mem _ hy)
        have mono : ∀ {vs : List V} {ys : List SV}, rL X.K w vs ys → (∀ y ∈ ys, ∀ k, y ≠ .rf k) → rL X.K w1 vs ys := by
          intro vs ys hr
          induction hr with
          | nil => intro _; exact .nil
          | @cons v0 y vs0 ys0 r0 t0 ih =>
            intro hz
            refine .cons ?_ (ih fun z hz' => hz z (List.mem_cons_of_mem _ hz'))
            cases y with
            | pu d => exact Dq.grow e1.g r0
            | sc ns => obtain ⟨a, z1, z2⟩ := r0; exact ⟨a, z1, e1.g.seq z2⟩
            | rf k => exact absurd rfl (hz _ List.mem_cons_self k)
        refine ⟨w1, s1, xr, rfl, hs1, mono rr hp', hp', s', q, fun σ2 w2 hs2 e2 z2 => ?_⟩
        exact k σ2 w2 hs2 (e1.trans (e2.mono e1.ln.2)) (z1.trans z2)
  · cases q⟩
def gdTup (n : Nat) (gs : List SV → S → Option S) : SV → S → Option S := fun x s => match pur s.st x with
  | some (.tuple ds) => if ds.length = n then gs (ds.map SV.pu) s else none
  | _ => none
theorem rL_pu {K : PySem.W.Frag} {w : Wd} : ∀ {vs : List V} {ds : List PyData}, DqAll K w.G vs ds → rL K w vs (ds.map SV.pu)
  | _, _, .nil => .nil
  | _, _, .cons h t => .cons h (rL_pu t)
theorem dg_tup {k n : Nat} {tp : Pos} (hc : X.calm = true) (h : DGs X ks tgs gs) (hn : (assignEach tgs X.env).length = n := by rfl) (hst : (assignEach tgs X.env).findIdx? (·.1) = none := by rfl) : DG X ks (.Tuple tgs k tp) (gdTup n gs) := ⟨fun pins s0 σ H v u Q I r h' => by
  refine (pg_tup hc h hn hst).run pins s0 σ H v u Q I r ?_
  obtain ⟨w, s, x, rfl, hs, rx, s', q, k⟩ := h'
  unfold gdTup at q
  split at q
  · rename_i ds q1
    split at q
    · rename_i hl
      obtain ⟨a, vs, rfl, h1, h2⟩ := pur_tup hs rx q1
      refine ⟨a, vs, rfl, h1, by rw [h2.length]; exact hl, w, s, ds.map SV.pu, rfl, hs, rL_pu h2, fun y hy k z => ?_, s', q, k⟩
      obtain ⟨d, _, e⟩ := List.mem_map.mp hy
      rw [z] at e; cases e
    · cases q
  · cases q⟩
/-- target = value, in general -/
def sAsg (g : SV → S → Option S) (a : S → Res SV) : S → Out := fun s => (a s).stm fun x s1 => liftO (g x s1)
theorem ds_asg (he : DE X W e d) (hg : DG X ks tg g) (hs : swapsWithSole [tg] e pos.line X.env = pure false := by rfl) (hw : swappedStores [tg] e X.env = pure none := by rfl)
    (h1 : (assignEach [tg] X.env).map (·.2) = [assign tg X.env] := by rfl) : DS X W (.Assign [tg] e pos) (sAsg g d) := ps_imp (ps_asg he hg hs hw h1) fun D σ H h => by
  obtain ⟨w, s, rfl, hs, h⟩ := h
  refine TR.stm hs h fun v x s1 w1 hs1 r1 e1 h1 => ?_
  cases q : g x s1 with
  | none => rw [q] at h1; exact h1.elim
  | some s2 =>
    rw [q] at h1
    exact ⟨w1, s1, x, rfl, hs1, r1, s2, q, fun σ' w' hs' e' _ => h1 σ' w' hs' (e'.mono hs1.bs)⟩

/-! ### what is walked -/
def ItR (K : PySem.W.Frag) (w : Wd) (J : It) (xs : List SV) : Prop := ∀ w1 σ s, Stt K w1 σ s → Same w.G w1.G →
  (∀ (i : Nat) (x : SV), xs[i]? = some x → (∀ k, x ≠ .rf k) ∧ J.go i w1.H ∧ ∀ v H', J.yld i w1.H v H' → ∃ w2, w2.H = H' ∧ Stt K w2 σ s ∧ Evo w1.st.length w1 w2 ∧ SvRep K w2 v x) ∧ J.stop xs.length w1.H
def TRI (K : PySem.W.Frag) (W : WX) (den : S → Res (List SV)) : TI := fun σ H R => ∃ w s, w.H = H ∧ Stt K w σ s ∧ ROut K W w σ (fun _ (_ : Unit) _ => True) (fun _ _ => True) (match den s with | .ok _ s1 => .ok () s1 | .ex c d s1 => .ex c d s1 | .no => .no) ∧
  ∀ xs s', den s = .ok xs s' → ∀ J w', Stt K w' σ s' → Evo w.st.length w w' → ItR K w' J xs → R J w'.H
abbrev DI (X : Cx) (W : WX) (tg iter : Expr) (den : S → Res (List SV)) : Prop := PI X tg iter (TRI X.K W den)
theorem pi_imp {tg iter : Expr} {t t' : TI} (h : PI X tg iter t) (k : ∀ σ H Q, t' σ H Q → t σ H Q) : PI X tg iter t' := ⟨fun pins s σ H Q I q => h.run pins s σ H Q I (k _ _ _ q)⟩
def forD (g : SV → S → Option S) (body : S → Out) : List SV → S → Out
  | [], s => .nx s
  | x :: xs, s => match g x s with
    | none => .no
    | some s1 => match body s1 with
      | .nx s2 => forD g body xs s2
      | .ct s2 => forD g body xs s2
      | .bk s2 => .nx s2
      | o => o
def sFor (it : S → Res (List SV)) (g : SV → S → Option S) (body : S → Out) : S → Out := fun s => (it s).stm fun xs s1 => forD g body xs s1
theorem ds_for {iter : Expr} {body : List Stmt} {it : S → Res (List SV)} {b : S → Out} (hp : PassesOwn (model X.prog X.w) X.A X.env X.xe) (hc : X.calm = true) (hi : DI X W tg iter it) (hg : DG X ks tg g) (hb : DSs X W body b)
    (hs : ∀ x, foldedSetIterable iter X.env x = pure x := by intro _; rfl) : DS X W (.For tg iter body [] pos) (sFor it g b) := ps_imp (ps_for hp hc hi hg hb hs) fun D σ H h => by
  obtain ⟨w, s, rfl, hs, h⟩ := h
  unfold sFor at h
  refine ⟨w, s, rfl, hs, ?_, fun xs s' q J w' hs' e' hJ => ?_⟩
  · cases q : it s with
    | no => rw [q] at h; exact h
    | ok xs s1 => exact fun _ _ _ _ _ => trivial
    | ex c d s1 =>
      rw [q] at h
      exact fun cls dd w' t r e => h cls dd σ w' t r (e.mono hs.bs)
  · rw [q] at h
    have h0 : SOut X.K W w' s.base D (forD g b xs s') := SOut.from (r := forD g b xs s') h (e'.mono hs.bs)
    have eb : s'.base = s.base := hs.base_eq hs' e'
    refine ⟨fun i m σ1 H1 => ∃ w1 s1, w1.H = H1 ∧ Stt X.K w1 σ1 s1 ∧ Same w'.G w1.G ∧ w1.b = s.base ∧ i ≤ xs.length ∧ m = xs.length - i ∧ SOut X.K W w1 s.base D (forD g b (xs.drop i) s1), ⟨xs.length, w', s', rfl, hs', Same.refl _, by rw [← hs'.be, eb], Nat.zero_le _, rfl, by simpa using h0⟩, ?_⟩
    rintro i m σ1 H1 ⟨w1, s1, rfl, hs1, g1, b1, hi, rfl, h1⟩
    have eb1 : s1.base = s.base := by rw [hs1.be, b1]
    obtain ⟨j1, j2⟩ := hJ w1 σ1 s1 hs1 g1
    by_cases hlt : i < xs.length
    · obtain ⟨j3, j4, j5⟩ := j1 i xs[i] (List.getElem?_eq_getElem hlt)
      refine .inr ⟨j4, fun σ2 H2 => ∃ w2 s2, w2.H = H2 ∧ Stt X.K w2 σ2 s2 ∧ Same w'.G w2.G ∧ w2.b = s.base ∧ SOut X.K W w2 s.base D (forD g b (xs.drop (i + 1)) s2), fun σ2 H2 ⟨w2, s2, a1, a2, a3, a4, a5⟩ => ⟨xs.length - (i + 1), by omega, w2, s2, a1, a2, a3, a4, hlt, rfl, a5⟩, fun v H2 y => ?_⟩
      obtain ⟨w2, rfl, hs2, e2, r2⟩ := j5 v H2 y
      rw [List.drop_eq_getElem_cons hlt] at h1
      unfold forD at h1
      cases q1 : g xs[i] s1 with
      | none => rw [q1] at h1; exact h1.elim
      | some s3 =>
        rw [q1] at h1
        refine ⟨w2, s1, xs[i], rfl, hs2, r2, s3, q1, fun σ3 w3 hs3 e3 _ => ?_⟩
        have e13 : Evo s.base w1 w3 := by
          have a1 := e2.mono hs1.bs
          have a2 := e3.mono hs2.bs
          rw [eb1] at a1 a2
          exact a1.trans a2
        have b3 : s3.base = s.base := by rw [hs3.be, e13.bb, b1]
        have g3 : Same w'.G w3.G := g1.trans e13.g
        have b3' : w3.b = s.base := e13.bb.trans b1
        refine ⟨w3, s3, rfl, hs3, ?_⟩
        rw [b3]
        dsimp only at h1
        have h2 : SOut X.K W w3 s.base D (match b s3 with | .nx s2 => forD g b (xs.drop (i + 1)) s2 | .ct s2 => forD g b (xs.drop (i + 1)) s2 | .bk s2 => .nx s2 | o => o) := SOut.from h1 e13
        cases q2 : b s3 with
        | no => rw [q2] at h2; exact h2
        | nx s4 =>
          rw [q2] at h2
          intro σ4 w4 hs4 e4
          exact ⟨w4, s4, rfl, hs4, g3.trans e4.g, e4.bb.trans b3', SOut.from (r := forD g b (xs.drop (i + 1)) s4) h2 e4⟩
        | ct s4 =>
          rw [q2] at h2
          intro σ4 w4 hs4 e4
          exact ⟨w4, s4, rfl, hs4, g3.trans e4.g, e4.bb.trans b3', SOut.from (r := forD g b (xs.drop (i + 1)) s4) h2 e4⟩
        | bk s4 => rw [q2] at h2; exact h2
        | rt x s4 => rw [q2] at h2; exact h2
        | ex c d s4 => rw [q2] at h2; exact h2
    · have e : i = xs.length := by omega
      subst e
      rw [List.drop_length] at h1
      unfold forD at h1
      exact .inl ⟨j2, h1 σ1 w1 hs1 (Evo.refl (by rw [← eb1]; exact hs1.bs))⟩

/-! ### while -/
def whileD (t : S → Res Bool) (b : S → Out) : Nat → S → Out
  | 0, _ => .no
  | n + 1, s => (t s).stm fun x s1 => if x = true then (match b s1 with
      | .nx s2 => whileD t b n s2
      | .ct s2 => whileD t b n s2
      | .bk s2 => .nx s2
      | o => o) else .nx s1
theorem ds_while (n : Nat) {c : Expr} {body : List Stmt} {t : S → Res Bool} {b : S → Out} (hp : PassesOwn (model X.prog X.w) X.A X.env X.xe) (hc : DT X W c t) (hb : DSs X W body b) : DS X W (.While c body [] pos) (whileD t b n) := ps_imp (ps_while hp hc hb) fun D σ H h => by
  obtain ⟨w, s, rfl, hs, h⟩ := h
  refine ⟨fun m σ1 H1 => ∃ w1 s1, w1.H = H1 ∧ Stt X.K w1 σ1 s1 ∧ w1.b = s.base ∧ SOut X.K W w1 s.base D (whileD t b m s1), ⟨n, w, s, rfl, hs, hs.be.symm, h⟩, ?_⟩
  rintro m σ1 H1 ⟨w1, s1, rfl, hs1, b1, h1⟩
  have eb1 : s1.base = s.base := by rw [hs1.be, b1]
  cases m with
  | zero => exact h1.elim
  | succ m =>
    unfold whileD at h1
    rw [← eb1] at h1
    refine TR.stm hs1 h1 fun v x s2 w2 hs2 r2 e2 h2 => ?_
    cases r2
    have e2' := e2.mono hs1.bs
    have b2 : w2.b = s.base := e2'.bb.trans b1
    have eb2 : s2.base = s.base := by rw [hs2.be, b2]
    cases v with
    | false => exact SOut.nx hs2 h2
    | true =>
      rw [if_pos rfl] at h2 ⊢
      refine ⟨fun σ3 H3 => ∃ w3 s3, w3.H = H3 ∧ Stt X.K w3 σ3 s3 ∧ w3.b = s.base ∧ SOut X.K W w3 s.base D (whileD t b m s3), fun σ3 H3 h3 => ⟨m, Nat.lt_succ_self m, h3⟩, w2, s2, rfl, hs2, ?_⟩
      cases q2 : b s2 with
      | no => rw [q2] at h2; exact h2
      | nx s4 =>
        rw [q2] at h2
        intro σ4 w4 hs4 e4
        refine ⟨w4, s4, rfl, hs4, e4.bb.trans b2, ?_⟩
        rw [← eb2]
        exact SOut.from (r := whileD t b m s4) h2 e4
      | ct s4 =>
        rw [q2] at h2
        intro σ4 w4 hs4 e4
        refine ⟨w4, s4, rfl, hs4, e4.bb.trans b2, ?_⟩
        rw [← eb2]
        exact SOut.from (r := whileD t b m s4) h2 e4
      | bk s4 => rw [q2] at h2; exact h2
      | rt x s4 => rw [q2] at h2; exact h2
      | ex c d s4 => rw [q2] at h2; exact h2
end
end
end Lw
/-! Lw7: what is walked; new lists; list comprehensions. -/
namespace Lw
open PySem PySem.Spec PyProof.Rows L2
noncomputable section
section
variable {X : Cx} {W : WX} {pos pos' p : Pos} {e a b c iter tg : Expr} {d da db : S → Res SV} {dl : S → Res (List SV)} {es : List Expr}
/-- the items of a list of data, of the script -/
def itL (a : S → Res SV) : S → Res (List SV) := fun s => (a s).bind fun x s1 => match x with
  | .sc ns => .ok (ns.map fun n => .pu (.int n)) s1
  | _ => match pur s1.st x with
    | some (.list ds) => .ok (ds.map SV.pu) s1
    | _ => .no
def itT (a : S → Res SV) : S → Res (List SV) := fun s => (a s).bind fun x s1 => match pur s1.st x with
    | some (.tuple ds) => .ok (ds.map SV.pu) s1
    | _ => .no
theorem tri_seq {K : PySem.W.Frag} {f : SV → S → Res (List SV)} {da : S → Res SV} {w : Wd} {σ : Sg} {s : S} {R : It → Hp → Prop} {P : V → Hp → Prop} (hs : Stt K w σ s)
    (h1 : ROut K W w σ (fun _ (_ : Unit) _ => True) (fun _ _ => True) (match (da s).bind f with | .ok _ s1 => .ok () s1 | .ex c d s1 => .ex c d s1 | .no => .no))
    (h2 : ∀ xs s', (da s).bind f = .ok xs s' → ∀ J w', Stt K w' σ s' → Evo w.st.length w w' → ItR K w' J xs → R J w'.H)
    (k : ∀ v x s1 w1, da s = .ok x s1 → Stt K w1 σ s1 → SvRep K w1 v x → Evo w.st.length w w1 → P v w1.H) : TR K W (SvRep K) da σ w.H P := by
  refine ⟨w, s, rfl, hs, ?_⟩
  cases q : da s with
  | no => rw [q] at h1; exact h1
  | ok x s1 => exact fun v w' t r e => k v x s1 w' q t r e
  | ex c d s1 =>
    rw [q] at h1
    exact h1
theorem itr_list {K : PySem.W.Frag} {w : Wd} {a : Addr} {vs : List V} {ds : List PyData} (h : w.G a = some (.lst vs)) (r : DqAll K w.G vs ds) : ItR K w (Itl K a) (ds.map SV.pu) := by
  intro w1 σ s hs g
  have hL : SqL K w1.H a vs := SqL.of (hs.sto.sub _ _ (g _ _ h))
  refine ⟨fun i x q => ?_, vs, hL, by rw [List.length_map, r.length]; exact Nat.le_refl _⟩
  rw [List.getElem?_map] at q
  cases z : ds[i]? with
  | none => rw [z] at q; cases q
  | some d0 =>
    rw [z] at q
    cases q
    obtain ⟨v, h1, h2⟩ := r.get z
    refine ⟨fun k e => (by cases e), ⟨vs, v, hL, h1⟩, fun v' H' y => ?_⟩
    obtain ⟨e1, y⟩ := y
    have := y vs hL
    rw [h1] at this
    cases this
    exact ⟨w1, e1.symm, hs, Evo.refl (Nat.le_refl _), Dq.grow g h2⟩
theorem itr_sc {K : PySem.W.Frag} {w : Wd} {a : Addr} {ns : List Int} (h : SqL K w.G a (ns.map V.int)) : ItR K w (Itl K a) (ns.map fun n => .pu (.int n)) := by
  intro w1 σ s hs g
  have hL : SqL K w1.H a (ns.map V.int) := hs.sto.sub.seq (g.seq h)
  refine ⟨fun i x q => ?_, _, hL, by simp⟩
  rw [List.getElem?_map] at q
  cases z : ns[i]? with
  | none => rw [z] at q; cases q
  | some n =>
    rw [z] at q
    cases q
    have h1 : (ns.map V.int)[i]? = some (.int n) := by rw [List.getElem?_map, z]; rfl
    refine ⟨fun k e => (by cases e), ⟨_, _, hL, h1⟩, fun v' H' y => ?_⟩
    obtain ⟨e1, y⟩ := y
    have := y _ hL
    rw [h1] at this
    cases this
    exact ⟨w1, e1.symm, hs, Evo.refl (Nat.le_refl _), Dq.int n⟩
theorem itr_tup {K : PySem.W.Frag} {w : Wd} {a : Addr} {vs : List V} {ds : List PyData} (h : SqT K w.G a vs) (r : DqAll K w.G vs ds) : ItR K w (Itt K a) (ds.map SV.pu) := by
  intro w1 σ s hs g
  have hL : SqT K w1.H a vs := sqT_same hs.sto.sub (sqT_same g h)
  refine ⟨fun i x q => ?_, vs, hL, by rw [List.length_map, r.length]; exact Nat.le_refl _⟩
  rw [List.getElem?_map] at q
  cases z : ds[i]? with
  | none => rw [z] at q; cases q
  | some d0 =>
    rw [z] at q
    cases q
    obtain ⟨v, h1, h2⟩ := r.get z
    refine ⟨fun k e => (by cases e), ⟨vs, v, hL, h1⟩, fun v' H' y => ?_⟩
    obtain ⟨e1, y⟩ := y
    have := y vs hL
    rw [h1] at this
    cases this
    exact ⟨w1, e1.symm, hs, Evo.refl (Nat.le_refl _), Dq.grow g h2⟩
theorem di_list (ha : DE X W iter da) : DI X W tg iter (itL da) := pi_imp (pi_list ha) fun σ H R ⟨w, s, e, hs, h1, h2⟩ => by
  subst e
  refine tri_seq hs h1 h2 fun v x s1 w1 q hs1 r1 e1 => ?_
  have q2 : (da s).bind (fun x s1 => match x with
    | .sc ns => Res.ok (ns.map fun n => SV.pu (.int n)) s1
    | _ => match pur s1.st x with
      | some (.list ds) => .ok (ds.map SV.pu) s1
      | _ => .no) = itL da s := rfl
  have h1' : ROut X.K W w σ (fun _ (_ : Unit) _ => True) (fun _ _ => True) (match itL da s with | .ok _ s1 => .ok () s1 | .ex c d s1 => .ex c d s1 | .no => .no) := h1
  have h2' : ∀ xs s', itL da s = .ok xs s' → ∀ J w', Stt X.K w' σ s' → Evo w.st.length w w' → ItR X.K w' J xs → R J w'.H := h2
  unfold itL at h1' h2'
  rw [q] at h1' h2'
  dsimp only [Res.bind] at h1' h2'
  cases x with
  | sc ns =>
    obtain ⟨p, rfl, h3⟩ := r1
    exact ⟨p, rfl, ⟨_, hs1.sto.sub.seq h3⟩, h2' _ s1 rfl _ w1 hs1 e1 (itr_sc h3)⟩
  | pu d0 =>
    cases d0 with
    | list ds =>
      obtain ⟨p, vs, rfl, h3, h4⟩ := Dq.lst_inv r1
      exact ⟨p, rfl, ⟨vs, SqL.of (hs1.sto.sub _ _ h3)⟩, h2' _ s1 rfl _ w1 hs1 e1 (itr_list h3 h4)⟩
    | _ => exact h1'.elim
  | rf k =>
    cases z : pur s1.st (.rf k) with
    | none => rw [z] at h1'; exact h1'.elim
    | some d0 =>
      rw [z] at h1' h2'
      cases d0 with
      | list ds =>
        obtain ⟨p, vs, rfl, h3, h4⟩ := Dq.lst_inv (pur_dp hs1 r1 z)
        exact ⟨p, rfl, ⟨vs, SqL.of (hs1.sto.sub _ _ h3)⟩, h2' _ s1 rfl _ w1 hs1 e1 (itr_list h3 h4)⟩
      | _ => exact h1'.elim
theorem di_tup (ha : DE X W iter da) : DI X W tg iter (itT da) := pi_imp (pi_tup ha) fun σ H R ⟨w, s, e, hs, h1, h2⟩ => by
  subst e
  refine tri_seq hs h1 h2 fun v x s1 w1 q hs1 r1 e1 => ?_
  have h1' : ROut X.K W w σ (fun _ (_ : Unit) _ => True) (fun _ _ => True) (match itT da s with | .ok _ s1 => .ok () s1 | .ex c d s1 => .ex c d s1 | .no => .no) := h1
  have h2' : ∀ xs s', itT da s = .ok xs s' → ∀ J w', Stt X.K w' σ s' → Evo w.st.length w w' → ItR X.K w' J xs → R J w'.H := h2
  unfold itT at h1' h2'
  rw [q] at h1' h2'
  dsimp only [Res.bind] at h1' h2'
  cases z : pur s1.st x with
  | none => rw [z] at h1'; exact h1'.elim
  | some d0 =>
    rw [z] at h1' h2'
    cases d0 with
    | tuple ds =>
      obtain ⟨p, vs, rfl, h3, h4⟩ := Dq.tup_inv (pur_dp hs1 r1 z)
      exact ⟨p, rfl, ⟨vs, sqT_same hs1.sto.sub h3⟩, h2' _ s1 rfl _ w1 hs1 e1 (itr_tup h3 h4)⟩
    | _ => exact h1'.elim
/-- range -/
def rangeL (lo hi : Int) : List SV := (List.range (hi - lo).toNat).map fun i => .pu (.int (lo + (i : Nat)))
theorem itr_range {K : PySem.W.Frag} {w : Wd} (lo hi : Int) : ItR K w (Itr lo (hi - lo).toNat) (rangeL lo hi) := by
  intro w1 σ s hs g
  refine ⟨fun i x q => ?_, by show (hi - lo).toNat ≤ (rangeL lo hi).length; simp [rangeL]⟩
  unfold rangeL at q
  rw [List.getElem?_map] at q
  by_cases hi' : i < (hi - lo).toNat
  · rw [List.getElem?_range hi'] at q
    cases q
    refine ⟨fun k e => (by cases e), hi', fun v' H' y => ?_⟩
    obtain ⟨e1, e2⟩ := y
    subst e2
    exact ⟨w1, e1.symm, hs, Evo.refl (Nat.le_refl _), Dq.int _⟩
  · rw [List.getElem?_eq_none (by simp; omega)] at q
    cases q
def asInt1 : List SV → Option Int
  | [.pu (.int j)] => some j
  | _ => none
def asInt2 : List SV → Option (Int × Int)
  | [.pu (.int i), .pu (.int j)] => some (i, j)
  | _ => none
theorem asInt1_inv {xs : List SV} {j : Int} (h : asInt1 xs = some j) : xs = [.pu (.int j)] := by
  unfold asInt1 at h
  split at h
  · cases h; rfl
  · cases h
theorem asInt2_inv {xs : List SV} {p : Int × Int} (h : asInt2 xs = some p) : xs = [.pu (.int p.1), .pu (.int p.2)] := by
  unfold asInt2 at h
  split at h
  · cases h; rfl
  · cases h
def itR1 (a : S → Res (List SV)) : S → Res (List SV) := fun s => (a s).bind fun xs s1 => match asInt1 xs with
  | some j => @ite _ (-(2 ^ 62) ≤ j ∧ j < 2 ^ 62) (Classical.propDecidable _) (.ok (rangeL 0 j) s1) .no
  | none => .no
def itR2 (a : S → Res (List SV)) : S → Res (List SV) := fun s => (a s).bind fun xs s1 => match asInt2 xs with
  | some q => @ite _ (-(2 ^ 62) ≤ q.1 ∧ q.1 < 2 ^ 62 ∧ -(2 ^ 62) ≤ q.2 ∧ q.2 < 2 ^ 62) (Classical.propDecidable _) (.ok (rangeL q.1 q.2) s1) .no
  | none => .no
theorem tri_seqA {K : PySem.W.Frag} {f : List SV → S → Res (List SV)} {da : S → Res (List SV)} {w : Wd} {σ : Sg} {s : S} {P : List V → Hp → Prop} (hs : Stt K w σ s)
    (h1 : ROut K W w σ (fun _ (_ : Unit) _ => True) (fun _ _ => True) (match (da s).bind f with | .ok _ s1 => .ok () s1 | .ex c d s1 => .ex c d s1 | .no => .no))
    (k : ∀ v x s1 w1, da s = .ok x s1 → Stt K w1 σ s1 → rL K w1 v x → Evo w.st.length w w1 → P v w1.H) : TR K W (rL K) da σ w.H P := by
  refine ⟨w, s, rfl, hs, ?_⟩
  cases q : da s with
  | no => rw [q] at h1; exact h1
  | ok x s1 => exact fun v w' t r e => k v x s1 w' q t r e
  | ex c d s1 =>
    rw [q] at h1
    exact h1
theorem di_range1 (ha : DA X W [a] dl) (hm : X.mg "range" = none) (hg : Gl X "range" := by rfl) (hs : starEach [a] X.env = [(false, eval a X.env)] := by rfl) : DI X W tg (.Call (.Name "range" p) [a] [] pos) (itR1 dl) :=
  pi_imp (pi_range1 hg hm ha hs) fun σ H R ⟨w, s, e, hs, h1, h2⟩ => by
    subst e
    refine tri_seqA hs h1 fun vs xs s1 w1 q hs1 r1 e1 => ?_
    have h1' : ROut X.K W w σ (fun _ (_ : Unit) _ => True) (fun _ _ => True) (match itR1 dl s with | .ok _ s1 => .ok () s1 | .ex c d s1 => .ex c d s1 | .no => .no) := h1
    have h2' : ∀ xs s', itR1 dl s = .ok xs s' → ∀ J w', Stt X.K w' σ s' → Evo w.st.length w w' → ItR X.K w' J xs → R J w'.H := h2
    unfold itR1 at h1' h2'
    rw [q] at h1' h2'
    dsimp only [Res.bind] at h1' h2'
    cases z : asInt1 xs with
    | none => rw [z] at h1'; exact h1'.elim
    | some j =>
      rw [z] at h1' h2'
      have hx := asInt1_inv z
      subst hx
      obtain ⟨v, rfl, r⟩ := rL1 r1
      dsimp only at h1' h2'
      by_cases c : -(2 ^ 62) ≤ j ∧ j < 2 ^ 62
      · rw [if_pos c] at h2'
        refine ⟨j, by rw [Dq.int_inv r], c.1, c.2, ?_⟩
        have hI := itr_range (K := X.K) (w := w1) 0 j
        rw [Int.sub_zero] at hI
        exact h2' _ s1 rfl _ w1 hs1 e1 hI
      · rw [if_neg c] at h1'; exact h1'.elim
theorem di_range2 (ha : DA X W [a, b] dl) (hm : X.mg "range" = none) (hg : Gl X "range" := by rfl) (hs : starEach [a, b] X.env = [(false, eval a X.env), (false, eval b X.env)] := by rfl) (hs2 : starEach [b] X.env = [(false, eval b X.env)] := by rfl) : DI X W tg (.Call (.Name "range" p) [a, b] [] pos) (itR2 dl) :=
  pi_imp (pi_range2 hg hm ha hs hs2) fun σ H R ⟨w, s, e, hs, h1, h2⟩ => by
    subst e
    refine tri_seqA hs h1 fun vs xs s1 w1 q hs1 r1 e1 => ?_
    have h1' : ROut X.K W w σ (fun _ (_ : Unit) _ => True) (fun _ _ => True) (match itR2 dl s with | .ok _ s1 => .ok () s1 | .ex c d s1 => .ex c d s1 | .no => .no) := h1
    have h2' : ∀ xs s', itR2 dl s = .ok xs s' → ∀ J w', Stt X.K w' σ s' → Evo w.st.length w w' → ItR X.K w' J xs → R J w'.H := h2
    unfold itR2 at h1' h2'
    rw [q] at h1' h2'
    dsimp only [Res.bind] at h1' h2'
    cases z : asInt2 xs with
    | none => rw [z] at h1'; exact h1'.elim
    | some j =>
      rw [z] at h1' h2'
      have hx := asInt2_inv z
      subst hx
      obtain ⟨v, u, rfl, r, r'⟩ := rL2 r1
      dsimp only at h1' h2'
      by_cases c : -(2 ^ 62) ≤ j.1 ∧ j.1 < 2 ^ 62 ∧ -(2 ^ 62) ≤ j.2 ∧ j.2 < 2 ^ 62
      · rw [if_pos c] at h2'
        exact ⟨j.1, j.2, by rw [Dq.int_inv r, Dq.int_inv r'], c, h2' _ s1 rfl _ w1 hs1 e1 (itr_range _ _)⟩
      · rw [if_neg c] at h1'; exact h1'.elim

/-! ### a new list, that nobody has yet -/
def TRL (K : PySem.W.Frag) (W : WX) (den : S → Res (List PyData)) : TE := fun σ H Q => ∃ w s, w.H = H ∧ Stt K w σ s ∧ match den s with
  | .no => False
  | .ok ds s' => ∀ vs p w1, Stt K w1 σ s' → DqAll K w1.G vs ds → w1.H p = none → Evo w.st.length w w1 → Q (.ref p) (upd w1.H p (.lst vs))
  | .ex c d s' => ∀ cls dd w', Stt K w' σ s' → ExRep K w' c d cls dd → Evo w.st.length w w' → W cls dd σ w'.H
abbrev DL (X : Cx) (W : WX) (e : Expr) (den : S → Res (List PyData)) : Prop := PE X e (TRL X.K W den)
/-- it is frozen at once -/
def eP (a : S → Res (List PyData)) : S → Res SV := fun s => (a s).bind fun ds s1 => .ok (.pu (.list ds)) s1
/-- it is an object of ours -/
def eTmp (a : S → Res (List PyData)) : S → Res SV := fun s => (a s).bind fun ds s1 => .ok (.rf s1.st.length) { s1 with st := s1.st ++ [.lst ds] }
theorem de_p {dq : S → Res (List PyData)} (h : DL X W e dq) : DE X W e (eP dq) := pe_imp h fun σ H Q ⟨w, s, e, hs, h⟩ => by
  subst e
  refine ⟨w, s, rfl, hs, ?_⟩
  unfold eP at h
  cases q : dq s with
  | no => rw [q] at h; exact h
  | ex c d s1 => rw [q] at h; exact h
  | ok ds s1 =>
    rw [q] at h
    intro vs p w1 hs1 r1 hp e1
    obtain ⟨w2, e2, hs2, r2, e3⟩ := new_lst hs1 hp r1
    rw [← e2]
    exact h _ w2 hs2 r2 (e1.trans (e3.mono e1.ln.2))
theorem de_tmp {dq : S → Res (List PyData)} (h : DL X W e dq) : DE X W e (eTmp dq) := pe_imp h fun σ H Q ⟨w, s, e, hs, h⟩ => by
  subst e
  refine ⟨w, s, rfl, hs, ?_⟩
  unfold eTmp at h
  cases q : dq s with
  | no => rw [q] at h; exact h
  | ex c d s1 => rw [q] at h; exact h
  | ok ds s1 =>
    rw [q] at h
    intro vs p w1 hs1 r1 hp e1
    have gp : w1.G p = none := hs1.sto.sub.free hp
    obtain ⟨a1, a2, a3⟩ := tmp_add (H' := upd w1.H p (.lst vs)) (o := .lst ds) hs1 hp (fun b hb => upd_ne hb) (by rw [upd_same]; exact fun z => nomatch z) (.lst gp upd_same r1)
    have h' := h (.ref p) _ a1 (by rw [hs1.st]; exact a3) (e1.trans (a2.mono e1.ln.2))
    exact h'
/-- a display -/
def lDis (t : S → Res (List SV)) : S → Res (List PyData) := fun s => (t s).bind fun xs s1 => match purs s1.st xs with
  | some ds => if ds.length ≤ 1000 then .ok ds s1 else .no
  | none => .no
theorem trl_seq {K : PySem.W.Frag} {W : WX} {α β : Type} {rep : Wd → β → α → Prop} {d1 : S → Res α} {f : α → S → Res (List PyData)} {w : Wd} {σ : Sg} {s : S} {Q : VK} {P : β → Hp → Prop} (hs : Stt K w σ s)
    (h : match (d1 s).bind f with
      | .no => False
      | .ok ds s' => ∀ vs p w1, Stt K w1 σ s' → DqAll K w1.G vs ds → w1.H p = none → Evo w.st.length w w1 → Q (.ref p) (upd w1.H p (.lst vs))
      | .ex c d s' => ∀ cls dd w', Stt K w' σ s' → ExRep K w' c d cls dd → Evo w.st.length w w' → W cls dd σ w'.H)
    (k : ∀ v x s1 w1, Stt K w1 σ s1 → rep w1 v x → Evo w.st.length w w1 → (match f x s1 with
      | .no => False
      | .ok ds s' => ∀ vs p w2, Stt K w2 σ s' → DqAll K w2.G vs ds → w2.H p = none → Evo w1.st.length w1 w2 → Q (.ref p) (upd w2.H p (.lst vs))
      | .ex c d s' => ∀ cls dd w', Stt K w' σ s' → ExRep K w' c d cls dd → Evo w1.st.length w1 w' → W cls dd σ w'.H) → P v w1.H) : TR K W rep d1 σ w.H P := by
  refine ⟨w, s, rfl, hs, ?_⟩
  cases q : d1 s with
  | no => rw [q] at h; exact h
  | ex c d s1 => rw [q] at h; exact h
  | ok x s1 =>
    rw [q] at h
    intro v w1 t r e
    refine k v x s1 w1 t r e ?_
    dsimp only [Res.bind] at h
    cases z : f x s1 with
    | no => rw [z] at h; exact h
    | ok ds s2 =>
      rw [z] at h
      exact fun vs p w2 t2 r2 hp e2 => h vs p w2 t2 r2 hp (e.trans (e2.mono e.ln.2))
    | ex c d s2 =>
      rw [z] at h
      exact fun cls dd w' t2 r2 e2 => h cls dd w' t2 r2 (e.trans (e2.mono e.ln.2))
theorem dl_lst (h : DA X W es dl) : DL X W (.List es pos) (lDis dl) := pe_imp (pe_lst h) fun σ H Q ⟨w, s, e, hs, h⟩ => by
  subst e
  refine trl_seq hs h fun vs xs s1 w1 hs1 r1 e1 h1 => ?_
  cases q : purs s1.st xs with
  | none => rw [q] at h1; exact h1.elim
  | some ds =>
    rw [q] at h1
    have hd := purs_dp hs1 r1 q
    dsimp only at h1
    by_cases c : ds.length ≤ 1000
    · rw [if_pos c] at h1
      exact ⟨by rw [hd.length]; exact le_line (by omega), fun p hp => h1 vs p w1 hs1 hd hp (Evo.refl (Nat.le_refl _))⟩
    · rw [if_neg c] at h1; exact h1.elim
/-- list(x) of a list or tuple -/
def lOf (a : S → Res (List SV)) : S → Res (List PyData) := fun s => (a s).bind fun xs s1 => match gListOf s1.st xs with
  | some (.list ds) => .ok ds s1
  | _ => .no
theorem dl_of {x0 : Expr} (ha : DA X W (x0 :: es) dl) (hm : X.mg "list" = none) (hg : Gl X "list" := by rfl) (he : starEach (x0 :: es) X.env = (false, eval x0 X.env) :: starEach es X.env := by rfl) (hpl : (backTo pos (starEach es X.env)).any (·.1) = false := by rfl) :
    DL X W (.Call (.Name "list" p) (x0 :: es) [] pos) (lOf dl) := pe_imp (pe_callTy call_list_of hg hm (by decide +kernel) ha (by decide) (by decide) he hpl) fun σ H Q ⟨w, s, e, hs, h⟩ => by
  subst e
  refine trl_seq hs h fun vs xs s1 w1 hs1 r1 e1 h1 => ?_
  cases q : gListOf s1.st xs with
  | none => rw [q] at h1; exact h1.elim
  | some d0 =>
    rw [q] at h1
    cases d0 with
    | list ds =>
      unfold gListOf at q
      split at q
      · obtain ⟨v, rfl, r⟩ := rL1 r1
        split at q
        · rename_i ds' q1
          cases q
          obtain ⟨p, us, rfl, h3, h4⟩ := rdl_lst hs1 r q1
          exact ⟨p, us, rfl, .inl (SqL.of h3), fun l hl => h1 us l w1 hs1 h4 hl (Evo.refl (Nat.le_refl _))⟩
        · rename_i ds' q1
          split at q
          · rename_i t q2
            cases q
            have z := (rd_of_pur q2).symm.trans (rdl_rd q1)
            cases z
            obtain ⟨p, us, rfl, h3, h4⟩ := pur_tup hs1 r q2
            exact ⟨p, us, rfl, .inr h3, fun l hl => h1 us l w1 hs1 h4 hl (Evo.refl (Nat.le_refl _))⟩
          · cases q
        · cases q
      · cases q
    | _ => exact h1.elim
end
end
end Lw
/-! Lw8: list comprehensions. -/
namespace Lw
open PySem PySem.Spec PyProof.Rows L2
noncomputable section
abbrev W0 : WX := fun _ _ _ _ => False
/-- one item of a comprehension's source, then the others -/
def lcD (sl : List (Option SV)) (g : SV → S → Option S) (t : S → Res Bool) (e : S → Res SV) : List SV → S → Option (List PyData × S)
  | [], s => some ([], s)
  | x :: xs, s => match g x { s with sl := sl } with
    | none => none
    | some s1 => match t s1 with
      | .ok true s2 => (match e s2 with
        | .ok y s3 => (match pur s3.st y with
          | some d => (match lcD sl g t e xs s3 with
            | some (ds, s4) => some (d :: ds, s4)
            | none => none)
          | none => none)
        | _ => none)
      | .ok false s2 => lcD sl g t e xs s2
      | _ => none
def wipeS (l : List (Option SV)) : List Nat → List (Option SV)
  | [] => l
  | i :: r => (wipeS l r).set i none
def lLc (vs : List Nat) (it : S → Res (List SV)) (g : SV → S → Option S) (t : S → Res Bool) (e : S → Res SV) : S → Res (List PyData) := fun s => (it s).bind fun xs s1 =>
  @ite _ (xs.length ≤ 16777216) (Classical.propDecidable _) ((match lcD (wipeS s1.sl vs) g t e xs s1 with
    | some (ds, s2) => .ok ds { s2 with sl := s1.sl }
    | none => .no)) .no

theorem wipe_cons (σ : Sg) (i : Nat) (vs : List Nat) : wipe σ (i :: vs) = (wipe σ vs).set i none := rfl
theorem wipeS_len : ∀ (vs : List Nat) (l : List (Option SV)), (wipeS l vs).length = l.length
  | [], _ => rfl
  | i :: r, l => by unfold wipeS; rw [List.length_set, wipeS_len r]
section
variable {K : PySem.W.Frag} {w w1 : Wd} {σ : Sg} {s : S}
theorem wipe_at (σ : Sg) (l : List (Option SV)) (hl : l.length = σ.length) (h : ∀ (i : Nat) (x : SV), l[i]? = some (some x) → ∃ v : V, σ[i]? = some (some v) ∧ SvRep K w v x) :
    ∀ (vs : List Nat) (i : Nat) (x : SV), (wipeS l vs)[i]? = some (some x) → ∃ v : V, (wipe σ vs)[i]? = some (some v) ∧ SvRep K w v x
  | [], i, x, e => h i x e
  | k :: vs, i, x, e => by
    unfold wipeS at e
    rw [wipe_cons]
    by_cases hk : i = k
    · subst hk
      have hi : i < (wipeS l vs).length := by
        have := (List.getElem?_eq_some_iff.mp e).1
        simpa using this
      rw [List.getElem?_set_self hi] at e
      cases e
    · rw [List.getElem?_set_ne (Ne.symm hk)] at e
      rw [List.getElem?_set_ne (Ne.symm hk)]
      exact wipe_at σ l hl h vs i x e
theorem stt_wipe (vs : List Nat) (hs : Stt K w σ s) : Stt K w (wipe σ vs) { s with sl := wipeS s.sl vs } :=
  ⟨hs.sto, hs.st, by rw [wipe_length, wipeS_len, hs.len], wipe_at σ s.sl hs.len hs.sl vs, hs.bs, hs.be⟩
theorem wipe_get (σ : Sg) : ∀ (vs : List Nat) (j : Nat), j ∉ vs → (wipe σ vs)[j]? = σ[j]?
  | [], j, _ => rfl
  | i :: r, j, hj => by
    rw [wipe_cons, List.getElem?_set_ne (fun z => hj (by simp [z])), wipe_get σ r j (fun z => hj (List.mem_cons_of_mem _ z))]
theorem wipe_none (σ : Sg) : ∀ (vs : List Nat) (j : Nat), j ∈ vs → j < σ.length → (wipe σ vs)[j]? = some none
  | i :: r, j, hj, hl => by
    rw [wipe_cons]
    by_cases hi : i = j
    · subst hi
      exact List.getElem?_set_self (by rw [wipe_length]; exact hl)
    · rw [List.getElem?_set_ne hi]
      refine wipe_none σ r j ?_ hl
      rcases List.mem_cons.mp hj with z | z
      · exact absurd z.symm hi
      · exact z
theorem wipe_same {vs ks : List Nat} {σ σ' : Sg} (h : SetsAt ks (wipe σ vs) σ') (hk : ∀ k ∈ ks, k ∈ vs) : wipe σ' vs = wipe σ vs := by
  apply List.ext_getElem?
  intro j
  have hl : σ'.length = σ.length := by rw [h.1, wipe_length]
  by_cases hj : j ∈ vs
  · by_cases hlt : j < σ.length
    · rw [wipe_none _ _ _ hj hlt, wipe_none _ _ _ hj (by rw [hl]; exact hlt)]
    · rw [List.getElem?_eq_none (by rw [wipe_length]; omega), List.getElem?_eq_none (by rw [wipe_length]; omega)]
  · rw [wipe_get _ _ _ hj, h.2 j (fun z => hj (hk j z))]
/-- the list that is being made stands apart -/
def Apart (w : Wd) (D : Addr) (acc : List V) : Prop := w.H D = some (.lst acc) ∧ w.G D = none ∧ ¬ w.M D
theorem Apart.evo {k : Nat} {D : Addr} {acc : List V} (h : Apart w D acc) (e : Evo k w w1) : Apart w1 D acc := by
  obtain ⟨h1, h2, h3⟩ := h
  refine ⟨e.keep _ _ h1 h3, ?_, fun m => (e.nw _ m).elim h3 fun z => by rw [z] at h1; cases h1⟩
  cases q : w1.G D with
  | none => rfl
  | some o =>
    rcases e.fr D o q with z | z | z
    · rw [h2] at z; cases z
    · rw [h1] at z; cases z
    · exact absurd z h3
theorem stt_put {D : Addr} {H' : Hp} (hs : Stt K w σ s) (g : w.G D = none) (m : ¬ w.M D) (hH : ∀ b, b ≠ D → H' b = w.H b) : Stt K ⟨w.G, H', w.g, w.st, w.b⟩ σ s := by
  refine ⟨⟨fun b u q => (hH b (fun z => by rw [z, g] at q; cases q)).trans (hs.sto.sub b u q), fun i o q => ?_, hs.sto.dj⟩, hs.st, hs.len, fun i x q => ?_, hs.bs, hs.be⟩
  · have hi : i < w.st.length := (List.getElem?_eq_some_iff.mp q).1
    exact (hs.sto.ob i o q).stay (Same.refl _) (fun b hb => hH b fun z => m (z ▸ ⟨i, hi, hb⟩)) fun b hb => (hs.foot hi b hb).1
  · obtain ⟨v, h1, h2⟩ := hs.sl i x q
    exact ⟨v, h1, by cases x with | pu d => exact h2 | sc ns => exact h2 | rf j => exact h2⟩
/-- the old slots at a later world -/
theorem stt_slots {wZ : Wd} {σ3 : Sg} {sZ : S} (hs : Stt K w σ s) (hz : Stt K wZ σ3 sZ) (e : Evo w.st.length w wZ) : Stt K wZ σ { sZ with sl := s.sl } :=
  ⟨hz.sto, hz.st, hs.len, fun i x q => by
    obtain ⟨v, h1, h2⟩ := hs.sl i x q
    exact ⟨v, h1, h2.evo e (Nat.le_refl _)⟩, hz.bs, hz.be⟩
theorem evo_put {k : Nat} {D : Addr} {H' : Hp} (e : Evo k w w1) (hD : w.H D = none) (hH : ∀ b, b ≠ D → H' b = w1.H b) : Evo k w ⟨w1.G, H', w1.g, w1.st, w1.b⟩ :=
  ⟨e.g, fun b u q n => (hH b (ne_of_none q hD)).trans (e.keep b u q n), fun b q => by
    by_cases hb : b = D
    · rw [hb]; exact hD
    · exact e.dm b ((hH b hb).symm.trans q), e.fr, e.nw, e.kp, e.ln, e.bb⟩
end
section
variable {X : Cx} {W : WX} {pos pos' p : Pos} {elt iter tg : Expr} {ifs : List Expr} {scope : Scope} {own : List (Str × Nat)} {it : S → Res (List SV)} {g : SV → S → Option S} {t : S → Res Bool} {e : S → Res SV} {ks : List Nat}
/-- the clause's tests -/
abbrev DTs (X : Cx) (W : WX) (ifs : List Expr) (den : S → Res Bool) : Prop := PTs X ifs (TR X.K W rB den)
def tTrue : S → Res Bool := fun s => .ok true s
theorem pts_imp {t t' : TT} (h : PTs X ifs t) (k : ∀ σ H Q, t' σ H Q → t σ H Q) : PTs X ifs t' := ⟨fun pins s σ H Q I q => h.run pins s σ H Q I (k _ _ _ q)⟩
theorem dts_nil : DTs X W [] tTrue := pts_imp pts_nil fun σ H Q h => by
  obtain ⟨w, s, rfl, hs, h⟩ := h
  exact ROut.ret (rep := rB) (x := true) hs h rfl
theorem dts_one {c : Expr} (h : DT X W c t) : DTs X W [c] t := pts_one h
/-- what the reading of a comprehension asks -/
theorem lc_read (hk : ∀ k ∈ ks, k ∈ own.map (·.2)) {σ : Sg} {H : Hp} {Q : VK} (h : TRL X.K W (lLc (own.map (·.2)) it g t e) σ H Q) :
    tLc (TRI X.K W it) (TG X.K ks g) (TR X.K W0 rB t) (TR X.K W0 (SvRep X.K) e) (own.map (·.2)) σ H Q := by
  obtain ⟨w, s, rfl, hs, h⟩ := h
  unfold lLc at h
  refine ⟨w, s, rfl, hs, ?_, fun xs s' q J w' hs' e' hJ => ?_⟩
  · cases q : it s with
    | no => rw [q] at h; exact h
    | ok xs s1 => exact fun _ _ _ _ _ => trivial
    | ex c d s1 => rw [q] at h; exact h
  · rw [q] at h
    dsimp only [Res.bind] at h
    intro D hD
    by_cases hl : xs.length ≤ 16777216
    · rw [if_pos hl] at h
      have gD : w'.G D = none := hs'.sto.sub.free hD
      have mD : ¬ w'.M D := fun ⟨i, hi, hb⟩ => by
        obtain ⟨_, u, z, _⟩ := hs'.foot hi D hb
        rw [hD] at z; cases z
      -- the loop
      cases z : lcD (wipeS s'.sl (own.map (·.2))) g t e xs s' with
      | none => rw [z] at h; exact h.elim
      | some r =>
        obtain ⟨ds, sE⟩ := r
        rw [z] at h
        dsimp only at h
        have hs0 : Stt X.K ⟨w'.G, upd w'.H D (.lst []), w'.g, w'.st, w'.b⟩ σ s' := stt_put hs' gD mD fun b hb => upd_ne hb
        have ev0 : Evo w'.st.length w' ⟨w'.G, upd w'.H D (.lst []), w'.g, w'.st, w'.b⟩ := ⟨Same.refl _, fun b u q _ => by show upd w'.H D _ b = _; rw [upd_ne (ne_of_none q hD)]; exact q, fun b q => by
            by_cases hb : b = D
            · rw [hb]; exact hD
            · have q' : upd w'.H D (.lst []) b = none := q
              rw [upd_ne hb] at q'; exact q', fun b u q => .inl q, fun b m => .inl m, fun _ _ => rfl, ⟨Nat.le_refl _, Nat.le_refl _⟩, rfl⟩
        refine ⟨fun i m H1 => ∃ w1 s1 acc accd rest, w1.H = H1 ∧ Stt X.K w1 (wipe σ (own.map (·.2))) { s1 with sl := wipeS s'.sl (own.map (·.2)) } ∧ Evo w'.st.length w' w1 ∧ Apart w1 D acc ∧ DqAll X.K w1.G acc accd ∧ acc.length ≤ i ∧ i ≤ xs.length ∧ m = xs.length - i ∧
            lcD (wipeS s'.sl (own.map (·.2))) g t e (xs.drop i) s1 = some (rest, sE) ∧ accd ++ rest = ds,
          ⟨xs.length, _, s', [], [], ds, rfl, stt_wipe _ hs0, ev0, ⟨upd_same, gD, mD⟩, .nil, Nat.le_refl _, Nat.zero_le _, rfl, by simpa using z, rfl⟩, ?_⟩
        rintro i m H1 ⟨w1, s1, acc, accd, rest, rfl, hs1, e1, ap, ra, hacc, hi, rfl, zl, hds⟩
        obtain ⟨j1, j2⟩ := hJ w1 _ _ hs1 e1.g
        by_cases hlt : i < xs.length
        · obtain ⟨j3, j4, j5⟩ := j1 i xs[i] (List.getElem?_eq_getElem hlt)
          refine .inr ⟨j4, fun H2 => ∃ w1 s1 acc accd rest, w1.H = H2 ∧ Stt X.K w1 (wipe σ (own.map (·.2))) { s1 with sl := wipeS s'.sl (own.map (·.2)) } ∧ Evo w'.st.length w' w1 ∧ Apart w1 D acc ∧ DqAll X.K w1.G acc accd ∧ acc.length ≤ i + 1 ∧
              lcD (wipeS s'.sl (own.map (·.2))) g t e (xs.drop (i + 1)) s1 = some (rest, sE) ∧ accd ++ rest = ds,
            fun H2 ⟨w2, s2, acc2, accd2, rest2, a1, a2, a3, a4, a5, a6, a7, a8⟩ => ⟨xs.length - (i + 1), by omega, w2, s2, acc2, accd2, rest2, a1, a2, a3, a4, a5, a6, hlt, rfl, a7, a8⟩, fun v H2 y => ?_⟩
          obtain ⟨w2, rfl, hs2, e2, r2⟩ := j5 v H2 y
          rw [List.drop_eq_getElem_cons hlt] at zl
          unfold lcD at zl
          cases q1 : g xs[i] { s1 with sl := wipeS s'.sl (own.map (·.2)) } with
          | none => rw [q1] at zl; cases zl
          | some s3 =>
            rw [q1] at zl
            dsimp only at zl
            refine ⟨w2, _, xs[i], rfl, hs2, r2, s3, q1, fun σ3 w3 hs3 e3 z3 => ⟨wipe_same z3 hk, ?_⟩⟩
            have c3 : Evo w'.st.length w' w3 := (e1.trans (e2.mono e1.ln.2)).trans (e3.mono (Nat.le_trans e1.ln.2 e2.ln.2))
            have ap3 : Apart w3 D acc := (ap.evo e2).evo e3
            have ra3 : DqAll X.K w3.G acc accd := DqAll.grow e3.g (DqAll.grow e2.g ra)
            have hs00 := stt_wipe (own.map (·.2)) hs'
            refine ⟨w3, s3, rfl, hs3, ?_⟩
            cases q2 : t s3 with
            | no => rw [q2] at zl; cases zl
            | ex c d s4 => rw [q2] at zl; cases zl
            | ok b s4 =>
              rw [q2] at zl
              intro b' w4 hs4 rb e4
              cases rb
              have c4 := c3.trans (e4.mono c3.ln.2)
              cases b with
              | false =>
                rw [if_neg Bool.false_ne_true]
                exact ⟨w4, s4, acc, accd, rest, rfl, stt_slots hs00 hs4 c4, c4, ap3.evo e4, DqAll.grow e4.g ra3, Nat.le_succ_of_le hacc, zl, hds⟩
              | true =>
                rw [if_pos rfl]
                refine ⟨w4, s4, rfl, hs4, ?_⟩
                dsimp only at zl
                cases q3 : e s4 with
                | no => rw [q3] at zl; cases zl
                | ex c d s5 => rw [q3] at zl; cases zl
                | ok y s5 =>
                  rw [q3] at zl
                  intro v5 w5 hs5 r5 e5
                  dsimp only at zl
                  cases q4 : pur s5.st y with
                  | none => rw [q4] at zl; cases zl
                  | some d5 =>
                    rw [q4] at zl
                    dsimp only at zl
                    cases q5 : lcD (wipeS s'.sl (own.map (·.2))) g t e (xs.drop (i + 1)) s5 with
                    | none => rw [q5] at zl; cases zl
                    | some r6 =>
                      obtain ⟨rest', sE'⟩ := r6
                      rw [q5] at zl
                      cases zl
                      have c5 := c4.trans (e5.mono c4.ln.2)
                      obtain ⟨a1, a2, a3⟩ := (ap3.evo e4).evo e5
                      have r5' := pur_dp hs5 r5 q4
                      refine ⟨acc, a1, Nat.lt_of_le_of_lt hacc (Nat.lt_of_lt_of_le hlt (le_line hl)), ⟨w5.G, upd w5.H D (.lst (acc ++ [v5])), w5.g, w5.st, w5.b⟩, s5, acc ++ [v5], accd ++ [d5], rest', rfl, ?_, evo_put c5 hD fun b hb => upd_ne hb, ⟨upd_same, a2, a3⟩,
                        (DqAll.grow e5.g (DqAll.grow e4.g ra3)).app (.cons r5' .nil), by rw [List.length_append]; simp; omega, q5, by rw [List.append_assoc]; exact hds⟩
                      exact stt_put (stt_slots hs00 hs5 c5) a2 a3 fun b hb => upd_ne hb
        · have ei : i = xs.length := by omega
          subst ei
          rw [List.drop_length] at zl
          unfold lcD at zl
          cases zl
          rw [List.append_nil] at hds
          subst hds
          refine .inl ⟨j2, ?_⟩
          obtain ⟨a1, a2, a3⟩ := ap
          have hs2 := stt_put (H' := fun b => if b = D then none else w1.H b) (stt_slots hs' hs1 e1) a2 a3 fun b hb => if_neg hb
          have e2 := evo_put (H' := fun b => if b = D then none else w1.H b) e1 hD fun b hb => if_neg hb
          have fin := h acc D _ hs2 ra (if_pos rfl) (e'.trans (e2.mono e'.ln.2))
          have eqH : upd (fun b => if b = D then none else w1.H b) D (.lst acc) = w1.H := by
            funext b
            by_cases hb : b = D
            · rw [hb, upd_same, a1]
            · rw [upd_ne hb]; exact if_neg hb
          rw [← eqH]
          exact fin
    · rw [if_neg hl] at h; exact h.elim
theorem dl_lc (hc : X.calm = true) (hN : X.N.Nodup) (hi : DI X W tg iter it) (ok : BlkOk X.N X.env.scope scope own)
    (hg : ∀ (s : Shared) (H : Hp) (C : Addr) (cl : List (Str × Addr)) (fp : List Addr), DG (X.blk s H scope (compEnvC scope cl C X.env) fp) ks tg g)
    (ht : ∀ (s : Shared) (H : Hp) (C : Addr) (cl : List (Str × Addr)) (fp : List Addr), DTs (X.blk s H scope (compEnvC scope cl C X.env) fp) W0 ifs t)
    (he : ∀ (s : Shared) (H : Hp) (C : Addr) (cl : List (Str × Addr)) (fp : List Addr), DE (X.blk s H scope (compEnvC scope cl C X.env) fp) W0 elt e)
    (hk : ∀ k ∈ ks, k ∈ own.map (·.2) := by decide) (hs : ∀ x, foldedSetIterable iter X.env x = pure x := by intro _; rfl) :
    DL X W (.ListComp elt [⟨tg, iter, ifs, 0⟩] scope pos) (lLc (own.map (·.2)) it g t e) :=
  pe_imp (pe_lc hc hN hi ok hg ht he hs) fun σ H Q h => lc_read hk h
end
end
end Lw
/-! Lw9: defs: what they promise, their bodies, their calls. -/
namespace Lw
open PySem PySem.Spec PyProof.Rows L2
noncomputable section

inductive FR where
  | no
  | ok (x : SV) (st : List MO)
  | ex (c : Addr) (d : PyData) (st : List MO)
abbrev FD := List SV → List MO → FR
def FOut (K : PySem.W.Frag) (w : Wd) (Q : VK) (E : XK) : FR → Prop
  | .no => False
  | .ok x st' => ∀ v w', Sto K w' → w'.st = st' → SvRep K w' v x → Evo w.st.length w w' → Q v w'.H
  | .ex c d st' => ∀ cls dd w', Sto K w' → w'.st = st' → ExRep K w' c d cls dd → Evo w.st.length w w' → E cls dd w'.H
/-- the promise: n arguments -/
def SpD (K : PySem.W.Frag) (n : Nat) (f : FD) : Sp := fun vs H Q E => ∃ w svs, w.H = H ∧ Sto K w ∧ rL K w vs svs ∧ vs.length = n ∧ FOut K w Q E (f svs w.st)

/-- a def, called where nothing shows itself as a text -/
structure FnG (P : Program) (w : World) (K : PySem.W.Frag) (mg : Str → Option Value) (base : Heap) (k : Nat) (f : Addr) (fd : FuncData) (ps : List Str) (sp : Sp) : Prop where
  run : ∀ (A : Around) (outer : List Env) (s : Shared) (H : Hp) (args : Args) (us : List Value) (vs : List V) (Q : VK) (E : XK), Room k A → A.guards = some [] → Env0 P w K mg base A outer s H → BindsTo s fd args (ps.zip us) → Vals vs us → sp vs H Q E →
    codeAny (model P w) A (.call (.ref f) args) (CR (L2.CX P w) outer P w H s Q E) s
theorem FnG.mono {P : Program} {w : World} {K : PySem.W.Frag} {mg : Str → Option Value} {base : Heap} {j k : Nat} {f : Addr} {fd : FuncData} {ps : List Str} {sp : Sp} (F : FnG P w K mg base j f fd ps sp) (h : j ≤ k) : FnG P w K mg base k f fd ps sp :=
  ⟨fun A outer s H args us vs Q E r => F.run A outer s H args us vs Q E (r.mono h)⟩
theorem FnG.imp {P : Program} {w : World} {K : PySem.W.Frag} {mg : Str → Option Value} {base : Heap} {k : Nat} {f : Addr} {fd : FuncData} {ps : List Str} {sp sp' : Sp} (F : FnG P w K mg base k f fd ps sp) (h : ∀ vs H Q E, sp' vs H Q E → sp vs H Q E) : FnG P w K mg base k f fd ps sp' :=
  ⟨fun A outer s H args us vs Q E r g e b v q => F.run A outer s H args us vs Q E r g e b v (h _ _ _ _ q)⟩

/-! ### the body -/
def exitF (fr : Bool) (n : Nat) (x : SV) (st : List MO) : FR := match x with
  | .rf k => match st[k]? with
    | some (.lst ds) => if n ≤ k then (if fr = true then .ok (.pu (.list ds)) (st.take n) else .ok (.rf n) (st.take n ++ [.lst ds])) else .ok (.rf k) (st.take n)
    | some (.fz d) => .ok (.pu d) (st.take n)
    | some o => if n ≤ k then .ok (.rf n) (st.take n ++ [o]) else .ok (.rf k) (st.take n)
    | none => .no
  | x => .ok x (st.take n)
def runX (fr : Bool) (N : Nat) (b : S → Out) : FD := fun svs st => match b ⟨svs.map some ++ List.replicate (N - svs.length) none, st ++ List.replicate N .gone, st.length⟩ with
  | .nx s => exitF fr st.length (.pu .none) s.st
  | .rt x s => exitF fr st.length x s.st
  | .ex c d s => .ex c d (s.st.take st.length)
  | _ => .no
abbrev runF (N : Nat) (b : S → Out) : FD := runX true N b
/-- a new list that is returned is the caller's own -/
abbrev runO (N : Nat) (b : S → Out) : FD := runX false N b
section
variable {K : PySem.W.Frag} {w w1 : Wd}
/-- a frame's world -/
def enter (w : Wd) (N : Nat) : Wd := ⟨w.G, w.H, fun i => if i < w.st.length then w.g i else (0, []), w.st ++ List.replicate N .gone, w.st.length⟩
theorem enter_M {N : Nat} (b : Addr) : (enter w N).M b ↔ w.M b := by
  constructor
  · rintro ⟨i, _, hb⟩
    by_cases hi : i < w.st.length
    · have : (enter w N).g i = w.g i := if_pos hi
      rw [this] at hb
      exact ⟨i, hi, hb⟩
    · have : (enter w N).g i = (0, []) := if_neg hi
      rw [this] at hb; cases hb
  · rintro ⟨i, hi, hb⟩
    refine ⟨i, ?_, ?_⟩
    · show i < (w.st ++ List.replicate N MO.gone).length
      rw [List.length_append]; omega
    · have : (enter w N).g i = w.g i := if_pos hi
      rw [this]; exact hb
theorem enter_sto {N : Nat} (h : Sto K w) : Sto K (enter w N) := by
  have gi : ∀ i, i < w.st.length → (enter w N).g i = w.g i := fun i hi => if_pos hi
  have gn : ∀ i, ¬ i < w.st.length → (enter w N).g i = (0, []) := fun i hi => if_neg hi
  refine ⟨h.sub, fun i o e => ?_, fun i j hij _ _ b hb hb' => ?_⟩
  · have e : (w.st ++ List.replicate N MO.gone)[i]? = some o := e
    by_cases hi : i < w.st.length
    · rw [gi i hi]
      rw [List.getElem?_append_left hi] at e
      exact h.ob i o e
    · rw [gn i hi]
      rw [List.getElem?_append_right (by omega)] at e
      have : o = .gone := by
        have := List.mem_of_getElem? e
        exact (List.mem_replicate.mp this).2
      subst this
      exact .gone
  · by_cases hi : i < w.st.length
    · by_cases hj : j < w.st.length
      · rw [gi i hi] at hb
        rw [gi j hj] at hb'
        exact h.dj i j hij hi hj b hb hb'
      · rw [gn j hj] at hb'; cases hb'
    · rw [gn i hi] at hb; cases hb
theorem enter_rep {N : Nat} {v : V} {x : SV} (h : SvRep K w v x) : SvRep K (enter w N) v x := by
  cases x with
  | pu d => exact h
  | sc ns => exact h
  | rf i =>
    refine ⟨?_, ?_⟩
    · show i < (w.st ++ List.replicate N MO.gone).length
      rw [List.length_append]; have := h.1; omega
    · have : (enter w N).g i = w.g i := if_pos h.1
      rw [this]; exact h.2
theorem enter_stt {N : List Str} {vs : List V} {svs : List SV} (h : Sto K w) (r : rL K w vs svs) (hn : vs.length ≤ N.length) :
    Stt K (enter w N.length) (L2.start N vs) ⟨svs.map some ++ List.replicate (N.length - svs.length) none, w.st ++ List.replicate N.length .gone, w.st.length⟩ := by
  have hl : svs.length = vs.length := by
    have := Paired.length r
    exact this.symm
  refine ⟨enter_sto h, rfl, by simp [L2.start, hl], fun i x e => ?_, by show w.st.length ≤ (w.st ++ _).length; simp, rfl⟩
  have e : (svs.map some ++ List.replicate (N.length - svs.length) none)[i]? = some (some x) := e
  by_cases hi : i < svs.length
  · rw [List.getElem?_append_left (by simpa using hi), List.getElem?_map] at e
    cases q : svs[i]? with
    | none => rw [q] at e; cases e
    | some y =>
      rw [q] at e
      cases e
      have get : ∀ {vs : List V} {svs : List SV} {i : Nat} {y : SV}, rL K w vs svs → svs[i]? = some y → ∃ v, vs[i]? = some v ∧ SvRep K w v y := by
        intro vs svs i y r
        induction r generalizing i with
        | nil => intro e; simp at e
        | cons r0 t0 ih =>
          intro e
          cases i with
          | zero => simp at e; subst e; exact ⟨_, rfl, r0⟩
          | succ i => simp at e; obtain ⟨v, a, b⟩ := ih e; exact ⟨v, by simpa using a, b⟩
      obtain ⟨v, h1, h2⟩ := get r q
      refine ⟨v, ?_, enter_rep h2⟩
      unfold L2.start
      rw [List.getElem?_append_left (by rw [List.length_map, ← hl]; exact hi), List.getElem?_map, h1]
      rfl
  · rw [List.getElem?_append_right (by simpa using hi)] at e
    have := (List.mem_replicate.mp (List.mem_of_getElem? e)).2
    cases this
/-- from the frame's world to the caller's -/
def leave (w w1 : Wd) : Wd := ⟨w1.G, w1.H, w1.g, w1.st.take w.st.length, w.b⟩
theorem leave_sto {N : Nat} (h : Sto K w1) (e : Evo w.st.length (enter w N) w1) : Sto K (leave w w1) ∧ (leave w w1).st.length = w.st.length := by
  have hlen : (w1.st.take w.st.length).length = w.st.length := by rw [List.length_take]; have := e.ln.2; omega
  refine ⟨⟨h.sub, fun i o q => ?_, fun i j hij hi hj => ?_⟩, hlen⟩
  · have q : (w1.st.take w.st.length)[i]? = some o := q
    have hi := (List.getElem?_eq_some_iff.mp q).1
    rw [List.getElem?_take_of_lt (by omega)] at q
    exact h.ob i o q
  · have hi : i < (w1.st.take w.st.length).length := hi
    have hj : j < (w1.st.take w.st.length).length := hj
    have := e.ln.2
    exact h.dj i j hij (by omega) (by omega)
theorem leave_evo {N : Nat} (e : Evo w.st.length (enter w N) w1) : Evo w.st.length w (leave w w1) := by
  have hlen : (w1.st.take w.st.length).length = w.st.length := by rw [List.length_take]; have := e.ln.2; omega
  refine ⟨e.g, fun b o q n => e.keep b o q (fun m => n ((enter_M b).mp m)), e.dm, fun b o q => ?_, fun b m => ?_, fun i hi => ?_, ⟨Nat.le_refl _, by show w.st.length ≤ (w1.st.take w.st.length).length; omega⟩, rfl⟩
  · rcases e.fr b o q with z | z | z
    · exact .inl z
    · exact .inr (.inl z)
    · exact .inr (.inr ((enter_M b).mp z))
  · obtain ⟨i, hi, hb⟩ := m
    have hi : i < (w1.st.take w.st.length).length := hi
    have := e.ln.2
    rcases e.nw b ⟨i, by omega, hb⟩ with z | z
    · exact .inl ((enter_M b).mp z)
    · exact .inr z
  · have h1 := e.kp i hi
    have : (enter w N).g i = w.g i := if_pos hi
    rw [this] at h1
    exact h1
theorem leave_M (b : Addr) (hl : w.st.length ≤ w1.st.length) : (leave w w1).M b → w1.M b := by
  rintro ⟨i, hi, hb⟩
  have hi : i < (w1.st.take w.st.length).length := hi
  rw [List.length_take] at hi
  exact ⟨i, by omega, hb⟩
/-- what the end of a body says to the caller -/
theorem exit_ok {fr : Bool} {N : Nat} {σ : Sg} {s : S} {x : SV} {v : V} {Q : VK} {E : XK} (hs : Stt K w1 σ s) (r : SvRep K w1 v x) (e : Evo w.st.length (enter w N) w1) (h : FOut K w Q E (exitF fr w.st.length x s.st)) : Q v w1.H := by
  obtain ⟨a1, a2⟩ := leave_sto hs.sto e
  have a3 := leave_evo e
  have est : s.st.take w.st.length = (leave w w1).st := by rw [hs.st]; rfl
  cases x with
  | pu d => exact h v (leave w w1) a1 est.symm r a3
  | sc ns => exact h v (leave w w1) a1 est.symm r a3
  | rf k =>
    unfold exitF at h
    dsimp only at h
    obtain ⟨hk, rfl⟩ := r
    cases q : s.st[k]? with
    | none => rw [q] at h; exact h.elim
    | some o =>
      rw [q] at h
      have q' : w1.st[k]? = some o := by rw [← hs.st]; exact q
      have inR : k < w.st.length → SvRep K (leave w w1) (.ref (w1.g k).1) (.rf k) := fun hlt => ⟨by rw [a2]; exact hlt, rfl⟩
      -- an object of the frame's own goes to the caller
      have outR : ∀ {o : MO}, w1.st[k]? = some o → w.st.length ≤ k → ∃ w2, w2.H = w1.H ∧ Sto K w2 ∧ w2.st = s.st.take w.st.length ++ [o] ∧ SvRep K w2 (.ref (w1.g k).1) (.rf w.st.length) ∧ Evo w.st.length w w2 := by
        intro o q' hle
        have hlen : (w1.st.take w.st.length).length = w.st.length := a2
        have old : ∀ i, i < w.st.length → setG w1.g w.st.length (w1.g k) i = w1.g i := fun i hi => setG_ne (Nat.ne_of_lt hi)
        refine ⟨⟨w1.G, w1.H, setG w1.g w.st.length (w1.g k), w1.st.take w.st.length ++ [o], w.b⟩, rfl, ⟨hs.sto.sub, fun i u z => ?_, fun i j hij hi hj b hb hb' => ?_⟩, by rw [hs.st], ⟨by simp; omega, by show V.ref _ = V.ref (setG _ _ _ _).1; rw [setG_same]⟩, ⟨a3.g, a3.keep, a3.dm, a3.fr, fun b m => ?_, fun i hi => ?_, ⟨Nat.le_refl _, by simp; omega⟩, rfl⟩⟩
        · have z : (w1.st.take w.st.length ++ [o])[i]? = some u := z
          by_cases hi : i < w.st.length
          · rw [List.getElem?_append_left (by omega)] at z
            show ObRep K w1.G w1.H (setG w1.g w.st.length (w1.g k) i).1 u (setG w1.g w.st.length (w1.g k) i).2
            rw [old i hi]
            exact a1.ob i u z
          · have hi2 : i = w.st.length := by
              have := (List.getElem?_eq_some_iff.mp z).1
              simp at this
              omega
            subst hi2
            rw [List.getElem?_append_right (by omega), hlen] at z
            simp at z
            subst z
            show ObRep K w1.G w1.H (setG w1.g w.st.length (w1.g k) w.st.length).1 _ (setG w1.g w.st.length (w1.g k) w.st.length).2
            rw [setG_same]
            exact hs.sto.ob k _ q'
        · have hk2 : k < w1.st.length := hk
          have hi : i < w.st.length + 1 := by simpa [hlen] using hi
          have hj : j < w.st.length + 1 := by simpa [hlen] using hj
          have hb : b ∈ (setG w1.g w.st.length (w1.g k) i).2 := hb
          have hb' : b ∈ (setG w1.g w.st.length (w1.g k) j).2 := hb'
          have le := e.ln.2
          by_cases h1 : i < w.st.length
          · rw [old i h1] at hb
            by_cases h2 : j < w.st.length
            · rw [old j h2] at hb'
              exact hs.sto.dj i j hij (by omega) (by omega) b hb hb'
            · have : j = w.st.length := by omega
              subst this
              rw [setG_same] at hb'
              exact hs.sto.dj i k (by omega) (by omega) hk2 b hb hb'
          · have : i = w.st.length := by omega
            subst this
            rw [setG_same] at hb
            rw [old j (by omega)] at hb'
            exact hs.sto.dj k j (by omega) hk2 (by omega) b hb hb'
        · obtain ⟨i, hi, hb⟩ := m
          have hi : i < w.st.length + 1 := by simpa [hlen] using hi
          have hb : b ∈ (setG w1.g w.st.length (w1.g k) i).2 := hb
          have le := e.ln.2
          have toM : w1.M b → w.M b ∨ w.H b = none := fun m => (e.nw b m).elim (fun z => .inl ((enter_M b).mp z)) .inr
          by_cases h1 : i < w.st.length
          · rw [old i h1] at hb
            exact toM ⟨i, by omega, hb⟩
          · have : i = w.st.length := by omega
            subst this
            rw [setG_same] at hb
            exact toM ⟨k, hk, hb⟩
        · show (setG w1.g w.st.length (w1.g k) i).1 = (w.g i).1
          rw [old i hi]
          exact a3.kp i hi
      have plain : (if w.st.length ≤ k then FR.ok (.rf w.st.length) (s.st.take w.st.length ++ [o]) else .ok (.rf k) (s.st.take w.st.length)) = exitF fr w.st.length (.rf k) s.st → Q (.ref (w1.g k).1) w1.H := fun eq => by
        unfold exitF at eq
        dsimp only at eq
        rw [q] at eq
        rw [← eq] at h
        by_cases hle : w.st.length ≤ k
        · rw [if_pos hle] at h
          obtain ⟨w2, b1, b2, b3, b4, b5⟩ := outR q' hle
          rw [← b1]
          exact h _ w2 b2 b3 b4 b5
        · rw [if_neg hle] at h
          exact h _ (leave w w1) a1 est.symm (inR (by omega)) a3
      cases o with
      | lst ds =>
        dsimp only at h
        by_cases hle : w.st.length ≤ k
        · rw [if_pos hle] at h
          cases fr with
          | false =>
            obtain ⟨w2, b1, b2, b3, b4, b5⟩ := outR q' hle
            rw [← b1]
            exact h _ w2 b2 b3 b4 b5
          | true =>
          obtain ⟨w2, b1, b2, b3, b4⟩ := frz_at hs q'
          have e2 : Evo w.st.length (enter w N) w2 := e.trans (b3.mono e.ln.2)
          obtain ⟨c1, c2⟩ := leave_sto b2.sto e2
          have c3 := leave_evo e2
          have st2 : (leave w w2).st = s.st.take w.st.length := by
            show w2.st.take w.st.length = _
            rw [← b2.st]
            exact List.take_set_of_le hle
          rw [← b1]
          exact h _ (leave w w2) c1 st2 b4 c3
        · rw [if_neg hle] at h
          exact h _ (leave w w1) a1 est.symm (inR (by omega)) a3
      | fz d =>
        have d1 := pur_dp (d := d) hs (show SvRep K w1 (.ref (w1.g k).1) (.rf k) from ⟨hk, rfl⟩) (by unfold pur; dsimp only; rw [q])
        exact h _ (leave w w1) a1 est.symm d1 a3
      | dic kvs => exact plain (by unfold exitF; dsimp only; rw [q])
      | ins C fs => exact plain (by unfold exitF; dsimp only; rw [q])
      | gone => exact plain (by unfold exitF; dsimp only; rw [q])
theorem exit_ex {N : Nat} {σ : Sg} {s : S} {c : Addr} {d : PyData} {cls : Value} {dd : Option Addr} {Q : VK} {E : XK} (hs : Stt K w1 σ s) (r : ExRep K w1 c d cls dd) (e : Evo w.st.length (enter w N) w1) (h : FOut K w Q E (.ex c d (s.st.take w.st.length))) : E cls dd w1.H := by
  obtain ⟨a1, a2⟩ := leave_sto hs.sto e
  have a3 := leave_evo e
  have est : s.st.take w.st.length = (leave w w1).st := by rw [hs.st]; rfl
  refine h cls dd (leave w w1) a1 est.symm ?_ a3
  obtain ⟨h1, da, v, h2, h3, h4, h5⟩ := r
  exact ⟨h1, da, v, h2, h3, fun m => h4 (leave_M da e.ln.2 m), h5⟩
end
end
end Lw
/-! Lw10: the body of a def keeps its promise; calls. -/
namespace Lw
open PySem PySem.Spec PyProof.Rows L2
noncomputable section

/-- the wish of a def's body about exceptions -/
abbrev WE' (E : XK) : WX := fun c d _ H => E c d H
abbrev PassW (X : Cx) (W : WX) : Prop := ∀ σ, PassesAt (L2.CX X.prog X.w) X σ fun c d H => W c d σ H
theorem passW_of {X : Cx} {W : WX} (t : Takes X W) : PassW X W := fun σ _ _ _ e s' I c => t e s' (XE.of_call I (fun _ _ _ h => h) c)
theorem passW_0 {X : Cx} : PassW X W0 := fun σ _ _ _ e s' _ c => by
  obtain ⟨_, _, _, _, _, _, _, _, _, _, _, _, z⟩ := c
  exact z.elim

section
variable {P : Program} {w : World} {K : PySem.W.Frag} {mg : Str → Option Value} {base : Heap}
theorem run_read {fr : Bool} {N : List Str} {ps : Nat} {b : S → Out} {vs : List V} {H : Hp} {Q : VK} {E : XK} (hn : ps ≤ N.length) (h : SpD K ps (runX fr N.length b) vs H Q E) :
    TDS K (WE' E) b { nx := fun _ H' => Q .non H', rt := Q } (L2.start N vs) H := by
  obtain ⟨wd, svs, rfl, hs, r, hl, h⟩ := h
  have hs0 := enter_stt hs r (by rw [hl]; exact hn)
  refine ⟨enter wd N.length, _, rfl, hs0, ?_⟩
  unfold runX at h
  cases q : b ⟨svs.map some ++ List.replicate (N.length - svs.length) none, wd.st ++ List.replicate N.length .gone, wd.st.length⟩ with
  | no => rw [q] at h; exact h
  | bk s1 => rw [q] at h; exact h.elim
  | ct s1 => rw [q] at h; exact h.elim
  | nx s1 => rw [q] at h; exact fun σ1 w1 hs1 e1 => exit_ok (x := .pu .none) (v := .non) (E := E) hs1 Dq.non e1 h
  | rt x s1 => rw [q] at h; exact fun v σ1 w1 hs1 r1 e1 => exit_ok (E := E) hs1 r1 e1 h
  | ex c d s1 => rw [q] at h; exact fun cls dd σ1 w1 hs1 r1 e1 => exit_ex (Q := Q) hs1 r1 e1 h
theorem guard_deeper {A : Around} {env : Env} (h : A.guards = some []) : (A.deeper env).guards = some [] := h
/-- a def of the text keeps its promise, from its body -/
theorem fng_mk {fr : Bool} {x qual : Str} {st : Stmt} {f : Addr} {fd : FuncData} {N ps : List Str} {k : Nat} {b : S → Out} (F : Fun K x qual st f fd) (Sc : FnScope N ps (defScope st)) (hn : ps.length ≤ N.length)
    (hbody : ∀ (cdv : Value) (A : Around) (outer : List Env) (s : Shared) (H : Hp) (E : XK), Room k (A.deeper (envOfC qual (defScope st) s.heap.objs.size f cdv)) → A.guards = some [] →
      DSs (cxOf (L2.CX P w) P w K mg base N qual (defScope st) f cdv A outer s H E) (WE' E) (defBody st) b) :
    FnG P w K mg base (k + 1) f fd ps (SpD K ps.length (runX fr N.length b)) := by
  obtain ⟨oc, od, kV, doc, pm, an, cdv, ct, osl, rfl, lk, hcd⟩ := F.ex
  constructor
  intro A outer s H args us vs Q E room grd env0 bnd rel want
  obtain ⟨wd0, svs0, e0, _, _, lenV, _⟩ := id want
  have inK : K.In s.heap := env0.mod.kin.keeps fun a o q => (env0.bs a o q).1
  have noLim : s.heap.NoLimit := env0.mod.nolimit.keeps fun a o q => (env0.bs a o q).1
  have params : ∀ y ∈ ps.zip us, (defScope st).names.lookup y.1 = some .local ∨ ((defScope st).names.lookup y.1 = some .cell ∧ ((cellsFrom (s.heap.objs.size + 1) (defScope st).names []).lookup y.1).isSome = true) := by
    rintro ⟨nm, vl⟩ hm
    exact (Sc.par nm (List.of_mem_zip hm).1).imp id fun z => ⟨z, PySem.W.cellsFrom_some _ _ _ (.inl z)⟩
  refine codeAny_call_function room.depth (inK _ _ lk) rfl Sc.co Sc.gen rfl (PySem.W.codeRec_of inK hcd) (bnd _ _ _ _ (wpAny_newFunctionEnv_cells Sc.kind params fun env he s1 x => ?_))
  cases he
  refine ⟨noLim.keeps x.toInCall.keep, codeAny_func ?_⟩
  have start1 := inv_start (CX := L2.CX P w) (E := E) Sc room.hd env0 lenV rel x
  refine wpAny_mono ((hbody cdv A outer s H E (room.deeper _) grd).run [] s1 (L2.start N vs) H _ start1 (run_read hn want)) (fun fl s2 out => ?_) fun _ _ z => z
  cases fl with
  | ret u => obtain ⟨v, σ1, H1, J, rv, q⟩ := out; exact ⟨v, H1, J.os, J.bare, J.base, J.hok, rv, q⟩
  | next => obtain ⟨σ1, H1, J, q⟩ := out; exact ⟨.non, H1, J.os, J.bare, J.base, J.hok, rfl, q⟩
  | brk => obtain ⟨_, _, _, q⟩ := out; exact q.elim
  | cont => obtain ⟨_, _, _, q⟩ := out; exact q.elim
end

/-! ### calls -/
def FR.res (s : S) : FR → Res SV
  | .no => .no
  | .ok x st => .ok x { s with st := st }
  | .ex c d st => .ex c d { s with st := st }
def eCall (f : FD) (t : S → Res (List SV)) : S → Res SV := fun s => (t s).bind fun xs s1 => (f xs s1.st).res s1
/-- which argument goes to which parameter -/
def perm {α : Type} (p : List Nat) (l : List α) : List α := p.filterMap fun i => l[i]?
/-- how a call's values bind: n positional ones, then those of the keywords ks -/
def CB (K : PySem.W.Frag) (fd : FuncData) (ps : List Str) (n : Nat) (ks : List Str) (p : List Nat) : Prop :=
  ∀ (s : Shared) (us ws : List Value), us.length = n → ws.length = ks.length → BindsTo s fd ⟨us, ks.zip ws⟩ (ps.zip (perm p (us ++ ws)))
section
variable {X : Cx} {W : WX} {k : Nat} {f C : Addr} {fd : FuncData} {ps ks : List Str} {x m : Str} {p pos apos : Pos} {e o : Expr} {es : List Expr} {kws : List Keyword} {dl dk : S → Res (List SV)} {den : FD} {n : Nat} {pr : List Nat}
theorem perm_vals {vs : List V} {us : List Value} (h : Vals vs us) (pr : List Nat) : Vals (perm pr vs) (perm pr us) := by
  induction pr with
  | nil => exact .nil
  | cons i r ih =>
    unfold perm
    rw [List.filterMap_cons, List.filterMap_cons]
    cases q : vs[i]? with
    | none => rw [h.none_of q]; exact ih
    | some v =>
      obtain ⟨u, e, rv⟩ := h.get q
      rw [e]
      exact .cons rv ih
theorem perm_rl {K : PySem.W.Frag} {w : Wd} {vs : List V} {xs : List SV} (h : rL K w vs xs) (pr : List Nat) : rL K w (perm pr vs) (perm pr xs) := by
  have get : ∀ {vs : List V} {xs : List SV} (i : Nat), rL K w vs xs → (vs[i]? = none ∧ xs[i]? = none) ∨ ∃ v y, vs[i]? = some v ∧ xs[i]? = some y ∧ SvRep K w v y := by
    intro vs xs i r
    induction r generalizing i with
    | nil => exact .inl ⟨by simp, by simp⟩
    | cons r0 t0 ih =>
      cases i with
      | zero => exact .inr ⟨_, _, rfl, rfl, r0⟩
      | succ i => simpa using ih i
  induction pr with
  | nil => exact .nil
  | cons i r ih =>
    unfold perm
    rw [List.filterMap_cons, List.filterMap_cons]
    rcases get i h with ⟨a, b⟩ | ⟨v, y, a, b, c⟩
    · rw [a, b]; exact ih
    · rw [a, b]; exact .cons c ih
theorem rL.append {K : PySem.W.Frag} {w : Wd} : ∀ {vs us : List V} {xs ys : List SV}, rL K w vs xs → rL K w us ys → rL K w (vs ++ us) (xs ++ ys)
  | _, _, _, _, .nil, h => h
  | _, _, _, _, .cons r t, h => .cons r (rL.append t h)
/-- the callee runs -/
theorem run_g {pins : List (Addr × Obj)} {σ : Sg} {H : Hp} {s : Shared} {Q : VK} {us ws : List Value} {vs zs : List V} {sp : Sp} (F : FnG X.prog X.w X.K X.mg X.base k f fd ps sp) (hr : Room k X.A) (hG : X.A.guards = some []) (hb : CB X.K fd ps n ks pr) (hx : PassW X W)
    (I : Inv X pins σ H s) (r : Vals vs us) (rz : Vals zs ws) (l1 : vs.length = n) (l2 : zs.length = ks.length) (h : sp (perm pr (vs ++ zs)) H Q fun c d H' => W c d σ H') : wpAny (model X.prog X.w) X.A (call (.ref f) us (ks.zip ws)) (EP X pins σ Q) X.xe s := by
  have b := hb s us ws (r.length.symm.trans l1) (rz.length.symm.trans l2)
  refine wpAny_call (codeAny_mono (F.run X.A X.stack s H ⟨us, ks.zip ws⟩ _ _ Q _ hr hG I.env0 b (perm_vals (r.append rz) pr) h) fun res s' hq => ?_)
  cases res with
  | error e => exact hx σ pins H s e s' I hq
  | ok fl =>
    cases fl with
    | ret u => exact I.after hq
    | next => exact hq.elim
    | brk => exact hq.elim
    | cont => exact hq.elim
/-- what a call's promise asks, from the denotation's reading -/
theorem call_read {w : Wd} {σ : Sg} {s1 : S} {Q : VK} {vs : List V} {xs : List SV} (hs : Stt X.K w σ s1) (r : rL X.K w vs xs) (hl : vs.length = ps.length) (h : ROut X.K W w σ (SvRep X.K) Q ((den xs s1.st).res s1)) : SpD X.K ps.length den vs w.H Q fun c d H' => W c d σ H' := by
  refine ⟨w, xs, rfl, hs.sto, r, hl, ?_⟩
  rw [hs.st] at h
  have fit : ∀ {w' : Wd} {st' : List MO}, Sto X.K w' → w'.st = st' → Evo w.st.length w w' → Stt X.K w' σ { s1 with st := st' } := fun {w' st'} t e ev => by
    refine ⟨t, e.symm, hs.len, fun i x q => ?_, Nat.le_trans hs.bs ev.ln.2, hs.be.trans ev.bb.symm⟩
    obtain ⟨v, h1, h2⟩ := hs.sl i x q
    exact ⟨v, h1, h2.evo ev (Nat.le_refl _)⟩
  cases q : den xs w.st with
  | no => rw [q] at h; exact h.elim
  | ok x st' => rw [q] at h; exact fun v w' t e rv ev => h v w' (fit t e ev) rv ev
  | ex c d st' => rw [q] at h; exact fun cls dd w' t e rv ev => h cls dd w' (fit t e ev) rv ev
theorem perm_len {α : Type} {pr : List Nat} {l : List α} (h : ∀ i ∈ pr, i < l.length) : (perm pr l).length = pr.length := by
  induction pr with
  | nil => rfl
  | cons i r ih =>
    unfold perm
    rw [List.filterMap_cons, List.getElem?_eq_getElem (h i List.mem_cons_self)]
    exact congrArg Nat.succ (ih fun j hj => h j (List.mem_cons_of_mem _ hj))
abbrev DK (X : Cx) (W : WX) (kws : List Keyword) (den : S → Res (List SV)) : Prop := PK X kws (TR X.K W (rL X.K) den)
theorem pk_imp {t t' : TA} (h : PK X kws t) (k : ∀ σ H Q, t' σ H Q → t σ H Q) : PK X kws t' := ⟨fun pos pins s σ H Q I q => h.run pos pins s σ H Q I (k _ _ _ q)⟩
theorem dk_nil : DK X W [] aNil := pk_imp pk_nil fun σ H Q h => by
  obtain ⟨w, s, rfl, hs, h⟩ := h
  exact ROut.ret (rep := rL X.K) (x := []) hs h .nil
theorem dk_cons {nm : Option Str} {kpos : Pos} {d : S → Res SV} (ha : DE X W e d) (hr : DK X W kws dl) : DK X W (⟨nm, e, kpos⟩ :: kws) (aCons d dl) := pk_imp (pk_cons ha hr) fun σ H Q h => by
  obtain ⟨w, s, rfl, hs, h⟩ := h
  refine TR.seq hs h fun v x s1 w1 hs1 r1 e1 h1 => ?_
  refine TR.seq hs1 h1 fun vs xs s2 w2 hs2 r2 e2 h2 => ?_
  exact ROut.ret (rep := rL X.K) (x := x :: xs) hs2 h2 (.cons (r1.evo e2 (Nat.le_refl _)) r2)
/-- all values of a call, in the parameters' order -/
def aArgs (n m : Nat) (pr : List Nat) (a b : S → Res (List SV)) : S → Res (List SV) := fun s => (a s).bind fun xs s1 => (b s1).bind fun ys s2 => if xs.length = n ∧ ys.length = m then .ok (perm pr (xs ++ ys)) s2 else .no
/-- f(e, .., k = v, ..) -/
theorem de_call (F : FnG X.prog X.w X.K X.mg X.base k f fd ps (SpD X.K ps.length den)) (hr : Room k X.A) (hG : X.A.guards = some []) (hx : PassW X W) (hm : X.mg x = some (.ref f)) (hk : PySem.W.keepIn X.K (.ref f) = true) (hb : CB X.K fd ps n ks pr) (hpr : pr.length = ps.length) (hpl0 : ∀ i ∈ pr, i < n + ks.length)
    (ha : DA X W (e :: es) dl) (hkw : DK X W kws dk) (hg : Gl X x := by rfl) (hall : (backToKw pos (keywordEach kws X.env)).all (·.1.isSome) = true := by rfl) (hks : (backToKw pos (keywordEach kws X.env)).filterMap (·.1) = ks := by rfl)
    (hdb : (x == ("__debug__" : Str)) = false := by decide) (he : starEach (e :: es) X.env = (false, eval e X.env) :: starEach es X.env := by rfl)
    (hpl : ((backTo pos (starEach (e :: es) X.env)).any (·.1) || (backToKw pos (keywordEach kws X.env)).any (·.1.isNone)) = false := by rfl) : DE X W (.Call (.Name x p) (e :: es) kws pos) (eCall den (aArgs n ks.length pr dl dk)) := by
  refine ⟨fun pins s σ H Q I h => ?_⟩
  obtain ⟨w, s0, rfl, hs, h⟩ := h
  refine wpAny_Call_Name_kw (ld_glob I hg hm ?_ hdb)
  have h' : ROut X.K W w σ (SvRep X.K) Q ((dl s0).bind fun xs s1 => ((dk s1).bind fun ys s2 => if xs.length = n ∧ ys.length = ks.length then .ok (perm pr (xs ++ ys)) s2 else .no).bind fun xs s1 => (den xs s1.st).res s1) := by
    unfold eCall aArgs at h
    cases q : dl s0 with
    | no => rw [q] at h; exact h
    | ex c d s1 => rw [q] at h; exact h
    | ok xs s1 => rw [q] at h; exact h
  refine PySem.W.callWith_KW (h₀ := X.base) I.ok.mod.kin hk hall (thn (ha.run pos pins s σ w.H _ I (TR.seq hs h' (P := fun vs H1 => TR X.K W (rL X.K) dk σ H1 fun zs H2 => vs.length = n ∧ zs.length = ks.length ∧ SpD X.K ps.length den (perm pr (vs ++ zs)) H2 Q fun c d H' => W c d σ H') fun vs xs s1 w1 hs1 r1 e1 h1 => ?_)) fun us s1 hu => ?_) hpl he
  · have h1' : ROut X.K W w1 σ (SvRep X.K) Q ((dk s1).bind fun ys s2 => (if xs.length = n ∧ ys.length = ks.length then Res.ok (perm pr (xs ++ ys)) s2 else .no).bind fun xs s1 => (den xs s1.st).res s1) := by
      cases q : dk s1 with
      | no => rw [q] at h1; exact h1
      | ex c d s2 => rw [q] at h1; exact h1
      | ok ys s2 => rw [q] at h1; exact h1
    refine TR.seq hs1 h1' fun zs ys s2 w2 hs2 r2 e2 h2 => ?_
    by_cases c : xs.length = n ∧ ys.length = ks.length
    · rw [if_pos c] at h2
      have r1' := rL.evo e2 (Nat.le_refl _) r1
      have l1 : vs.length = n := (Paired.length r1).trans c.1
      have l2 : zs.length = ks.length := (Paired.length r2).trans c.2
      refine ⟨l1, l2, call_read hs2 (perm_rl (r1'.append r2) pr) ?_ h2⟩
      rw [perm_len fun i hi => by rw [List.length_append, l1, l2]; exact hpl0 i hi]
      exact hpr
    · rw [if_neg c] at h2; exact h2.elim
  · obtain ⟨vs, H1, I1, rv, q⟩ := hu
    refine thn (hkw.run pos pins s1 σ H1 _ I1 q) fun ws s2 hw => ?_
    obtain ⟨zs, H2, I2, rz, l1, l2, q2⟩ := hw
    refine ⟨I2.kIn, ?_⟩
    rw [hks]
    exact run_g F hr hG hb hx I2 rv rz l1 l2 q2
end
end
end Lw
/-! Lw11: calls without positional arguments; methods; new instances; fields. -/
namespace Lw
open PySem PySem.Spec PyProof.Rows L2
noncomputable section
section
variable {X : Cx} {W : WX} {k : Nat} {f C : Addr} {fd : FuncData} {ps ks : List Str} {x m : Str} {p pos apos : Pos} {e o : Expr} {es : List Expr} {kws : List Keyword} {d : S → Res SV} {dl dk : S → Res (List SV)} {den : FD} {n : Nat} {pr : List Nat}
/-- f(k = v, ..), f() -/
def aKw (m : Nat) (pr : List Nat) (b : S → Res (List SV)) : S → Res (List SV) := fun s => (b s).bind fun ys s2 => if ys.length = m then .ok (perm pr ys) s2 else .no
theorem de_callK (F : FnG X.prog X.w X.K X.mg X.base k f fd ps (SpD X.K ps.length den)) (hr : Room k X.A) (hG : X.A.guards = some []) (hx : PassW X W) (hm : X.mg x = some (.ref f)) (hk : PySem.W.keepIn X.K (.ref f) = true) (hb : CB X.K fd ps 0 ks pr) (hpr : pr.length = ps.length) (hpl0 : ∀ i ∈ pr, i < ks.length)
    (hkw : DK X W kws dk) (hg : Gl X x := by rfl) (hall : (backToKw pos (keywordEach kws X.env)).all (·.1.isSome) = true := by rfl) (hks : (backToKw pos (keywordEach kws X.env)).filterMap (·.1) = ks := by rfl)
    (hdb : (x == ("__debug__" : Str)) = false := by decide) (hpl : ((backTo pos (starEach [] X.env)).any (·.1) || (backToKw pos (keywordEach kws X.env)).any (·.1.isNone)) = false := by rfl) : DE X W (.Call (.Name x p) [] kws pos) (eCall den (aKw ks.length pr dk)) := by
  refine ⟨fun pins s σ H Q I h => ?_⟩
  obtain ⟨w, s0, rfl, hs, h⟩ := h
  refine wpAny_Call_Name_kw (ld_glob I hg hm ?_ hdb)
  have h' : ROut X.K W w σ (SvRep X.K) Q ((dk s0).bind fun ys s2 => (if ys.length = ks.length then Res.ok (perm pr ys) s2 else .no).bind fun xs s1 => (den xs s1.st).res s1) := by
    unfold eCall aKw at h
    cases q : dk s0 with
    | no => rw [q] at h; exact h
    | ex c d s1 => rw [q] at h; exact h
    | ok xs s1 => rw [q] at h; exact h
  refine PySem.W.callWith_KW0 (h₀ := X.base) I.ok.mod.kin hk hall (thn (hkw.run pos pins s σ w.H _ I (TR.seq hs h' (P := fun zs H2 => zs.length = ks.length ∧ SpD X.K ps.length den (perm pr zs) H2 Q fun c d H' => W c d σ H') fun zs ys s2 w2 hs2 r2 e2 h2 => ?_)) fun ws s2 hw => ?_) hpl
  · by_cases c : ys.length = ks.length
    · rw [if_pos c] at h2
      have l2 : zs.length = ks.length := (Paired.length r2).trans c
      refine ⟨l2, call_read hs2 (perm_rl r2 pr) ?_ h2⟩
      rw [perm_len fun i hi => by rw [l2]; exact hpl0 i hi]
      exact hpr
    · rw [if_neg c] at h2; exact h2.elim
  · obtain ⟨zs, H2, I2, rz, l2, q2⟩ := hw
    refine ⟨I2.kIn, ?_⟩
    rw [hks]
    exact run_g (us := []) (vs := []) F hr hG hb hx I2 .nil rz rfl l2 q2
/-! ### an instance and its method -/
def insAt (st : List MO) (x : SV) : Option (Nat × Addr × List (Str × FV)) := match x with
  | .rf j => match st[j]? with
    | some (.ins C fs) => some (j, C, fs)
    | _ => none
  | _ => none
theorem insAt_inv {st : List MO} {x : SV} {j : Nat} {C : Addr} {fs : List (Str × FV)} (h : insAt st x = some (j, C, fs)) : x = .rf j ∧ st[j]? = some (.ins C fs) := by
  unfold insAt at h
  split at h
  · split at h
    · rename_i q; cases h; exact ⟨rfl, q⟩
    · cases h
  · cases h
theorem fvs_lookup {K : PySem.W.Frag} {G H : Hp} : ∀ {vs : List (Str × V)} {us : List (Str × FV)} {fp : List Addr} (f : Str), FvsRep K G H vs us fp → (us.lookup f = none → vs.lookup f = none) ∧ ∀ d, us.lookup f = some (.pu d) → ∃ v, vs.lookup f = some v ∧ Dq K G v d
  | _, _, _, f, .nil => ⟨fun _ => rfl, fun d h => absurd h (by simp)⟩
  | _, _, _, f, .cons (f := g) (v := v) (u := u) h t _ => by
    have ab := fvs_lookup f t
    have a := ab.1
    have b := ab.2
    cases q : f == g with
    | true =>
      rw [List.lookup_cons, List.lookup_cons, q]
      refine ⟨fun z => (by cases z), fun d z => ?_⟩
      have z' : u = .pu d := Option.some.inj z
      subst z'
      cases h with
      | pu h => exact ⟨v, rfl, h⟩
    | false =>
      rw [List.lookup_cons, List.lookup_cons, q]
      exact ⟨a, b⟩
theorem fvs_len {K : PySem.W.Frag} {G H : Hp} : ∀ {vs : List (Str × V)} {us : List (Str × FV)} {fp : List Addr}, FvsRep K G H vs us fp → vs.length = us.length
  | _, _, _, .nil => rfl
  | _, _, _, .cons _ t _ => by rw [List.length_cons, List.length_cons, fvs_len t]
/-- what an instance's object is -/
theorem ins_rep {w : Wd} {σ : Sg} {s : S} {v : V} {x : SV} {j : Nat} {C : Addr} {fs : List (Str × FV)} (hs : Stt X.K w σ s) (r : SvRep X.K w v x) (h : insAt s.st x = some (j, C, fs)) :
    ∃ dx vs fp, x = .rf j ∧ v = .ref (w.g j).1 ∧ w.H (w.g j).1 = some (.ins C dx vs) ∧ FvsRep X.K w.G w.H vs fs fp ∧ (w.g j).1 ∉ fp ∧ (w.g j).2 = (w.g j).1 :: fp ∧ w.G (w.g j).1 = none ∧ w.st[j]? = some (.ins C fs) := by
  obtain ⟨rfl, q⟩ := insAt_inv h
  obtain ⟨hj, rfl⟩ := r
  have q' : w.st[j]? = some (.ins C fs) := by rw [← hs.st]; exact q
  have ob := hs.sto.ob j _ q'
  obtain ⟨a, fp, ea⟩ : ∃ a fp, w.g j = (a, fp) := ⟨_, _, rfl⟩
  rw [ea] at ob ⊢
  dsimp only at ob ⊢
  cases ob with
  | ins g hh t n => exact ⟨_, _, _, rfl, rfl, hh, t, n, rfl, g, q'⟩
/-- o.f -/
def eFld (o : S → Res SV) (f : Str) (C : Addr) : S → Res SV := fun s => (o s).bind fun x s1 => match insAt s1.st x with
  | some (_, C', fs) => if C' = C then (match fs.lookup f with
    | some (.pu d) => .ok (.pu d) s1
    | _ => .no) else .no
  | none => .no
theorem de_fld {fl : Str} (c : Cls X.K C) (na : NoAttr X.K C fl) (ho : DE X W o d) (hb : attributeBase o fl X.env (eval o X.env) = eval o X.env := by rfl) : DE X W (.Attribute o fl pos) (eFld d fl C) := pe_imp (pe_fld ho hb) fun σ H Q h => by
  obtain ⟨w, s, rfl, hs, h⟩ := h
  refine TR.seq hs h fun v x s1 w1 hs1 r1 e1 h1 => ?_
  cases q : insAt s1.st x with
  | none => rw [q] at h1; exact h1.elim
  | some t =>
    obtain ⟨j, C', fs⟩ := t
    rw [q] at h1
    dsimp only at h1
    split at h1
    · rename_i hC
      subst hC
      obtain ⟨dx, vs, fp, rfl, rfl, hh, t, nn, ef, gg, _⟩ := ins_rep hs1 r1 q
      split at h1
      · rename_i d0 q2
        obtain ⟨v, h2, h3⟩ := (fvs_lookup fl t).2 d0 q2
        exact ⟨_, C', dx, vs, v, rfl, hh, c, na, h2, ROut.ret (rep := SvRep X.K) (x := .pu d0) hs1 h1 h3⟩
      · exact h1.elim
    · exact h1.elim
/-- o.m(e, .., k = v, ..): the receiver's object is looked at before the arguments -/
def eMeth (f : FD) (m : Str) (C : Addr) (o : S → Res SV) (t : S → Res (List SV)) : S → Res SV := fun s => (o s).bind fun x s1 => match insAt s1.st x with
  | some (_, C', fs) => if C' = C ∧ fs.lookup m = none then ((t s1).bind fun xs s2 => (f (x :: xs) s2.st).res s2) else .no
  | none => .no
theorem meth_look {w : Wd} {σ : Sg} {s1 : S} {Q : VK} {v : V} {x : SV} {t : S → Res (List SV)} {f : FD} (hs : Stt X.K w σ s1) (r : SvRep X.K w v x)
    (h : ROut X.K W w σ (SvRep X.K) Q (match insAt s1.st x with | some (_, C', fs) => if C' = C ∧ fs.lookup m = none then ((t s1).bind fun xs s2 => (f (x :: xs) s2.st).res s2) else .no | none => .no)) :
    ∃ a dx vs, v = .ref a ∧ w.H a = some (.ins C dx vs) ∧ vs.lookup m = none ∧ ROut X.K W w σ (SvRep X.K) Q ((t s1).bind fun xs s2 => (f (x :: xs) s2.st).res s2) := by
  cases q : insAt s1.st x with
  | none => rw [q] at h; exact h.elim
  | some t =>
    obtain ⟨j, C', fs⟩ := t
    rw [q] at h
    dsimp only at h
    split at h
    · rename_i hC
      obtain ⟨rfl, hm⟩ := hC
      obtain ⟨dx, vs, fp, rfl, rfl, hh, t, nn, ef, gg, _⟩ := ins_rep hs r q
      exact ⟨_, dx, vs, rfl, hh, (fvs_lookup m t).1 hm, h⟩
    · exact h.elim
/-- the receiver first, then the others by the call's own places -/
theorem de_meth {pl : Sem Bool} (ho : DE X W o d) (c : Cls X.K C) (hm : Meth X.K C m f) (F : FnG X.prog X.w X.K X.mg X.base k f fd ps (SpD X.K ps.length den)) (hr : Room k X.A) (hG : X.A.guards = some []) (hx : PassW X W) (hb : CB X.K fd ps (n + 1) ks (0 :: pr.map (· + 1))) (hpr : pr.length + 1 = ps.length) (hpl0 : ∀ i ∈ pr, i < n + ks.length)
    (ha : DA X W (e :: es) dl) (hkw : DK X W kws dk) (hall : (backToKw pos (keywordEach kws X.env)).all (·.1.isSome) = true := by rfl) (hks : (backToKw pos (keywordEach kws X.env)).filterMap (·.1) = ks := by rfl)
    (he : starEach (e :: es) X.env = (false, eval e X.env) :: starEach es X.env := by rfl)
    (hpl : ((backTo pos (starEach (e :: es) X.env)).any (·.1) || (backToKw pos (keywordEach kws X.env)).any (·.1.isNone)) = false := by rfl)
    (ht : eval (.Call (.Attribute o m apos) (e :: es) kws pos) X.env = (do
      let ov ← eval o X.env
      standAt apos.atName
      let (f, first) ← holding [ov] (getMethod ov m pl)
      callWith pos f first (backTo pos (starEach (e :: es) X.env)) (backToKw pos (keywordEach kws X.env))) := by rfl) :
    DE X W (.Call (.Attribute o m apos) (e :: es) kws pos) (eMeth den m C d (aArgs n ks.length pr dl dk)) := by
  refine ⟨fun pins s σ H Q I h => ?_⟩
  obtain ⟨w, s0, rfl, hs, h⟩ := h
  refine PySem.W.methodCall_KW (pl := pl) (thn (ho.run pins s σ w.H _ I (TR.seq hs h (P := fun v H1 => ∃ a dx vs, v = .ref a ∧ H1 a = some (.ins C dx vs) ∧ vs.lookup m = none ∧
      TR X.K W (rL X.K) dl σ H1 fun us H2 => TR X.K W (rL X.K) dk σ H2 fun zs H3 => us.length = n ∧ zs.length = ks.length ∧ SpD X.K ps.length den (v :: perm pr (us ++ zs)) H3 Q fun c d H' => W c d σ H') fun v x s1 w1 hs1 r1 e1 h1 => ?_)) fun u s1 hu => ?_) ht
  · obtain ⟨a, dx, vs, rfl, hh, hl, h2⟩ := meth_look (m := m) (C := C) hs1 r1 h1
    refine ⟨a, dx, vs, rfl, hh, hl, ?_⟩
    have h2' : ROut X.K W w1 σ (SvRep X.K) Q ((dl s1).bind fun xs s1 => ((dk s1).bind fun ys s2 => if xs.length = n ∧ ys.length = ks.length then .ok (perm pr (xs ++ ys)) s2 else .no).bind fun xs s1 => (den (x :: xs) s1.st).res s1) := by
      unfold aArgs at h2
      cases q : dl s1 with
      | no => rw [q] at h2; exact h2
      | ex c d s2 => rw [q] at h2; exact h2
      | ok xs s2 => rw [q] at h2; exact h2
    refine TR.seq hs1 h2' fun us xs s2 w2 hs2 r2 e2 h3 => ?_
    have h3' : ROut X.K W w2 σ (SvRep X.K) Q ((dk s2).bind fun ys s3 => (if xs.length = n ∧ ys.length = ks.length then Res.ok (perm pr (xs ++ ys)) s3 else .no).bind fun xs s1 => (den (x :: xs) s1.st).res s1) := by
      cases q : dk s2 with
      | no => rw [q] at h3; exact h3
      | ex c d s3 => rw [q] at h3; exact h3
      | ok ys s3 => rw [q] at h3; exact h3
    refine TR.seq hs2 h3' fun zs ys s3 w3 hs3 r3 e3 h4 => ?_
    by_cases c : xs.length = n ∧ ys.length = ks.length
    · rw [if_pos c] at h4
      have r1' := (r1.evo e2 (Nat.le_refl _)).evo e3 (Nat.le_refl _)
      have r2' := rL.evo e3 (Nat.le_refl _) r2
      have l1 : us.length = n := (Paired.length r2).trans c.1
      have l2 : zs.length = ks.length := (Paired.length r3).trans c.2
      refine ⟨l1, l2, call_read (xs := x :: perm pr (xs ++ ys)) hs3 (.cons r1' (perm_rl (r2'.append r3) pr)) ?_ h4⟩
      rw [List.length_cons, perm_len fun i hi => by rw [List.length_append, l1, l2]; exact hpl0 i hi]
      exact hpr
    · rw [if_neg c] at h4; exact h4.elim
  · obtain ⟨v, H1, I1, rv, a, dx, vs, ev, hh, hl, q⟩ := hu
    subst ev
    obtain rfl : u = Value.ref a := rv
    refine getmeth_ok I1 hh c hm hl ?_
    refine PySem.W.callWith_KW (h₀ := X.base) (first := [.ref a]) I.ok.mod.kin hm.kp hall (thn (ha.run pos pins s1 σ H1 _ I1 q) fun us s2 hu => ?_) hpl he
    obtain ⟨vs2, H2, I2, r2, q2⟩ := hu
    refine thn (hkw.run pos pins s2 σ H2 _ I2 q2) fun ws s3 hw => ?_
    obtain ⟨zs, H3, I3, rz, l1, l2, q3⟩ := hw
    refine ⟨I3.kIn, ?_⟩
    rw [hks]
    refine run_g (us := .ref a :: us) (vs := .ref a :: vs2) F hr hG hb hx I3 (.cons rfl r2) rz (by simp [l1]) l2 ?_
    have e1 : perm (0 :: pr.map (· + 1)) (V.ref a :: vs2 ++ zs) = V.ref a :: perm pr (vs2 ++ zs) := by
      simp [perm, List.filterMap_map, Function.comp_def]
    rw [e1]
    exact q3
/-- o.m(k = v, ..), o.m() -/
theorem de_methK {pl : Sem Bool} (ho : DE X W o d) (c : Cls X.K C) (hm : Meth X.K C m f) (F : FnG X.prog X.w X.K X.mg X.base k f fd ps (SpD X.K ps.length den)) (hr : Room k X.A) (hG : X.A.guards = some []) (hx : PassW X W) (hb : CB X.K fd ps 1 ks (0 :: pr.map (· + 1))) (hpr : pr.length + 1 = ps.length) (hpl0 : ∀ i ∈ pr, i < ks.length)
    (hkw : DK X W kws dk) (hall : (backToKw pos (keywordEach kws X.env)).all (·.1.isSome) = true := by rfl) (hks : (backToKw pos (keywordEach kws X.env)).filterMap (·.1) = ks := by rfl)
    (hpl : ((backTo pos (starEach [] X.env)).any (·.1) || (backToKw pos (keywordEach kws X.env)).any (·.1.isNone)) = false := by rfl)
    (ht : eval (.Call (.Attribute o m apos) [] kws pos) X.env = (do
      let ov ← eval o X.env
      standAt apos.atName
      let (f, first) ← holding [ov] (getMethod ov m pl)
      callWith pos f first (backTo pos (starEach [] X.env)) (backToKw pos (keywordEach kws X.env))) := by rfl) :
    DE X W (.Call (.Attribute o m apos) [] kws pos) (eMeth den m C d (aKw ks.length pr dk)) := by
  refine ⟨fun pins s σ H Q I h => ?_⟩
  obtain ⟨w, s0, rfl, hs, h⟩ := h
  refine PySem.W.methodCall_KW (pl := pl) (thn (ho.run pins s σ w.H _ I (TR.seq hs h (P := fun v H1 => ∃ a dx vs, v = .ref a ∧ H1 a = some (.ins C dx vs) ∧ vs.lookup m = none ∧
      TR X.K W (rL X.K) dk σ H1 fun zs H3 => zs.length = ks.length ∧ SpD X.K ps.length den (v :: perm pr zs) H3 Q fun c d H' => W c d σ H') fun v x s1 w1 hs1 r1 e1 h1 => ?_)) fun u s1 hu => ?_) ht
  · obtain ⟨a, dx, vs, rfl, hh, hl, h2⟩ := meth_look (m := m) (C := C) hs1 r1 h1
    refine ⟨a, dx, vs, rfl, hh, hl, ?_⟩
    have h2' : ROut X.K W w1 σ (SvRep X.K) Q ((dk s1).bind fun ys s2 => (if ys.length = ks.length then Res.ok (perm pr ys) s2 else .no).bind fun xs s1 => (den (x :: xs) s1.st).res s1) := by
      unfold aKw at h2
      cases q : dk s1 with
      | no => rw [q] at h2; exact h2
      | ex c d s2 => rw [q] at h2; exact h2
      | ok xs s2 => rw [q] at h2; exact h2
    refine TR.seq hs1 h2' fun zs ys s3 w3 hs3 r3 e3 h4 => ?_
    by_cases c : ys.length = ks.length
    · rw [if_pos c] at h4
      have r1' := r1.evo e3 (Nat.le_refl _)
      have l2 : zs.length = ks.length := (Paired.length r3).trans c
      refine ⟨l2, call_read (xs := x :: perm pr ys) hs3 (.cons r1' (perm_rl r3 pr)) ?_ h4⟩
      rw [List.length_cons, perm_len fun i hi => by rw [l2]; exact hpl0 i hi]
      exact hpr
    · rw [if_neg c] at h4; exact h4.elim
  · obtain ⟨v, H1, I1, rv, a, dx, vs, ev, hh, hl, q⟩ := hu
    subst ev
    obtain rfl : u = Value.ref a := rv
    refine getmeth_ok I1 hh c hm hl ?_
    refine PySem.W.callWith_KW0 (h₀ := X.base) (first := [.ref a]) I.ok.mod.kin hm.kp hall (thn (hkw.run pos pins s1 σ H1 _ I1 q) fun ws s3 hw => ?_) hpl
    obtain ⟨zs, H3, I3, rz, l2, q3⟩ := hw
    refine ⟨I3.kIn, ?_⟩
    rw [hks]
    refine run_g (us := [.ref a]) (vs := [.ref a]) F hr hG hb hx I3 (.cons rfl .nil) rz rfl l2 ?_
    have e1 : perm (0 :: pr.map (· + 1)) ([V.ref a] ++ zs) = V.ref a :: perm pr zs := by
      simp [perm, List.filterMap_map, Function.comp_def]
    rw [e1]
    exact q3
end
end
end Lw
/-! Lw12: new instances; fields stored; lists that change. -/
namespace Lw
open PySem PySem.Spec PyProof.Rows L2
noncomputable section
section
variable {K : PySem.W.Frag} {w : Wd} {σ : Sg} {s : S}
/-- a tracked thing that nobody of ours knows -/
theorem junk_at {p : Addr} {o : HO} (hs : Stt K w σ s) (hp : w.H p = none) : Stt K ⟨w.G, upd w.H p o, w.g, w.st, w.b⟩ σ s ∧ Evo w.st.length w ⟨w.G, upd w.H p o, w.g, w.st, w.b⟩ := by
  have gp : w.G p = none := hs.sto.sub.free hp
  have mp : ¬ w.M p := fun ⟨i, hi, hb⟩ => by
    obtain ⟨_, u, z, _⟩ := hs.foot hi p hb
    rw [hp] at z; cases z
  exact ⟨stt_put hs gp mp fun b hb => upd_ne hb, evo_put (Evo.refl (Nat.le_refl _)) hp fun b hb => upd_ne hb⟩
end
theorem guard_make {A : Around} (h : A.guards = some []) (C : Addr) (us : List Value) (kw : List (Str × Value)) : (A.under (.builtin "type.__call__" ⟨.ref C :: us, kw⟩)).guards = some [] := by
  have z : (Code.builtin "type.__call__" ⟨.ref C :: us, kw⟩).isGuard = false := by simp [Code.isGuard, guardIds]
  simp [Around.under, Code.guards, z, pushGuards, h]
section
variable {X : Cx} {W : WX} {k : Nat} {f C : Addr} {fd : FuncData} {ps ks : List Str} {x m : Str} {p pos apos pos' tpos : Pos} {e o : Expr} {es : List Expr} {kws : List Keyword} {d dv : S → Res SV} {dl dk : S → Res (List SV)} {den : FD} {n : Nat} {pr : List Nat}
/-- C(..): the new object stands at the store's end, then __init__ -/
def mkRes (C : Addr) (f : FD) (xs : List SV) (s : S) : Res SV := match f (.rf s.st.length :: xs) (s.st ++ [.ins C []]) with
  | .ok (.pu .none) st => .ok (.rf s.st.length) { s with st := st }
  | .ex c d st => .ex c d { s with st := st }
  | _ => .no
def eMake (C : Addr) (f : FD) (t : S → Res (List SV)) : S → Res SV := fun s => (t s).bind fun xs s1 => mkRes C f xs s1
theorem make_read {w : Wd} {σ : Sg} {s1 : S} {Q : VK} {vs : List V} {xs : List SV} {a dx : Addr} (hs : Stt X.K w σ s1) (r : rL X.K w vs xs) (hl : vs.length + 1 = ps.length) (ha : w.H a = none) (hd : w.H dx = none) (hne : dx ≠ a)
    (h : ROut X.K W w σ (SvRep X.K) Q (mkRes C den xs s1)) : SpD X.K ps.length den (.ref a :: vs) (upd (upd w.H dx (.own a)) a (.ins C dx [])) (fun v H2 => v = .non ∧ Q (.ref a) H2) fun c d H' => W c d σ H' := by
  obtain ⟨hs1, e1⟩ := junk_at (o := .own a) hs hd
  have ha1 : (⟨w.G, upd w.H dx (.own a), w.g, w.st, w.b⟩ : Wd).H a = none := by
    show upd w.H dx (.own a) a = none
    rw [upd_ne (Ne.symm hne)]; exact ha
  have ga : w.G a = none := hs.sto.sub.free ha
  obtain ⟨hs2, e2, r2⟩ := tmp_add (H' := upd (upd w.H dx (.own a)) a (.ins C dx [])) (o := .ins C []) hs1 ha1 (fun b hb => upd_ne hb) (by rw [upd_same]; exact fun z => nomatch z) (.ins ga upd_same .nil (by simp))
  have e12 := e1.trans e2
  have rr : rL X.K _ vs xs := rL.evo e12 (Nat.le_refl _) r
  refine ⟨_, .rf w.st.length :: xs, rfl, hs2.sto, .cons r2 rr, by rw [List.length_cons]; exact hl, ?_⟩
  unfold mkRes at h
  rw [hs.st] at h
  have fit : ∀ {w' : Wd} {st' : List MO}, Sto X.K w' → w'.st = st' → Evo w.st.length w w' → Stt X.K w' σ { s1 with st := st' } := fun {w' st'} t e ev => by
    refine ⟨t, e.symm, hs.len, fun i x q => ?_, Nat.le_trans hs.bs ev.ln.2, hs.be.trans ev.bb.symm⟩
    obtain ⟨v, h1, h2⟩ := hs.sl i x q
    exact ⟨v, h1, h2.evo ev (Nat.le_refl _)⟩
  show FOut X.K _ _ _ (den (.rf w.st.length :: xs) (w.st ++ [.ins C []]))
  cases q : den (.rf w.st.length :: xs) (w.st ++ [.ins C []]) with
  | no => rw [q] at h; exact h.elim
  | ok x st' =>
    rw [q] at h
    cases x with
    | rf j => exact h.elim
    | sc ns => exact h.elim
    | pu d =>
      cases d with
      | none =>
        intro v w' t e rv ev
        have ev' := e12.trans (ev.mono e12.ln.2)
        refine ⟨Dq.non_inv rv, h _ w' (fit t e ev') ?_ ev'⟩
        have h1 := ev.kp w.st.length (by simp)
        have h2 : (setG w.g w.st.length (a, [a]) w.st.length).1 = a := by rw [setG_same]
        refine ⟨?_, ?_⟩
        · have := ev.ln.2
          simp at this
          omega
        · rw [h1]
          show V.ref a = V.ref (setG w.g w.st.length (a, [a]) w.st.length).1
          rw [h2]
      | _ => exact h.elim
  | ex c d st' =>
    rw [q] at h
    intro cls dd w' t e rv ev
    have ev' := e12.trans (ev.mono e12.ln.2)
    exact h cls dd w' (fit t e ev') rv ev'
theorem run_mk {pins : List (Addr × Obj)} {σ : Sg} {H : Hp} {s : Shared} {Q : VK} {us ws : List Value} {vs zs : List V} {sp : Sp} (M : Mk X.K C f) (F : FnG X.prog X.w X.K X.mg X.base k f fd ps sp) (hr : Room (k + 1) X.A) (hG : X.A.guards = some []) (hb : CB X.K fd ps (n + 1) ks (0 :: pr.map (· + 1))) (hx : PassW X W)
    (I : Inv X pins σ H s) (r : Vals vs us) (rz : Vals zs ws) (l1 : vs.length = n) (l2 : zs.length = ks.length)
    (h : ∀ a dx, H a = none → H dx = none → dx ≠ a → sp (.ref a :: perm pr (vs ++ zs)) (upd (upd H dx (.own a)) a (.ins C dx [])) (fun v H2 => v = .non ∧ Q (.ref a) H2) fun c d H' => W c d σ H') :
    wpAny (model X.prog X.w) X.A (call (.ref C) us (ks.zip ws)) (EP X pins σ Q) X.xe s := by
  have want := h (s.heap.objs.size + 1) s.heap.objs.size (I.hok.fresh (Nat.le_succ _)) (I.hok.fresh (Nat.le_refl _)) (Nat.ne_of_lt (Nat.lt_succ_self _))
  have I2 := Inv.made (C := C) I
  have rs : Vals (V.ref (s.heap.objs.size + 1) :: vs) (Value.ref (s.heap.objs.size + 1) :: us) := .cons rfl r
  have b := fun s' : Shared => hb s' (Value.ref (s.heap.objs.size + 1) :: us) ws (by rw [← rs.length]; simp [l1]) (rz.length.symm.trans l2)
  have e1 : perm (0 :: pr.map (· + 1)) (V.ref (s.heap.objs.size + 1) :: vs ++ zs) = V.ref (s.heap.objs.size + 1) :: perm pr (vs ++ zs) := by
    simp [perm, List.filterMap_map, Function.comp_def]
  refine wpAny_call (make_map (f := f) I.kIn M.makes M.init (beq_iff_eq.mp M.fn) (codeAny_mono (F.run _ X.stack _ _ ⟨Value.ref (s.heap.objs.size + 1) :: us, ks.zip ws⟩ _ _ _ _ (hr.make C us (ks.zip ws)) (guard_make hG C us (ks.zip ws))
    (I2.env0.make C us (ks.zip ws)) (b _) (perm_vals (rs.append rz) _) (by rw [e1]; exact want)) fun res s' hq => ?_))
  cases res with
  | error e => exact hx σ pins _ _ e s' I2 hq
  | ok fl =>
    cases fl with
    | ret u =>
      obtain ⟨v, H', I3, rv, ev, q3⟩ := I2.after hq
      subst ev
      exact ⟨rv, ⟨V.ref (s.heap.objs.size + 1), H', I3, rfl, q3⟩⟩
    | next => exact hq.elim
    | brk => exact hq.elim
    | cont => exact hq.elim
theorem de_make (M : Mk X.K C f) (F : FnG X.prog X.w X.K X.mg X.base k f fd ps (SpD X.K ps.length den)) (hr : Room (k + 1) X.A) (hG : X.A.guards = some []) (hx : PassW X W) (hm : X.mg x = some (.ref C)) (hb : CB X.K fd ps (n + 1) ks (0 :: pr.map (· + 1))) (hpr : pr.length + 1 = ps.length) (hpl0 : ∀ i ∈ pr, i < n + ks.length)
    (ha : DA X W (e :: es) dl) (hkw : DK X W kws dk) (hg : Gl X x := by rfl) (hall : (backToKw pos (keywordEach kws X.env)).all (·.1.isSome) = true := by rfl) (hks : (backToKw pos (keywordEach kws X.env)).filterMap (·.1) = ks := by rfl)
    (hdb : (x == ("__debug__" : Str)) = false := by decide) (he : starEach (e :: es) X.env = (false, eval e X.env) :: starEach es X.env := by rfl)
    (hpl : ((backTo pos (starEach (e :: es) X.env)).any (·.1) || (backToKw pos (keywordEach kws X.env)).any (·.1.isNone)) = false := by rfl) : DE X W (.Call (.Name x p) (e :: es) kws pos) (eMake C den (aArgs n ks.length pr dl dk)) := by
  refine ⟨fun pins s σ H Q I h => ?_⟩
  obtain ⟨w, s0, rfl, hs, h⟩ := h
  refine wpAny_Call_Name_kw (ld_glob I hg hm ?_ hdb)
  have h' : ROut X.K W w σ (SvRep X.K) Q ((dl s0).bind fun xs s1 => ((dk s1).bind fun ys s2 => if xs.length = n ∧ ys.length = ks.length then .ok (perm pr (xs ++ ys)) s2 else .no).bind fun xs s1 => mkRes C den xs s1) := by
    unfold eMake aArgs at h
    cases q : dl s0 with
    | no => rw [q] at h; exact h
    | ex c d s1 => rw [q] at h; exact h
    | ok xs s1 => rw [q] at h; exact h
  refine PySem.W.callWith_KW (h₀ := X.base) I.ok.mod.kin M.kp hall (thn (ha.run pos pins s σ w.H _ I (TR.seq hs h' (P := fun vs H1 => TR X.K W (rL X.K) dk σ H1 fun zs H2 => vs.length = n ∧ zs.length = ks.length ∧
      ∀ a dx, H2 a = none → H2 dx = none → dx ≠ a → SpD X.K ps.length den (.ref a :: perm pr (vs ++ zs)) (upd (upd H2 dx (.own a)) a (.ins C dx [])) (fun v H3 => v = .non ∧ Q (.ref a) H3) fun c d H' => W c d σ H') fun vs xs s1 w1 hs1 r1 e1 h1 => ?_)) fun us s1 hu => ?_) hpl he
  · have h1' : ROut X.K W w1 σ (SvRep X.K) Q ((dk s1).bind fun ys s2 => (if xs.length = n ∧ ys.length = ks.length then Res.ok (perm pr (xs ++ ys)) s2 else .no).bind fun xs s1 => mkRes C den xs s1) := by
      cases q : dk s1 with
      | no => rw [q] at h1; exact h1
      | ex c d s2 => rw [q] at h1; exact h1
      | ok ys s2 => rw [q] at h1; exact h1
    refine TR.seq hs1 h1' fun zs ys s2 w2 hs2 r2 e2 h2 => ?_
    by_cases c : xs.length = n ∧ ys.length = ks.length
    · rw [if_pos c] at h2
      have r1' := rL.evo e2 (Nat.le_refl _) r1
      have l1 : vs.length = n := (Paired.length r1).trans c.1
      have l2 : zs.length = ks.length := (Paired.length r2).trans c.2
      refine ⟨l1, l2, fun a dx ha hd hne => make_read hs2 (perm_rl (r1'.append r2) pr) ?_ ha hd hne h2⟩
      rw [perm_len fun i hi => by rw [List.length_append, l1, l2]; exact hpl0 i hi]
      exact hpr
    · rw [if_neg c] at h2; exact h2.elim
  · obtain ⟨vs, H1, I1, rv, q⟩ := hu
    refine thn (hkw.run pos pins s1 σ H1 _ I1 q) fun ws s2 hw => ?_
    obtain ⟨zs, H2, I2, rz, l1, l2, q2⟩ := hw
    refine ⟨I2.kIn, ?_⟩
    rw [hks]
    exact run_mk M F hr hG hb hx I2 rv rz l1 l2 q2
theorem de_makeK (M : Mk X.K C f) (F : FnG X.prog X.w X.K X.mg X.base k f fd ps (SpD X.K ps.length den)) (hr : Room (k + 1) X.A) (hG : X.A.guards = some []) (hx : PassW X W) (hm : X.mg x = some (.ref C)) (hb : CB X.K fd ps 1 ks (0 :: pr.map (· + 1))) (hpr : pr.length + 1 = ps.length) (hpl0 : ∀ i ∈ pr, i < ks.length)
    (hkw : DK X W kws dk) (hg : Gl X x := by rfl) (hall : (backToKw pos (keywordEach kws X.env)).all (·.1.isSome) = true := by rfl) (hks : (backToKw pos (keywordEach kws X.env)).filterMap (·.1) = ks := by rfl)
    (hdb : (x == ("__debug__" : Str)) = false := by decide) (hpl : ((backTo pos (starEach [] X.env)).any (·.1) || (backToKw pos (keywordEach kws X.env)).any (·.1.isNone)) = false := by rfl) : DE X W (.Call (.Name x p) [] kws pos) (eMake C den (aKw ks.length pr dk)) := by
  refine ⟨fun pins s σ H Q I h => ?_⟩
  obtain ⟨w, s0, rfl, hs, h⟩ := h
  refine wpAny_Call_Name_kw (ld_glob I hg hm ?_ hdb)
  have h' : ROut X.K W w σ (SvRep X.K) Q ((dk s0).bind fun ys s2 => (if ys.length = ks.length then Res.ok (perm pr ys) s2 else .no).bind fun xs s1 => mkRes C den xs s1) := by
    unfold eMake aKw at h
    cases q : dk s0 with
    | no => rw [q] at h; exact h
    | ex c d s1 => rw [q] at h; exact h
    | ok xs s1 => rw [q] at h; exact h
  refine PySem.W.callWith_KW0 (h₀ := X.base) I.ok.mod.kin M.kp hall (thn (hkw.run pos pins s σ w.H _ I (TR.seq hs h' (P := fun zs H2 => zs.length = ks.length ∧
      ∀ a dx, H2 a = none → H2 dx = none → dx ≠ a → SpD X.K ps.length den (.ref a :: perm pr zs) (upd (upd H2 dx (.own a)) a (.ins C dx [])) (fun v H3 => v = .non ∧ Q (.ref a) H3) fun c d H' => W c d σ H') fun zs ys s2 w2 hs2 r2 e2 h2 => ?_)) fun ws s2 hw => ?_) hpl
  · by_cases c : ys.length = ks.length
    · rw [if_pos c] at h2
      have l2 : zs.length = ks.length := (Paired.length r2).trans c
      refine ⟨l2, fun a dx ha hd hne => make_read hs2 (perm_rl r2 pr) ?_ ha hd hne h2⟩
      rw [perm_len fun i hi => by rw [l2]; exact hpl0 i hi]
      exact hpr
    · rw [if_neg c] at h2; exact h2.elim
  · obtain ⟨zs, H2, I2, rz, l2, q2⟩ := hw
    refine ⟨I2.kIn, ?_⟩
    rw [hks]
    exact run_mk (us := []) (vs := []) M F hr hG hb hx I2 .nil rz rfl l2 q2

/-! ### o.f = e, of plain data -/
def putFD (f : Str) (v : FV) : List (Str × FV) → List (Str × FV)
  | [] => [(f, v)]
  | (g, u) :: r => if g = f then (f, v) :: r else (g, u) :: putFD f v r
theorem putFD_rep {K : PySem.W.Frag} {G H : Hp} {f : Str} {v : V} {d : PyData} (hv : Dq K G v d) : ∀ {vs : List (Str × V)} {us : List (Str × FV)} {fp : List Addr}, FvsRep K G H vs us fp → (∀ u, us.lookup f = some u → ∃ d0, u = .pu d0) → FvsRep K G H (putF f v vs) (putFD f (.pu d) us) fp
  | _, _, _, .nil, _ => .cons (fp := []) (fp' := []) (.pu hv) .nil (by simp)
  | _, _, _, .cons (f := g) (u := u) (fp := fp) (fp' := fp') h t dj, hl => by
    unfold putF putFD
    by_cases e : g = f
    · rw [if_pos e, if_pos e]
      obtain ⟨d0, z⟩ := hl u (by rw [List.lookup_cons]; simp [e])
      subst z
      subst e
      cases h with
      | pu h => exact .cons (.pu hv) t dj
    · rw [if_neg e, if_neg e]
      refine .cons h (putFD_rep hv t fun u' z => hl u' ?_) dj
      rw [List.lookup_cons]
      have : (f == g) = false := by simpa using fun z => e z.symm
      rw [this]
      exact z
def isPuF (o : Option FV) : Bool := match o with
  | some (.ow _) => false
  | _ => true
def putRes (f : Str) (C : Addr) (x y : SV) (s : S) : Option S := match insAt s.st x, pur s.st y with
  | some (j, C', fs), some d => if C' = C ∧ fs.length < 900 ∧ isPuF (fs.lookup f) = true then some { s with st := s.st.set j (.ins C (putFD f (.pu d) fs)) } else none
  | _, _ => none
/-- the value, then the object -/
def sFldD (f : Str) (C : Addr) (o v : S → Res SV) : S → Out := fun s => ((v s).bind fun y s1 => (o s1).bind fun x s2 => .ok (x, y) s2).stm fun p s2 => liftO (putRes f C p.1 p.2 s2)
theorem put_ok {w : Wd} {σ : Sg} {s s' : S} {x y : SV} {u v : V} {fl : Str} (c : Cls X.K C) (hs : Stt X.K w σ s) (rx : SvRep X.K w u x) (ry : SvRep X.K w v y) (h : putRes fl C x y s = some s') :
    ∃ a dx vs, u = .ref a ∧ w.H a = some (.ins C dx vs) ∧ vs.length < 900 ∧ ∃ w', w'.H = upd w.H a (.ins C dx (putF fl v vs)) ∧ Stt X.K w' σ s' ∧ Evo w.st.length w w' := by
  unfold putRes at h
  cases q1 : insAt s.st x with
  | none => rw [q1] at h; cases h
  | some t =>
    obtain ⟨j, C', fs⟩ := t
    cases q2 : pur s.st y with
    | none => rw [q1, q2] at h; cases h
    | some d0 =>
      rw [q1, q2] at h
      dsimp only at h
      split at h
      · rename_i cc
        obtain ⟨rfl, hl, hp⟩ := cc
        cases h
        obtain ⟨dx, vs, fp, rfl, rfl, hh, t, nn, ef, gg, hj⟩ := ins_rep hs rx q1
        refine ⟨_, dx, vs, rfl, hh, by rw [fvs_len t]; exact hl, ?_⟩
        have dv := pur_dp hs ry q2
        have t2 := putFD_rep (f := fl) dv t fun u z => by
          rw [z] at hp
          cases u with
          | pu d => exact ⟨d, rfl⟩
          | ow o => cases hp
        have hjl : j < w.st.length := (List.getElem?_eq_some_iff.mp hj).1
        have t3 : FvsRep X.K w.G (upd w.H (w.g j).1 (.ins C' dx (putF fl v vs))) (putF fl v vs) (putFD fl (.pu d0) fs) fp := t2.stay (Same.refl _) (fun b hb => upd_ne fun z => nn (z ▸ hb)) fun b hb => (t2.foot b hb).1
        have ob : ObRep X.K w.G (upd w.H (w.g j).1 (.ins C' dx (putF fl v vs))) (w.g j).1 (.ins C' (putFD fl (.pu d0) fs)) (w.g j).2 := by
          rw [ef]
          exact .ins gg upd_same t3 nn
        obtain ⟨a1, a2⟩ := mut_at (H' := upd w.H (w.g j).1 (.ins C' dx (putF fl v vs))) hs hj rfl (by rw [ef]; simp) (fun b hb => upd_ne hb) (by rw [upd_same]; exact fun z => nomatch z) ob
        exact ⟨_, rfl, a1, a2⟩
      · cases h
theorem ds_fld {fl : Str} (c : Cls X.K C) (na : NoAttr X.K C fl) (hv : DE X W e dv) (ho : DE X W o d) (hs : swapsWith e (some (.Attribute o fl pos')) pos.line X.env = pure false := by rfl) : DS X W (.Assign [.Attribute o fl pos'] e pos) (sFldD fl C d dv) := ps_imp (ps_fld ho hv hs) fun D σ H h => by
  obtain ⟨w, s, rfl, hs, h⟩ := h
  have h' : SOut X.K W w s.base D ((dv s).stm fun y s1 => ((d s1).stm fun x s2 => liftO (putRes fl C x y s2))) := by
    unfold sFldD at h
    cases q : dv s with
    | no => rw [q] at h; exact h
    | ex c d s1 => rw [q] at h; exact h
    | ok y s1 =>
      rw [q] at h
      cases q2 : d s1 with
      | no => dsimp only [Res.bind] at h; rw [q2] at h; dsimp only [Res.stm]; rw [q2]; exact h
      | ex c d s2 => dsimp only [Res.bind] at h; rw [q2] at h; dsimp only [Res.stm]; rw [q2]; exact h
      | ok x s2 => dsimp only [Res.bind] at h; rw [q2] at h; dsimp only [Res.stm]; rw [q2]; exact h
  refine TR.stm hs h' fun v y s1 w1 hs1 r1 e1 h1 => ?_
  refine TR.stm hs1 h1 fun u x s2 w2 hs2 r2 e2 h2 => ?_
  cases q : putRes fl C x y s2 with
  | none => rw [q] at h2; exact h2.elim
  | some s3 =>
    rw [q] at h2
    obtain ⟨a, dx, vs, rfl, hh, hl, w3, e3, hs3, ev⟩ := put_ok c hs2 r2 (r1.evo e2 (Nat.le_refl _)) q
    refine ⟨a, C, dx, vs, rfl, hh, c, na, by omega, ?_⟩
    rw [← e3]
    have h3 := SOut.from h2 (ev.mono hs2.bs)
    rw [← hs2.base_eq hs3 ev] at h3
    exact SOut.nx hs3 h3
end
end
end Lw
/-! Lw13: o.f op= e; chains; powers; isinstance; x[i] = v; append, pop, insert. -/
namespace Lw
open PySem PySem.Spec PyProof.Rows L2
noncomputable section
section
variable {X : Cx} {W : WX} {k : Nat} {f C : Addr} {x m : Str} {p pos apos cpos pos' tpos : Pos} {a b c e o : Expr} {es : List Expr} {d da db dc dv : S → Res SV} {dl : S → Res (List SV)}
/-- o.f op= e, of ints -/
def sFldAugD (fl : Str) (C : Addr) (g : G2) (o v : S → Res SV) : S → Out := fun s => (o s).stm fun x s1 => match insAt s1.st x with
  | some (j, C', fs) => if C' = C then (match fs.lookup fl with
    | some (.pu d0) => ((v s1).stm fun y s2 => match g s2.st (.pu d0) y with
      | some d1 => liftO (putRes fl C x (.pu d1) s2)
      | none => .no)
    | _ => .no) else .no
  | none => .no
theorem ds_fldaug {fl : Str} {op : Operator} {r : R2} {g : G2} (hg : Op2 X.K r g) (ho' : OpR X (inplaceOp op) r) (c : Cls X.K C) (na : NoAttr X.K C fl) (hv : DE X W e dv) (ho : DE X W o d) : DS X W (.AugAssign (.Attribute o fl tpos) op e pos) (sFldAugD fl C g d dv) := ps_imp (ps_fldaug ho hv (rd := r) ho') fun D σ H h => by
  obtain ⟨w, s, rfl, hs, h⟩ := h
  refine TR.stm hs h fun v x s1 w1 hs1 r1 e1 h1 => ?_
  cases q : insAt s1.st x with
  | none => rw [q] at h1; exact h1.elim
  | some t =>
    obtain ⟨j, C', fs⟩ := t
    rw [q] at h1
    dsimp only at h1
    split at h1
    · rename_i hC
      subst hC
      obtain ⟨dx, vs, fp, rfl, rfl, hh, t, nn, ef, gg, _⟩ := ins_rep hs1 r1 q
      split at h1
      · rename_i d0 q2
        obtain ⟨v0, h2, h3⟩ := (fvs_lookup fl t).2 d0 q2
        refine ⟨_, C', dx, vs, v0, rfl, hh, c, na, h2, TR.stm hs1 h1 fun u y s2 w2 hs2 r2 e2 h4 => ?_⟩
        cases q3 : g s2.st (.pu d0) y with
        | none => rw [q3] at h4; exact h4.elim
        | some d1 =>
          rw [q3] at h4
          refine hg w2 σ s2 v0 u (.pu d0) y d1 _ hs2 (Dq.grow e2.g h3) r2 q3 fun z w3 hs3 r3 e3 => ?_
          cases q4 : putRes fl C' (.rf j) (.pu d1) s2 with
          | none => dsimp only at h4; rw [q4] at h4; exact h4.elim
          | some s4 =>
            dsimp only at h4
            rw [q4] at h4
            have rx : SvRep X.K w3 (.ref (w1.g j).1) (.rf j) := (r1.evo e2 (Nat.le_refl _)).evo e3 (Nat.le_refl _)
            obtain ⟨a', dx', vs', ea, hh', hl', w4, e4, hs4, ev⟩ := put_ok (y := .pu d1) (v := z) c hs3 rx r3 q4
            cases ea
            refine ⟨dx', vs', hh', by omega, ?_⟩
            rw [← e4]
            have h5 := SOut.from h4 ((e3.mono hs2.bs).trans (ev.mono (Nat.le_trans hs2.bs e3.ln.2)))
            have eb : s4.base = s2.base := hs3.base_eq hs4 ev
            rw [← eb] at h5
            exact SOut.nx hs4 h5
      · exact h1.elim
    · exact h1.elim

/-! ### a op1 b op2 c, of ints -/
def eChain (g g' : G2) (a b c : S → Res SV) : S → Res SV := fun s => (a s).bind fun x s1 => (b s1).bind fun y s2 => match asB (g s2.st x y) with
  | some true => (c s2).bind fun z s3 => opt (g' s3.st y z) s3
  | some false => .ok (.pu (.bool false)) s2
  | none => .no
theorem chain_read {r r' : R2} {g g' : G2} (hg : Op2 X.K r g) (hg' : Op2 X.K r' g') {σ : Sg} {H : Hp} {Q : VK} (h : TR X.K W (SvRep X.K) (eChain g g' da db dc) σ H Q) : tChain r r' (TR X.K W (SvRep X.K) da) (TR X.K W (SvRep X.K) db) (TR X.K W (SvRep X.K) dc) σ H Q := by
  obtain ⟨w, s, rfl, hs, h⟩ := h
  refine TR.seq hs h fun v x s1 w1 hs1 r1 e1 h1 => ?_
  refine TR.seq hs1 h1 fun u y s2 w2 hs2 r2 e2 h2 => ?_
  cases q : g s2.st x y with
  | none => rw [q] at h2; exact h2.elim
  | some d0 =>
    rw [q] at h2
    cases d0 with
    | bool k =>
      refine hg w2 σ s2 v u x y _ _ hs2 (r1.evo e2 (Nat.le_refl _)) r2 q fun z w3 hs3 r3 e3 => ⟨k, Dq.bl_inv r3, ?_⟩
      have h3 := ROut.from h2 e3
      cases k with
      | false =>
        rw [if_neg Bool.false_ne_true]
        exact ROut.ret (rep := SvRep X.K) (x := .pu (.bool false)) hs3 h3 (Dq.bl false)
      | true =>
        rw [if_pos rfl]
        refine TR.seq hs3 h3 fun z2 y2 s4 w4 hs4 r4 e4 h4 => ?_
        obtain ⟨d1, q1, k1⟩ := opt_ok h4
        exact hg' w4 σ s4 u z2 y y2 d1 Q hs4 ((r2.evo e3 (Nat.le_refl _)).evo e4 (Nat.le_refl _)) r4 q1 k1
    | _ => exact h2.elim
theorem de_chain {op op' : CmpOp} {r r' : R2} {g g' : G2} (ho : OpR X (compareOp op) r) (ho' : OpR X (compareOp op') r') (hg : Op2 X.K r g) (hg' : Op2 X.K r' g') (ha : DE X W a da) (hb : DE X W b db) (hc : DE X W c dc)
    (hm : lastMarks [op, op'] [b, c] = false := by with_unfolding_all rfl) : DE X W (.Compare a [op, op'] [b, c] pos) (eChain g g' da db dc) := pe_imp (pe_chain ho ho' ha hb hc hm) fun _ _ _ h => chain_read hg hg' h
/-- a test that is a value's reading -/
theorem tt_of {σ : Sg} {H : Hp} {Q : Bool → Hp → Prop} (h : TR X.K W rB (tV da) σ H Q) : tTest (TR X.K W (SvRep X.K) da) σ H Q := by
  obtain ⟨w, s, rfl, hs, h⟩ := h
  refine TR.seq hs h fun v x s1 w1 hs1 r1 e1 h1 => ?_
  cases x with
  | rf i => exact h1.elim
  | sc ns => exact h1.elim
  | pu d =>
    cases d with
    | bool k =>
      have r2 : v = .bl k := Dq.bl_inv r1
      exact ⟨k, r2, ROut.ret (rep := rB) (x := k) hs1 h1 rfl⟩
    | _ => exact h1.elim
theorem dt_chain {op op' : CmpOp} {r r' : R2} {g g' : G2} (ho : OpR X (compareOp op) r) (ho' : OpR X (compareOp op') r') (hg : Op2 X.K r g) (hg' : Op2 X.K r' g') (ha : DE X W a da) (hb : DE X W b db) (hc : DE X W c dc)
    (hm : lastMarks [op, op'] [b, c] = false := by with_unfolding_all rfl) : DT X W (.Compare a [op, op'] [b, c] pos) (tV (eChain g g' da db dc)) := pt_imp (pt_chain ho ho' ha hb hc hm) fun σ H Q h => by
  obtain ⟨w, s, rfl, hs, h⟩ := h
  have h1 : TR X.K W rB (tV (eChain g g' da db dc)) σ w.H Q := ⟨w, s, rfl, hs, h⟩
  have h2 := tt_of h1
  unfold tTest at h2 ⊢
  exact chain_read hg hg' h2

/-! ### powers -/
def gPow : G2 := ii fun i j => @ite _ (0 ≤ j ∧ j ≤ 40 ∧ i.natAbs < 2 ^ 4000) (Classical.propDecidable _) (some (.int (i ^ j.toNat))) none
theorem o_pow {K : PySem.W.Frag} : Op2 K (rI CPowW fun i j => .int (i ^ j.toNat)) gPow := o2_iiC fun i j d h => by
  split at h
  · rename_i c
    obtain ⟨c1, c2, c3⟩ := c
    refine ⟨⟨c1, ?_⟩, int_of h⟩
    have h1 : Builtin.Int.intBits i ≤ 4000 := intBits_le c3
    have h2 : (Builtin.Int.intBits i : Int) ≤ 4000 := by exact_mod_cast h1
    have h3 : (Builtin.Int.intBits i : Int) * j ≤ 4000 * j := Int.mul_le_mul_of_nonneg_right h2 c1
    have h4 : (2 : Int) ^ 27 = 134217728 := by decide
    omega
  · cases h

/-! ### isinstance(x, T), T a built-in type -/
def kitSub (t T : String) : Bool := t == T || (t == "bool" && T == "int")
def eIsi (T : String) (a : S → Res SV) : S → Res SV := fun s => (a s).bind fun x s1 => match tyN s1.st x with
  | some t => .ok (.pu (.bool (kitSub t T))) s1
  | none => .no
theorem kit_six {K : PySem.W.Frag} {t T : String} (ht : t ∈ ["NoneType", "bool", "int", "str", "list", "tuple"]) (hT : T ∈ ["bool", "int", "str", "list", "tuple"]) : PySem.W.kitOne K (.type t) (.type T) = some (kitSub t T) := by
  refine kit_ty ?_
  have all : ∀ t ∈ ["NoneType", "bool", "int", "str", "list", "tuple"], ∀ T ∈ ["bool", "int", "str", "list", "tuple"], kitB t T = some (kitSub t T) := by decide +kernel
  exact all t ht T hT
theorem tyN_mem {st : List MO} {x : SV} {t : String} (h : tyN st x = some t) : t ∈ ["NoneType", "bool", "int", "str", "list", "tuple"] := by
  unfold tyN at h
  split at h
  · cases h; simp
  · cases h; simp
  · cases h; simp
  · cases h; simp
  · cases h; simp
  · split at h
    · cases h; simp
    · cases h
  · cases h
theorem de_isi {T : Str} {T' : String} {tp p : Pos} (ha : DE X W a da) (hT : T' ∈ ["bool", "int", "str", "list", "tuple"]) (hv : bootBuiltins T = some (.type T')) (hmT : X.mg T = none) (hm : X.mg "isinstance" = none) (hg : Gl X "isinstance" := by rfl) (hgT : Gl X T := by rfl)
    (hnT : T ≠ "__name__" := by decide) (hdT : (T == ("__debug__" : Str)) = false := by decide)
    (he : starEach [a, .Name T tp] X.env = (false, eval a X.env) :: starEach [.Name T tp] X.env := by rfl) (he2 : starEach [.Name T tp] X.env = (false, eval (.Name T tp) X.env) :: starEach [] X.env := by rfl) (hpl : (backTo pos (starEach [.Name T tp] X.env)).any (·.1) = false := by rfl) :
    DE X W (.Call (.Name "isinstance" p) [a, .Name T tp] [] pos) (eIsi T' da) :=
  pe_imp (pe_callB call_isi hg hm (by decide +kernel) (pa_cons ha (pa_cons (pe_bltn (v := .ty T') hgT hmT hv rfl hnT hdT) pa_nil he2) he) (by decide) (by decide) he hpl) fun σ H Q h => by
    obtain ⟨w, s, rfl, hs, h⟩ := h
    refine TR.seq hs h fun v x s1 w1 hs1 r1 e1 h1 => ?_
    cases q : tyN s1.st x with
    | none => rw [q] at h1; exact h1.elim
    | some t =>
      rw [q] at h1
      exact ⟨v, .ty T', .type t, .type T', kitSub t T', rfl, .ty T', tyN_x hs1 r1 q, kit_six (tyN_mem q) hT, ROut.ret (rep := SvRep X.K) (x := .pu (.bool (kitSub t T'))) hs1 h1 (Dq.bl _)⟩

/-! ### a list that is ours changes -/
def lstAt (st : List MO) (x : SV) : Option (Nat × List PyData) := match x with
  | .rf j => match st[j]? with
    | some (.lst ds) => some (j, ds)
    | _ => none
  | _ => none
theorem lst_rep {w : Wd} {σ : Sg} {s : S} {v : V} {x : SV} {j : Nat} {ds : List PyData} (hs : Stt X.K w σ s) (r : SvRep X.K w v x) (h : lstAt s.st x = some (j, ds)) :
    ∃ a vs, x = .rf j ∧ v = .ref a ∧ w.g j = (a, [a]) ∧ w.H a = some (.lst vs) ∧ DqAll X.K w.G vs ds ∧ w.G a = none ∧ w.st[j]? = some (.lst ds) := by
  unfold lstAt at h
  split at h
  · rename_i k
    split at h
    · rename_i ds' q
      cases h
      obtain ⟨hj, rfl⟩ := r
      have q' : w.st[j]? = some (.lst ds) := by rw [← hs.st]; exact q
      have ob := hs.sto.ob j _ q'
      obtain ⟨a, fp, ea⟩ : ∃ a fp, w.g j = (a, fp) := ⟨_, _, rfl⟩
      rw [ea] at ob ⊢
      dsimp only at ob ⊢
      cases ob with
      | lst g hh t => exact ⟨_, _, rfl, rfl, rfl, hh, t, g, q'⟩
    · cases h
  · cases h
theorem lst_put {w : Wd} {σ : Sg} {s : S} {j : Nat} {a : Addr} {ds ds' : List PyData} {vs' : List V} (hs : Stt X.K w σ s) (ea : w.g j = (a, [a])) (ga : w.G a = none) (hj : w.st[j]? = some (.lst ds)) (t : DqAll X.K w.G vs' ds') :
    ∃ w', w'.H = upd w.H a (.lst vs') ∧ Stt X.K w' σ { s with st := s.st.set j (.lst ds') } ∧ Evo w.st.length w w' ∧ Same w.G w'.G := by
  have ob : ObRep X.K w.G (upd w.H a (.lst vs')) a (.lst ds') (w.g j).2 := by rw [ea]; exact .lst ga upd_same t
  obtain ⟨a1, a2⟩ := mut_at (H' := upd w.H a (.lst vs')) hs hj (by rw [ea]) (by rw [ea]; simp) (fun b hb => upd_ne hb) (by rw [upd_same]; exact fun z => nomatch z) ob
  exact ⟨_, rfl, a1, a2, Same.refl _⟩
/-- a method of lists: from the items and the arguments, the answer and the new items -/
abbrev GM := List PyData → List PyData → Option (PyData × List PyData)
def MuR (K : PySem.W.Frag) (r : V → List V → Hp → VK → Prop) (g : GM) : Prop := ∀ (G H : Hp) (l : Addr) (vs us : List V) (ds as ds' : List PyData) (res : PyData) (Q : VK), H l = some (.lst vs) → DqAll K G vs ds → DqAll K G us as → g ds as = some (res, ds') →
  (∀ v vs', Dq K G v res → DqAll K G vs' ds' → Q v (upd H l (.lst vs'))) → r (.ref l) us H Q
def mutRes (g : GM) (x : SV) (xs : List SV) (s : S) : Res SV := match lstAt s.st x, purs s.st xs with
  | some (j, ds), some as => (match g ds as with
    | some (res, ds') => .ok (.pu res) { s with st := s.st.set j (.lst ds') }
    | none => .no)
  | _, _ => .no
def isLstRf (st : List MO) (x : SV) : Bool := (lstAt st x).isSome
def eMut (g : GM) (o : S → Res SV) (t : S → Res (List SV)) : S → Res SV := fun s => (o s).bind fun x s1 => if isLstRf s1.st x = true then ((t s1).bind fun xs s2 => mutRes g x xs s2) else .no
theorem mut_read {r : V → List V → Hp → VK → Prop} {g : GM} (hg : MuR X.K r g) {w : Wd} {σ : Sg} {s : S} {Q : VK} {v : V} {x : SV} {vs : List V} {xs : List SV} (hs : Stt X.K w σ s) (rx : SvRep X.K w v x) (rs : rL X.K w vs xs)
    (h : ROut X.K W w σ (SvRep X.K) Q (mutRes g x xs s)) : r v vs w.H Q := by
  unfold mutRes at h
  cases q1 : lstAt s.st x with
  | none => rw [q1] at h; exact h.elim
  | some t =>
    obtain ⟨j, ds⟩ := t
    cases q2 : purs s.st xs with
    | none => rw [q1, q2] at h; exact h.elim
    | some as =>
      rw [q1, q2] at h
      dsimp only at h
      cases q3 : g ds as with
      | none => rw [q3] at h; exact h.elim
      | some t =>
        obtain ⟨res, ds'⟩ := t
        rw [q3] at h
        obtain ⟨a, us, rfl, rfl, ea, hh, t, ga, hj⟩ := lst_rep hs rx q1
        refine hg w.G w.H a us vs ds as ds' res Q hh t (purs_dp hs rs q2) q3 fun v' vs' r1 r2 => ?_
        obtain ⟨w', e1, a1, a2, a3⟩ := lst_put hs ea ga hj r2
        rw [← e1]
        exact h v' w' a1 (Dq.grow a3 r1) a2
theorem isLst_ty {w : Wd} {σ : Sg} {s : S} {v : V} {x : SV} (hs : Stt X.K w σ s) (r : SvRep X.K w v x) (h : isLstRf s.st x = true) : tyV X.K "list" v w.H := by
  unfold isLstRf at h
  cases q : lstAt s.st x with
  | none => rw [q] at h; cases h
  | some t =>
    obtain ⟨j, ds⟩ := t
    obtain ⟨a, us, rfl, rfl, ea, hh, t, ga, hj⟩ := lst_rep hs r q
    exact .inl ⟨rfl, us, SqL.of hh⟩
theorem de_mut {r : V → List V → Hp → VK → Prop} {g : GM} {id : String} {name : Str} (hg : MuR X.K r g) (slot : Slot "list" name id) (hty : typeOf (.builtin id) = pure (.type "method_descriptor")) (hm : MtR X id r) (ho : DE X W o d) (ha : DA X W (e :: es) dl)
    (hbase : attributeBase o name X.env (eval o X.env) = eval o X.env := by rfl)
    (hfew : ((backTo cpos (starEach (e :: es) X.env)).all (fun x => !x.1) && (backToKw cpos (keywordEach [] X.env)).all (fun x => x.1.isSome)
      && decide ((e :: es).length + ([] : List Keyword).length + (if ([] : List Keyword).isEmpty then 0 else 1) < 30)) = true := by rfl)
    (hline : (apos.endLine == cpos.line) = true := by rfl) (hs : starEach (e :: es) X.env = (false, eval e X.env) :: starEach es X.env := by rfl) (hplain : (backTo cpos (starEach es X.env)).any (·.1) = false := by rfl) :
    DE X W (.Call (.Attribute o name apos) (e :: es) [] cpos) (eMut g d dl) := pe_imp (pe_bm PySem.F.plainAttrs_list slot hty hm ho ha hbase hfew hline hs hplain) fun σ H Q h => by
  obtain ⟨w, s, rfl, hs, h⟩ := h
  refine TR.seq hs h fun v x s1 w1 hs1 r1 e1 h1 => ?_
  split at h1
  · rename_i c
    refine ⟨isLst_ty hs1 r1 c, TR.seq hs1 h1 fun vs xs s2 w2 hs2 r2 e2 h2 => ?_⟩
    exact mut_read (W := W) hg hs2 (r1.evo e2 (Nat.le_refl _)) r2 h2
  · exact h1.elim
theorem de_mut0 {r : V → List V → Hp → VK → Prop} {g : GM} {id : String} {name : Str} (hg : MuR X.K r g) (slot : Slot "list" name id) (hty : typeOf (.builtin id) = pure (.type "method_descriptor")) (hm : MtR X id r) (ho : DE X W o d)
    (hbase : attributeBase o name X.env (eval o X.env) = eval o X.env := by rfl) (hline : (apos.endLine == cpos.line) = true := by rfl) :
    DE X W (.Call (.Attribute o name apos) [] [] cpos) (eMut g d aNil) := pe_imp (pe_bm0 PySem.F.plainAttrs_list slot hty hm ho hbase hline) fun σ H Q h => by
  obtain ⟨w, s, rfl, hs, h⟩ := h
  refine TR.seq hs h fun v x s1 w1 hs1 r1 e1 h1 => ?_
  split at h1
  · rename_i c
    exact ⟨isLst_ty hs1 r1 c, mut_read (W := W) (xs := []) hg hs1 r1 .nil h1⟩
  · exact h1.elim
def gAppend : GM := fun ds as => match as with
  | [d] => @ite _ (ds.length < 16777216) (Classical.propDecidable _) (some (.none, ds ++ [d])) none
  | _ => none
theorem m_append {K : PySem.W.Frag} : MuR K rAppend gAppend := by
  intro G H l vs us ds as ds' res Q hH t1 t2 q k
  unfold gAppend at q
  split at q
  · split at q
    · rename_i d hl
      cases q
      cases t2 with
      | cons r t =>
        cases t
        exact ⟨l, vs, _, rfl, rfl, hH, by rw [t1.length]; exact Nat.lt_of_lt_of_le hl (le_line (Nat.le_refl _)), k _ _ .non (t1.app (.cons r .nil))⟩
    · cases q
  · cases q
def gPopL : GM := fun ds as => match as with
  | [] => match ds[ds.length - 1]? with
    | some d => some (d, ds.dropLast)
    | none => none
  | _ => none
theorem DqAll.dropLast' {K : PySem.W.Frag} {G : Hp} {vs : List V} {ds : List PyData} (h : DqAll K G vs ds) : DqAll K G vs.dropLast ds.dropLast := by
  rw [List.dropLast_eq_take, List.dropLast_eq_take, h.length]
  exact h.take _
theorem m_pop {K : PySem.W.Frag} : MuR K rPop gPopL := by
  intro G H l vs us ds as ds' res Q hH t1 t2 q k
  unfold gPopL at q
  split at q
  · split at q
    · rename_i d e
      cases q
      cases t2
      obtain ⟨v, e1, r⟩ := t1.get e
      exact ⟨l, vs, v, rfl, rfl, hH, by rw [t1.length]; exact e1, k _ _ r t1.dropLast'⟩
    · cases q
  · cases q
def gPopAt : GM := fun ds as => match as with
  | [.int i] => @ite _ (0 ≤ i ∧ i < 2 ^ 62) (Classical.propDecidable _) ((match ds[i.toNat]? with
    | some d => some (d, ds.eraseIdx i.toNat)
    | none => none)) none
  | _ => none
theorem seqIx {i : Int} {n : Nat} (h0 : 0 ≤ i) (h1 : i.toNat < n) : seqIndex? i n = some i.toNat := by
  have : ixN n i = some i.toNat := by
    unfold ixN
    rw [if_pos h0, if_pos (by omega)]
  exact (ixN_seq this).1
theorem m_popAt {K : PySem.W.Frag} : MuR K rPopAt gPopAt := by
  intro G H l vs us ds as ds' res Q hH t1 t2 q k
  unfold gPopAt at q
  split at q
  · rename_i i
    split at q
    · rename_i c
      split at q
      · rename_i d e
        cases q
        cases t2 with
        | cons r2 t =>
          cases t
          have ei := Dq.int_inv r2
          subst ei
          obtain ⟨v, e1, r⟩ := t1.get e
          have hlt : i.toNat < vs.length := (List.getElem?_eq_some_iff.mp e1).1
          exact ⟨l, vs, i, i.toNat, v, rfl, rfl, hH, by omega, by omega, seqIx c.1 hlt, e1, k _ _ r (t1.erase _)⟩
      · cases q
    · cases q
  · cases q

/-! ### x[i] = v -/
def setRes (x i y : SV) (s : S) : Option S := match lstAt s.st x, i, pur s.st y with
  | some (j, ds), .pu (.int k), some d => (match ixN ds.length k with
    | some n => some { s with st := s.st.set j (.lst (ds.set n d)) }
    | none => none)
  | _, _, _ => none
def sIxSet (o i v : S → Res SV) : S → Out := fun s => ((v s).bind fun y s1 => (o s1).bind fun x s2 => (i s2).bind fun k s3 => .ok (x, k, y) s3).stm fun t s3 => liftO (setRes t.1 t.2.1 t.2.2 s3)
theorem ds_ixset {i : Expr} {di : S → Res SV} (hv : DE X W e dv) (ho : DE X W o d) (hi : DE X W i di)
    (ha : ∀ v, assign (.Subscript o i pos') X.env v = (do
      let ov ← holding [v] (eval o X.env)
      let iv ← holding [v, ov] (eval i X.env)
      standAt pos'
      holding [v, ov, iv] (setItem ov iv v)
      release [v, ov, iv] []) := by intro _; rfl)
    (hs : swapsWithSole [.Subscript o i pos'] e pos.line X.env = pure false := by rfl) (hw : swappedStores [.Subscript o i pos'] e X.env = pure none := by rfl)
    (h1 : (assignEach [.Subscript o i pos'] X.env).map (·.2) = [assign (.Subscript o i pos') X.env] := by rfl) : DS X W (.Assign [.Subscript o i pos'] e pos) (sIxSet d di dv) := ps_imp (ps_asg hv (pg_sub ho hi set_list ha) hs hw h1) fun D σ H h => by
  obtain ⟨w, s, rfl, hs, h⟩ := h
  have h' : SOut X.K W w s.base D ((dv s).stm fun y s1 => ((d s1).stm fun x s2 => ((di s2).stm fun k s3 => liftO (setRes x k y s3)))) := by
    unfold sIxSet at h
    cases q : dv s with
    | no => rw [q] at h; exact h
    | ex c d s1 => rw [q] at h; exact h
    | ok y s1 =>
      rw [q] at h
      dsimp only [Res.bind, Res.stm] at h ⊢
      cases q2 : d s1 with
      | no => rw [q2] at h; exact h
      | ex c d s2 => rw [q2] at h; exact h
      | ok x s2 =>
        rw [q2] at h
        dsimp only [Res.bind, Res.stm] at h ⊢
        cases q3 : di s2 with
        | no => rw [q3] at h; exact h
        | ex c d s3 => rw [q3] at h; exact h
        | ok k s3 => rw [q3] at h; exact h
  refine TR.stm hs h' fun v y s1 w1 hs1 r1 e1 h1 => ?_
  refine TR.stm hs1 h1 fun u x s2 w2 hs2 r2 e2 h2 => ?_
  refine TR.stm hs2 h2 fun t k s3 w3 hs3 r3 e3 h3 => ?_
  cases q : setRes x k y s3 with
  | none => rw [q] at h3; exact h3.elim
  | some s4 =>
    rw [q] at h3
    unfold setRes at q
    split at q
    · rename_i j ds kk d0 q1 q2
      split at q
      · rename_i n q3
        cases q
        obtain ⟨a, us, rfl, rfl, ea, hh, t, ga, hj⟩ := lst_rep hs3 (r2.evo e3 (Nat.le_refl _)) q1
        have ry : SvRep X.K w3 v y := (r1.evo e2 (Nat.le_refl _)).evo e3 (Nat.le_refl _)
        obtain ⟨w4, e4, a1, a2, a3⟩ := lst_put hs3 ea ga hj (t.set (pur_dp hs3 ry q2) n)
        refine ⟨a, us, kk, n, rfl, Dq.int_inv r3, hh, by rw [t.length]; exact q3, ?_⟩
        rw [← e4]
        have h4 := SOut.from h3 (a2.mono hs3.bs)
        exact SOut.nx (w := w4) a1 h4
      · cases q
    · cases q
end
end
end Lw
/-! Lw14: the end of a law: its def, called by the claim. -/
namespace Lw
open PySem PySem.Spec PyProof.Rows L2
noncomputable section
/-- the law's denotation answers True for every script -/
def LawD (f : FD) : Prop := ∀ ns : List Int, ns.length ≤ 63 → (∀ z ∈ ns, z.natAbs < 2 ^ 1048576) → ∃ st, f [.sc ns] [] = .ok (.pu (.bool true)) st

section
variable {P : Program} {w : World} {K : PySem.W.Frag} {mg mb : Str → Option Value} {k : Nat} {fa a : Addr} {fd : FuncData} {x : Str} {s₁ : Shared} {vs : List Value} {ns : List Int} {f : FD}
theorem end_run {H : Hp} (inK : K.In s₁.heap) (nsG : s₁.heap.Ns mainGlobals mg) (nsB : s₁.heap.Ns builtinsNs mb) (bb : ∀ x : Str, x ≠ "__name__" → mb x = bootBuiltins x) (lim : s₁.heap.NoLimit) (gens : s₁.gens = #[])
    (at_a : s₁.heap.get? a = some { cls := .type "list", data := .seq vs.toArray }) (room : Room k callerA) (bind : ∀ (s : Shared) (u : Value), BindsTo s fd ⟨[u], []⟩ [(x, u)])
    (F : ∀ base : Heap, K.In base → base.Ns mainGlobals mg → FnG P w K mg base k fa fd [x] (SpD K 1 f)) (law : ∃ st, f [.sc ns] [] = .ok (.pu (.bool true)) st)
    (seen : SqL K H a (ns.map V.int)) (ok : HOk P w H s₁.heap) (dom : ∀ b u, H b = some u → b = a ∧ K.lookup a = none ∧ ∃ o xs, u = .frz o (.lst xs)) :
    codeAny (model P w) callerA (.call (.ref fa) ⟨[.ref a], []⟩) (fun r s' => r = .ok (.ret (.bool true)) ∧ OldK s₁.heap s'.heap ∧ s'.os = s₁.os ∧ AllBare s'.gens) s₁ := by
  -- what is not the script stands in the base
  have off : ∀ {b : Addr} {o : Obj}, s₁.heap.get? b = some o → (b = a → K.lookup a ≠ none) → (hidT s₁.heap H).get? b = some o := fun {b o} e n => hidT_get e (by
    cases q : H b with
    | none => rfl
    | some u => exact absurd (dom b u q).2.1 (n (dom b u q).1))
  have dicts : ∀ {b : Addr} {m : Str → Option Value}, s₁.heap.Ns b m → (hidT s₁.heap H).Ns b m := fun {b m} ⟨o, es, ep, e, d, r⟩ => by
    refine ⟨o, es, ep, off e fun z => ?_, d, r⟩
    subst z
    rw [at_a] at e
    cases e
    cases (show Data.seq vs.toArray _ = Data.dict es ep from d)
  have inB : K.In (hidT s₁.heap H) := fun b o e => off (inK b o e) fun z => by
    subst z
    rw [e]
    exact fun q => nomatch q
  have modB : Mod K mg (hidT s₁.heap H) := ⟨inB, dicts nsG, ⟨mb, dicts nsB, bb⟩, by obtain ⟨mc, h1, h2⟩ := lim; exact ⟨mc, dicts h1, h2⟩⟩
  have env0 : Env0 P w K mg (hidT s₁.heap H) callerA [] s₁ H := ⟨rfl, modB, fun b o e => of_hidT e, Nat.le_of_eq (hidT_size _ _), trivial, fun b hb => (List.not_mem_nil hb).elim, ok, .of_eq gens⟩
  have want : SpD K 1 f [.ref a] H (fun v _ => v = .bl true) (fun _ _ _ => False) := by
    obtain ⟨st, hf⟩ := law
    refine ⟨⟨H, H, fun _ => (0, []), [], 0⟩, [.sc ns], rfl, ⟨Same.refl _, fun i o e => (by cases e), fun i j _ hi => (by cases hi)⟩, .cons ⟨a, rfl, seen⟩ .nil, rfl, ?_⟩
    show FOut K _ _ _ (f [.sc ns] [])
    rw [hf]
    exact fun v w' _ _ r _ => Dq.bl_inv r
  refine codeAny_mono ((F _ inB (dicts nsG)).run callerA [] s₁ H ⟨[.ref a], []⟩ [.ref a] [.ref a] _ _ room rfl env0 (bind s₁ (.ref a)) (.cons rfl .nil) want) fun r s' out => ?_
  cases r with
  | error e =>
    obtain ⟨_, _, _, _, _, _, _, _, _, _, _, _, z⟩ := out
    exact z.elim
  | ok fl =>
    cases fl with
    | next => exact out.elim
    | brk => exact out.elim
    | cont => exact out.elim
    | ret u =>
      obtain ⟨v, H', os, bare, un, ok', rv, q⟩ := out
      subst q
      obtain rfl : u = Value.bool true := rv
      refine ⟨rfl, OldK.of_keep fun b o e => ?_, os, bare⟩
      cases q : H b with
      | none => exact un.keep b o e q (by simp [frs]) (by simp)
      | some u =>
        obtain ⟨_, _, ob, xs, z⟩ := dom b u q
        subst z
        obtain ⟨e1, _⟩ := ok b _ q
        obtain ⟨e2, _⟩ := ok' b _ (un.frzs b ob _ q)
        rw [e] at e1; cases e1
        exact e2
theorem end_law (inK : K.In s₁.heap) (nsG : s₁.heap.Ns mainGlobals mg) (nsB : s₁.heap.Ns builtinsNs mb) (bb : ∀ x : Str, x ≠ "__name__" → mb x = bootBuiltins x) (lim : s₁.heap.NoLimit) (gens : s₁.gens = #[])
    (at_a : s₁.heap.get? a = some { cls := .type "list", data := .seq vs.toArray }) (hnums : IntsAre vs ns) (short : ns.length ≤ sizeLine) (room : Room k callerA) (bind : ∀ (s : Shared) (u : Value), BindsTo s fd ⟨[u], []⟩ [(x, u)])
    (F : ∀ base : Heap, K.In base → base.Ns mainGlobals mg → FnG P w K mg base k fa fd [x] (SpD K 1 f)) (law : ∃ st, f [.sc ns] [] = .ok (.pu (.bool true)) st) :
    codeAny (model P w) callerA (.call (.ref fa) ⟨[.ref a], []⟩) (fun r s' => r = .ok (.ret (.bool true)) ∧ OldK s₁.heap s'.heap ∧ s'.os = s₁.os ∧ AllBare s'.gens) s₁ := by
  have rv := vals_ints hnums
  cases hk : K.lookup a with
  | some o =>
    have e := inK a o hk
    rw [at_a] at e
    cases e
    refine end_run (H := fun _ => none) (ns := ns) inK nsG nsB bb lim gens at_a room bind F law (.inr ⟨_, vs.toArray, _, hk, rfl, rfl, rfl, ?_, by simpa using rv⟩) (fun b u z => by cases (show (none : Option HO) = some u from z)) fun b u z => by cases (show (none : Option HO) = some u from z)
    rw [List.size_toArray, hnums.length]; exact short
  | none =>
    refine end_run (H := fun b => if b = a then some (.frz { cls := .type "list", data := .seq vs.toArray } (.lst (ns.map V.int))) else none) (ns := ns) inK nsG nsB bb lim gens at_a room bind F law (.inl (.inr ⟨_, if_pos rfl⟩)) (fun b u z => ?_) fun b u z => ?_
    · by_cases hb : b = a
      · have z' := (if_pos hb).symm.trans z
        cases z'
        subst hb
        exact ⟨at_a, by rw [List.length_map]; exact short, vs, _, rv, at_a⟩
      · cases (if_neg hb).symm.trans z
    · by_cases hb : b = a
      · have z' := (if_pos hb).symm.trans z
        cases z'
        exact ⟨hb, hk, _, _, rfl⟩
      · cases (if_neg hb).symm.trans z
end
/-- the claim, from the law's def and its denotation -/
theorem walk_law {l : PySem.W.OpenLaw} {k : Nat} {q : Program} {loose : List Str} {XP : (Str → Option Value) → Heap → Prop} {YP : World → Heap → Prop} {d : DefRec} {K : Params → PySem.W.Frag} {x : Str}
    (hn : l.most = some 63) (hdf : d.params.defaults = []) (room : Room k callerA) (hY : ∀ (w : World) (h : Heap), YP w h → (K w.params).In h)
    (F : ∀ (w : World) (mg : Str → Option Value) (fa : Addr) (h : Heap), (K w.params).In h → h.Ns mainGlobals mg → mg d.name = some (.ref fa) →
      ∃ (fd : FuncData) (f : FD), (∀ (s : Shared) (u : Value), BindsTo s fd ⟨[u], []⟩ [(x, u)]) ∧ LawD f ∧
        ∀ base : Heap, (K w.params).In base → base.Ns mainGlobals mg → FnG l.prog w (K w.params) mg base k fa fd [x] (SpD (K w.params) 1 f)) :
    PySem.W.WalkO q loose XP YP l.row.toRowW d [] (fun f vs => PySem.call f vs) := by
  refine Att.attach_callB hn hdf fun w s₀ s₁ mg mb fa o pm cd doc a vs ns G Y ho hd hcd hmg hobj hints hlen hbits hg => ?_
  have inK := hY w _ Y
  obtain ⟨fd, f, hb, law, hF⟩ := F w mg fa _ inK G.T.g hmg
  exact end_law inK G.T.g G.T.b G.T.builtins G.T.nolimit hg hobj hints (Nat.le_trans hlen (by rw [sizeLine_eq]; decide)) room hb hF (law ns hlen fun z hz => PySem.intBits_le_iff.mp (hbits z hz))
end
end Lw
/-! Lw15: further rules; how a def of the text is found; what the generator's texts lean on. -/
namespace Lw
open PySem PySem.Spec PyProof.Rows L2
noncomputable section
section
variable {K : PySem.W.Frag}
def gAddI : G2 := ii fun i j => some (.int (i + j))
theorem o_addI : Op2 K (rI0 fun i j => .int (i + j)) gAddI := o2_ii fun _ _ _ h => int_of h
def gMulX : G2 := ii fun i j => @ite _ (((-(2 ^ 64) < i ∧ i < 2 ^ 64) ∨ (-(2 ^ 64) < j ∧ j < 2 ^ 64)) ∨ (i.natAbs < 2 ^ 4000 ∧ j.natAbs < 2 ^ 4000)) (Classical.propDecidable _) (some (.int (i * j))) none
def rMulX : R2 := fun x y H Q => rI CMul (fun i j => .int (i * j)) x y H Q ∨ rI CMulW (fun i j => .int (i * j)) x y H Q
theorem op_mulX {X : Cx} : OpR X (binaryOp .Mult) rMulX := op_mul.or op_mulW
theorem o_mulX : Op2 K rMulX gMulX := by
  intro w σ s x y a b d Q hs rx ry q k
  obtain ⟨i, j, rfl, rfl, q'⟩ := ii_inv q
  clear q
  split at q'
  · rename_i c
    have q := q'
    rcases c with c | c
    · exact .inl ⟨i, j, Dq.int_inv rx, Dq.int_inv ry, c, k _ w hs (int_of q w.G) (Evo.refl (Nat.le_refl _))⟩
    · exact .inr ⟨i, j, Dq.int_inv rx, Dq.int_inv ry, wide_mul c.1 c.2 (by decide) (by decide) (by decide), k _ w hs (int_of q w.G) (Evo.refl (Nat.le_refl _))⟩
  · cases q'
end
/-- all bools -/
def bolsOf : List PyData → Option (List Bool)
  | [] => some []
  | .bool i :: r => match bolsOf r with
    | some l => some (i :: l)
    | none => none
  | _ :: _ => none
theorem bols_dq {K : PySem.W.Frag} {G : Hp} : ∀ {vs : List V} {ds : List PyData} {ns : List Bool}, DqAll K G vs ds → bolsOf ds = some ns → vs = ns.map V.bl
  | _, _, ns, .nil, h => by cases h; rfl
  | _, d :: ds, ns, .cons r t, h => by
    cases d with
    | bool i =>
      unfold bolsOf at h
      split at h
      · rename_i l e
        cases h
        rw [List.map_cons, Dq.bl_inv r, bols_dq t e]
      · cases h
    | _ => cases h
theorem bolsOf_map : ∀ ns : List Bool, bolsOf (ns.map PyData.bool) = some ns
  | [] => rfl
  | n :: ns => by rw [List.map_cons, bolsOf, bolsOf_map ns]
def gBols (f : List Bool → Bool) : GC := fun st as => match as with
  | [x] => match rdl st x with
    | some (.list ds) => match bolsOf ds with
      | some bs => some (.bool (f bs))
      | none => none
    | _ => none
  | _ => none
abbrev gAll : GC := gBols fun bs => bs.all id
abbrev gAny : GC := gBols fun bs => bs.any id
theorem o_bols {K : PySem.W.Frag} {f : List Bool → Bool} : OpC K (fun vs H Q => ∃ (a : Addr) (bs : List Bool), vs = [V.ref a] ∧ SqL K H a (bs.map V.bl) ∧ Q (.bl (f bs)) H) (gBols f) := by
  intro w σ s xs as d Q hs rx q k
  unfold gBols at q
  split at q
  · obtain ⟨v, rfl, r⟩ := rL1 rx
    split at q
    · rename_i ds q1
      split at q
      · rename_i ns q2
        cases q
        obtain ⟨p, vs, rfl, h1, h2⟩ := rdl_lst hs r q1
        have e := bols_dq h2 q2
        subst e
        exact ⟨p, ns, rfl, SqL.of h1, k _ w hs (.bl _) (Evo.refl (Nat.le_refl _))⟩
      · cases q
    · cases q
  · cases q
theorem o_all {K : PySem.W.Frag} : OpC K (rAll K) gAll := o_bols
theorem o_any {K : PySem.W.Frag} : OpC K (rAny K) gAny := o_bols
def gInsert : GM := fun ds as => match as with
  | [.int i, d] => @ite _ (ds.length < 16777216 ∧ 0 ≤ i ∧ i < 2 ^ 62) (Classical.propDecidable _) (some (.none, ds.take i.toNat ++ [d] ++ ds.drop i.toNat)) none
  | _ => none
theorem m_insert {K : PySem.W.Frag} : MuR K (fun x vs H Q => ∃ (l : Addr) (xs : List V) (i : Int) (y : V), x = .ref l ∧ vs = [.int i, y] ∧ H l = some (.lst xs) ∧ xs.length < sizeLine ∧ 0 ≤ i ∧ i < 2 ^ 63 ∧
    Q .non (upd H l (.lst (xs.take i.toNat ++ [y] ++ xs.drop i.toNat)))) gInsert := by
  intro G H l vs us ds as ds' res Q hH t1 t2 q k
  unfold gInsert at q
  split at q
  · split at q
    · rename_i i d c
      cases q
      cases t2 with
      | cons r t =>
        cases t with
        | cons r2 t =>
          cases t
          have ei := Dq.int_inv r
          subst ei
          exact ⟨l, vs, i, _, rfl, rfl, hH, by rw [t1.length]; exact Nat.lt_of_lt_of_le c.1 (le_line (Nat.le_refl _)), c.2.1, by omega, k _ _ .non (((t1.take _).app (.cons r2 .nil)).app (t1.drop _))⟩
    · cases q
  · cases q
theorem room65 {k : Nat} {A : Around} (r : Room k A) : A.units + 65 < cLine := by have := r.un; omega

section
variable {X : Cx} {W : WX} {pos pos' p : Pos} {a b c e elt iter tg : Expr} {ifs : List Expr} {scope : Scope} {own : List (Str × Nat)} {d : S → Res SV} {it : S → Res (List SV)} {g : SV → S → Option S} {t : S → Res Bool} {ev : S → Res SV} {ks : List Nat} {dl : S → Res (List SV)}
/-- a list of ours is frozen where it is handed on -/
def frzS (x : SV) (s : S) : Res SV := match x with
  | .rf k => match s.st[k]? with
    | some (.lst ds) => .ok (.pu (.list ds)) { s with st := s.st.set k (.fz (.list ds)) }
    | some (.fz d) => .ok (.pu d) s
    | _ => .ok (.rf k) s
  | x => .ok x s
def eFrz (a : S → Res SV) : S → Res SV := fun s => (a s).bind fun x s1 => frzS x s1
theorem frz_read {w : Wd} {σ : Sg} {s1 : S} {Q : VK} {v : V} {x : SV} (hs1 : Stt X.K w σ s1) (r1 : SvRep X.K w v x) (h1 : ROut X.K W w σ (SvRep X.K) Q (frzS x s1)) : Q v w.H := by
  cases x with
  | pu d0 => exact ROut.ret (rep := SvRep X.K) (x := .pu d0) hs1 h1 r1
  | sc ns => exact ROut.ret (rep := SvRep X.K) (x := .sc ns) hs1 h1 r1
  | rf k =>
    unfold frzS at h1
    dsimp only at h1
    obtain ⟨hk, rfl⟩ := id r1
    cases q : s1.st[k]? with
    | none => rw [q] at h1; exact ROut.ret (rep := SvRep X.K) (x := .rf k) hs1 h1 r1
    | some o =>
      rw [q] at h1
      have q' : w.st[k]? = some o := by rw [← hs1.st]; exact q
      cases o with
      | lst ds =>
        obtain ⟨w2, b1, b2, b3, b4⟩ := frz_at hs1 q'
        rw [← b1]
        exact h1 _ w2 b2 b4 b3
      | fz d0 =>
        have d1 := pur_dp (d := d0) hs1 r1 (by unfold pur; dsimp only; rw [q])
        exact ROut.ret (rep := SvRep X.K) (x := .pu d0) hs1 h1 d1
      | dic kvs => exact ROut.ret (rep := SvRep X.K) (x := .rf k) hs1 h1 r1
      | ins C fs => exact ROut.ret (rep := SvRep X.K) (x := .rf k) hs1 h1 r1
      | gone => exact ROut.ret (rep := SvRep X.K) (x := .rf k) hs1 h1 r1
theorem de_frz (h : DE X W e d) : DE X W e (eFrz d) := pe_imp h fun σ H Q h => by
  obtain ⟨w, s, rfl, hs, h⟩ := h
  exact TR.seq hs h fun v x s1 w1 hs1 r1 e1 h1 => frz_read hs1 r1 h1

/-! ### name = [..] on one line -/
theorem set_read {σ : Sg} {H : Hp} {D : Ends} {i : Nat} (h : TDS X.K W (sSet i d) D σ H) : TR X.K W (SvRep X.K) d σ H fun x H1 => D.nx (σ.set i (some x)) H1 := by
  obtain ⟨w, s, rfl, hs, h⟩ := h
  refine TR.stm hs h fun v x s1 w1 hs1 r1 e1 h1 => ?_
  cases q : sStore i x s1 with
  | none => rw [q] at h1; exact h1.elim
  | some s2 =>
    rw [q] at h1
    obtain ⟨w2, a1, a2, a3, a4, _⟩ := store_to hs1 r1 q
    rw [← a1]
    have h2 := SOut.from h1 a3
    rw [← a4] at h2
    exact SOut.nx a2 h2
theorem p_read {dq : S → Res (List PyData)} {σ : Sg} {H : Hp} {Q : VK} (h : TR X.K W (SvRep X.K) (eP dq) σ H Q) : TRL X.K W dq σ H Q := by
  obtain ⟨w, s, rfl, hs, h⟩ := h
  refine ⟨w, s, rfl, hs, ?_⟩
  unfold eP at h
  cases q : dq s with
  | no => rw [q] at h; exact h
  | ex c d s1 => rw [q] at h; exact h
  | ok ds s1 =>
    rw [q] at h
    intro vs p w1 hs1 r1 hp e1
    obtain ⟨w2, e2, hs2, r2, e3⟩ := new_lst hs1 hp r1
    rw [← e2]
    exact h _ w2 hs2 r2 (e1.trans (e3.mono e1.ln.2))
theorem tmp_read {dq : S → Res (List PyData)} {σ : Sg} {H : Hp} {Q : VK} (h : TR X.K W (SvRep X.K) (eTmp dq) σ H Q) : TRL X.K W dq σ H Q := by
  obtain ⟨w, s, rfl, hs, h⟩ := h
  refine ⟨w, s, rfl, hs, ?_⟩
  unfold eTmp at h
  cases q : dq s with
  | no => rw [q] at h; exact h
  | ex c d s1 => rw [q] at h; exact h
  | ok ds s1 =>
    rw [q] at h
    intro vs p w1 hs1 r1 hp e1
    have gp : w1.G p = none := hs1.sto.sub.free hp
    obtain ⟨a1, a2, a3⟩ := tmp_add (H' := upd w1.H p (.lst vs)) (o := .lst ds) hs1 hp (fun b hb => upd_ne hb) (by rw [upd_same]; exact fun z => nomatch z) (.lst gp upd_same r1)
    exact h (.ref p) _ a1 (by rw [hs1.st]; exact a3) (e1.trans (a2.mono e1.ln.2))
section
variable (i : Nat) {y : Str} {py spos : Pos} (hc : X.calm = true) (hN : X.N.Nodup) (hi : DI X W tg iter it) (ok : BlkOk X.N X.env.scope scope own)
    (hg : ∀ (s : Shared) (H : Hp) (C : Addr) (cl : List (Str × Addr)) (fp : List Addr), DG (X.blk s H scope (compEnvC scope cl C X.env) fp) ks tg g)
    (ht : ∀ (s : Shared) (H : Hp) (C : Addr) (cl : List (Str × Addr)) (fp : List Addr), DTs (X.blk s H scope (compEnvC scope cl C X.env) fp) W0 ifs t)
    (he : ∀ (s : Shared) (H : Hp) (C : Addr) (cl : List (Str × Addr)) (fp : List Addr), DE (X.blk s H scope (compEnvC scope cl C X.env) fp) W0 elt ev)
    (hk : ∀ k ∈ ks, k ∈ own.map (·.2)) (hy : X.N[i]? = some y) (hyl : X.env.scope.names.lookup y = some .local)
    (hsw : swapsWith (.ListComp elt [⟨tg, iter, ifs, 0⟩] scope pos) (some (.Name y py)) spos.line X.env = pure true) (hs : ∀ x, foldedSetIterable iter X.env x = pure x)
include hc hN hi ok hg ht he hk hy hyl hsw hs
theorem ds_setLc : DS X W (.Assign [.Name y py] (.ListComp elt [⟨tg, iter, ifs, 0⟩] scope pos) spos) (sSet i (eP (lLc (own.map (·.2)) it g t ev))) :=
  ps_imp (ps_setLc hc hN hy hyl hsw hi ok hg ht he hs) fun D σ H h => lc_read hk (p_read (set_read h))
theorem ds_setLcT : DS X W (.Assign [.Name y py] (.ListComp elt [⟨tg, iter, ifs, 0⟩] scope pos) spos) (sSet i (eTmp (lLc (own.map (·.2)) it g t ev))) :=
  ps_imp (ps_setLc hc hN hy hyl hsw hi ok hg ht he hs) fun D σ H h => lc_read hk (tmp_read (set_read h))
end

/-! ### a, b = x, y by a tuple -/
theorem ds_tup2 (i j : Nat) {x y : Str} {px py pt : Pos} {kt k2 pt2} (hc : X.calm = true) (hN : X.N.Nodup) (ha : DA X W [a, b] dl) (hi : X.N[i]? = some x := by rfl) (hj : X.N[j]? = some y := by rfl) (hij : i ≠ j := by decide)
    (hx : Loc X.env.scope x := by first | exact Or.inl rfl | exact Or.inr rfl) (hy : Loc X.env.scope y := by first | exact Or.inl rfl | exact Or.inr rfl)
    (hfx : X.fn x = true ∨ X.env.scope.names.lookup x = some .local := by first | exact .inl rfl | exact .inr rfl | assumption) (hfy : X.fn y = true ∨ X.env.scope.names.lookup y = some .local := by first | exact .inl rfl | exact .inr rfl | assumption)
    (hw : swappedStores [.Tuple [.Name x px, .Name y py] kt pt] (.Tuple [a, b] k2 pt2) X.env = pure none := by rfl)
    (hs : swapsWithSole [.Tuple [.Name x px, .Name y py] kt pt] (.Tuple [a, b] k2 pt2) pos.line X.env = pure false := by rfl)
    (h1 : (assignEach [.Tuple [.Name x px, .Name y py] kt pt] X.env).map (·.2) = [assign (.Tuple [.Name x px, .Name y py] kt pt) X.env] := by rfl)
    (hq : (assignEach (.Name x px :: [.Name y py]) X.env).map (·.2) = assign (.Name x px) X.env :: (assignEach [.Name y py] X.env).map (·.2) := by rfl)
    (hq2 : (assignEach (.Name y py :: []) X.env).map (·.2) = assign (.Name y py) X.env :: (assignEach [] X.env).map (·.2) := by rfl)
    (hn : (assignEach [.Name x px, .Name y py] X.env).length = 2 := by rfl) (hst : (assignEach [.Name x px, .Name y py] X.env).findIdx? (·.1) = none := by rfl) :
    DS X W (.Assign [.Tuple [.Name x px, .Name y py] kt pt] (.Tuple [a, b] k2 pt2) pos) (sPar2 i j dl) :=
  ps_imp (ps_asg (pe_tup ha) (pg_tup hc (pgs_cons (pg_name hN hi hx hfx) (pgs_cons (pg_name hN hj hy hfy) pgs_nil hq2) hq) hn hst) hs hw h1) fun D σ H h => by
  obtain ⟨w, s, rfl, hs, h⟩ := h
  refine TR.stm hs h fun vs xs s1 w1 hs1 r1 e1 h1 => ?_
  have two : ∃ v u, vs = [v, u] := by
    obtain ⟨v, u, e, _⟩ := par_read hs1 r1 h1
    exact ⟨v, u, e⟩
  obtain ⟨v, u, rfl⟩ := two
  refine ⟨by show 2 ≤ sizeLine; decide, fun p hp => ⟨p, [v, u], rfl, SqT.of upd_same, rfl, v, [u], rfl, u, [], rfl, rfl, ?_⟩⟩
  obtain ⟨a1, a2⟩ := junk_at (o := .tup [v, u]) hs1 hp
  obtain ⟨v', u', e, q⟩ := par_read a1 (rL.evo a2 (Nat.le_refl _) r1) (SOut.from h1 (a2.mono hs1.bs))
  cases e
  exact q
end

/-! ### the defs and classes of the text, as the top has left them -/
structure FnAt (K : PySem.W.Frag) (mg : Str → Option Value) (x : Str) (qual : Str) (st : Stmt) : Prop where
  ex : ∃ f fd, Fun K x qual st f fd ∧ mg x = some (.ref f)
theorem fn_at {K : PySem.W.Frag} {mg : Str → Option Value} {h : Heap} (inK : K.In h) (G : h.Ns mainGlobals mg) {x qual : Str} {st : Stmt} {f : Addr} {oc kV doc pm cdv ct : Value} {od an : Option Addr} {osl : Array (Option Value)}
    (h1 : PySem.W.nsIn K mainGlobals x = some (some (.ref f))) (h2 : K.lookup f = some ⟨oc, od, .func (PySem.W.fnOf x qual (defArgs st) (defBody st) (defScope st) .none kV doc pm an cdv ct), osl⟩) (h3 : PySem.W.codeIn K cdv qual = true) (h4 : PySem.W.keepIn K (.ref f) = true) : FnAt K mg x qual st :=
  ⟨f, _, fun_mk h2 h3 h4, PySem.W.mg_of inK G h1⟩
structure MtAt (K : PySem.W.Frag) (C : Addr) (m : Str) (qual : Str) (st : Stmt) : Prop where
  ex : ∃ f fd, Fun K m qual st f fd ∧ Meth K C m f
theorem mt_at {K : PySem.W.Frag} {C : Addr} {m qual : Str} {st : Stmt} {f : Addr} {oc kV doc pm cdv ct : Value} {od an : Option Addr} {osl : Array (Option Value)}
    (h1 : PySem.W.findIn K (.ref C) m = some (some (.ref f))) (h2 : PySem.W.isFn K (.ref f) = true) (h3 : K.lookup f = some ⟨oc, od, .func (PySem.W.fnOf m qual (defArgs st) (defBody st) (defScope st) .none kV doc pm an cdv ct), osl⟩) (h4 : PySem.W.codeIn K cdv qual = true) (h5 : PySem.W.keepIn K (.ref f) = true) : MtAt K C m qual st :=
  ⟨f, _, fun_mk h3 h4 h5, ⟨h1, h2, h5⟩⟩
/-- no argument, or all positional: how the def's values bind -/
theorem cbind_of {K : PySem.W.Frag} {x qual : Str} {st : Stmt} {f : Addr} {fd : FuncData} {ps ks : List Str} {n : Nat} {pr : List Nat} (F : Fun K x qual st f fd)
    (h : ∀ (kV doc pm : Value) (an : Option Addr) (cdv ct : Value) (us ws : List Value), us.length = n → ws.length = ks.length → bindArgs (PySem.W.fnOf x qual (defArgs st) (defBody st) (defScope st) .none kV doc pm an cdv ct) ⟨us, ks.zip ws⟩ = pure (ps.zip (perm pr (us ++ ws)))) : CB K fd ps n ks pr := by
  obtain ⟨oc, od, kV, doc, pm, an, cdv, ct, osl, rfl, lk, hcd⟩ := F.ex
  exact fun s us ws h1 h2 => .of_eq (h kV doc pm an cdv ct us ws h1 h2)
/-- a def that is never reached promises nothing -/
theorem fng_zero {P : Program} {w : World} {K : PySem.W.Frag} {mg : Str → Option Value} {base : Heap} {k : Nat} {f : Addr} {fd : FuncData} {ps : List Str} {n : Nat} : FnG P w K mg base k f fd ps (SpD K n fun _ _ => .no) :=
  ⟨fun _ _ _ _ _ _ _ _ _ _ _ _ _ _ q => by
    obtain ⟨_, _, _, _, _, _, z⟩ := q
    exact z.elim⟩
end
end Lw
/-! Lw16: len of an instance with a __len__ of its own. -/
namespace Lw
open PySem PySem.Spec PyProof.Rows L2
noncomputable section
section
variable {X : Cx} {W : WX} {k : Nat} {f C : Addr} {fd : FuncData} {ps : List Str} {p pos : Pos} {e o : Expr} {d : S → Res SV} {den : FD}
theorem special_meth {M : Model} {K : PySem.W.Frag} {A : Around} {E : Value → Shared → Prop} {s : Shared} {a : Addr} {ox : Obj} {od : Option Obj} {m : Str} {args : List Value} {Q : Option Value → Shared → Prop} (X : K.In s.heap) (J : PySem.W.InstAt s.heap a ox C od) (hm : Meth K C m f)
    (hc : wpAny M A (call (.ref f) (.ref a :: args)) (fun v s' => Q (some v) s') E s) : wpAny M A (callSpecial? (.ref a) m args) Q E s := by
  unfold callSpecial? specialOf
  refine wpAny_bind (wpAny_bind (J.type.here ((PySem.W.looks_findIn X hm.at_).here ?_)))
  refine wpAny_holding ?_
  unfold bindSpecial
  refine wpAny_bind ?_
  refine wpAny_bind ((PySem.W.looks_typeIn X (beq_iff_eq.mp hm.fn)).here ?_)
  rw [if_pos (by decide)]
  exact wpAny_pure (wpAny_bind (wpAny_mono hc (fun v s' h => wpAny_pure h) fun _ _ z => z))
theorem len_meth {a dx : Addr} {fs : List (Str × V)} {pins : List (Addr × Obj)} {σ : Sg} {H : Hp} {s : Shared} {Q : Value → Shared → Prop} (I : Inv X pins σ H s) (hh : H a = some (.ins C dx fs)) (hm : Meth X.K C "__len__" f)
    (hcall : wpAny (model X.prog X.w) X.A.in1 (call (.ref f) [.ref a]) (fun r s' => ∃ n u, r = .int n u ∧ 0 ≤ n ∧ n < 2 ^ 63 ∧ Q (.int n s'.toks) { s' with toks := s'.toks + 1 }) X.xe s) :
    wpAny (model X.prog X.w) X.A (call (.builtin "len") [.ref a]) Q X.xe s := by
  obtain ⟨mA, O, r, _, _, _⟩ := ins_get I.hok hh
  obtain ⟨od, J, hl⟩ := O.look
  refine Calls.call_function_entry kind_len plain_len entry_len (args_len1 _) ?_
  unfold Builtin.«len»
  refine wpAny_bind (m := oneArg "len" _) (wpAny_pure ?_)
  refine wpAny_bind (m := callSpecial? (.ref a) (Str.ofString "__len__")) (special_meth I.kIn J hm (wpAny_mono hcall (fun r s' hr => ?_) fun _ _ y => y))
  obtain ⟨n, u, rfl, h0, h1, hq⟩ := hr
  refine wpAny_bind (wpAny_holding (wpAny_pure ?_))
  refine wpAny_bind (wpAny_letGo ?_)
  show wpAny _ _ (if n < 0 then _ else _) _ _ _
  rw [if_neg (by omega)]
  show wpAny _ _ (if n ≥ 2 ^ 63 then _ else _) _ _ _
  rw [if_neg (by omega)]
  exact wpAny_bind (wpAny_mkInt (wpAny_pure ⟨_, rfl, hq⟩))
def lenRes (f : FD) (C : Addr) (x : SV) (s1 : S) : Res SV := match insAt s1.st x with
  | some (_, C', _) => if C' = C then (((f [x] s1.st).res s1).bind fun y s2 => match y with
      | .pu (.int n) => @ite _ (0 ≤ n ∧ n < 4611686018427387904) (Classical.propDecidable _) (.ok (.pu (.int n)) s2) .no
      | _ => .no) else .no
  | none => .no
def eLenO (f : FD) (C : Addr) (o : S → Res SV) : S → Res SV := fun s => (aCons o aNil s).bind fun xs s1 => match xs with
  | [x] => lenRes f C x s1
  | _ => .no
def QLen (Q : VK) : VK := fun v H2 => ∃ n, v = V.int n ∧ 0 ≤ n ∧ n < 4611686018427387904 ∧ Q (.int n) H2
theorem len_read {w : Wd} {σ : Sg} {s1 : S} {x : SV} {v : V} {Q : VK} (hs : Stt X.K w σ s1) (r : SvRep X.K w v x) (hps : ps.length = 1) (h : ROut X.K W w σ (SvRep X.K) Q (lenRes den C x s1)) :
    ∃ a dx fs, v = V.ref a ∧ w.H a = some (.ins C dx fs) ∧ SpD X.K ps.length den [v] w.H (QLen Q) fun c d H' => W c d σ H' := by
  unfold lenRes at h
  cases q : insAt s1.st x with
  | none => rw [q] at h; exact h.elim
  | some t =>
    obtain ⟨j, C', fs⟩ := t
    rw [q] at h
    dsimp only at h
    by_cases hC : C' = C
    · rw [if_pos hC] at h
      subst hC
      obtain ⟨dx, vs, fp, rfl, rfl, hh, t, nn, ef, gg, _⟩ := ins_rep hs r q
      refine ⟨_, dx, vs, rfl, hh, call_read (xs := [.rf j]) hs (.cons r .nil) (by rw [hps]; rfl) ?_⟩
      cases z : (den [SV.rf j] s1.st).res s1 with
      | no => rw [z] at h; exact h
      | ex c dd s2 => rw [z] at h; exact h
      | ok y s2 =>
        rw [z] at h
        intro u w2 t2 r2 e2
        cases y with
        | pu dt =>
          cases dt with
          | int n =>
            have h : ROut X.K W w σ (SvRep X.K) Q (@ite _ (0 ≤ n ∧ n < 4611686018427387904) (Classical.propDecidable _) (.ok (.pu (.int n)) s2) .no) := h
            by_cases c : 0 ≤ n ∧ n < 4611686018427387904
            · rw [if_pos c] at h
              exact ⟨n, Dq.int_inv r2, c.1, c.2, h _ w2 t2 (Dq.int n) e2⟩
            · rw [if_neg c] at h; exact h.elim
          | _ => exact h.elim
        | _ => exact h.elim
    · rw [if_neg hC] at h; exact h.elim
theorem de_lenO (ho : DE X W e d) (hmt : Meth X.K C "__len__" f) (F : FnG X.prog X.w X.K X.mg X.base k f fd ps (SpD X.K ps.length den)) (hr : Room (k + 1) X.A) (hG : X.A.guards = some []) (hx : PassW X W) (hb : CB X.K fd ps 1 [] [0]) (hps : ps.length = 1) (hm : X.mg "len" = none) (hg : Gl X "len" := by rfl) (hv : bootBuiltins "len" = some (.builtin "len") := by decide +kernel)
    (hn : ("len" : Str) ≠ "__name__" := by decide) (hdb : (("len" : Str) == ("__debug__" : Str)) = false := by decide)
    (he : starEach (e :: []) X.env = (false, eval e X.env) :: starEach [] X.env := by rfl) (hpl : (backTo pos (starEach [] X.env)).any (·.1) = false := by rfl) : DE X W (.Call (.Name "len" p) [e] [] pos) (eLenO den C d) := by
  refine ⟨fun pins s σ H Q I h => ?_⟩
  obtain ⟨w, s0, rfl, hs, h⟩ := h
  refine wpAny_Call_Name_kw (ld_blt I hg hm hv ?_ hn hdb)
  refine PyProof.Rows.callWith_builtin1 (thn ((da_cons ho da_nil he).run pos pins s σ w.H _ I (TR.seq hs h (P := fun vs H1 => ∃ a dx fs, vs = [V.ref a] ∧ H1 a = some (.ins C dx fs) ∧ SpD X.K ps.length den [V.ref a] H1 (QLen Q) fun c d H' => W c d σ H') fun vs xs s1 w1 hs1 r1 e1 h1 => ?_)) fun us s1 hu => ?_) he hpl
  · cases r1 with
    | nil => exact h1.elim
    | cons r0 t0 =>
      cases t0 with
      | cons _ _ => exact h1.elim
      | nil =>
        obtain ⟨a, dx, fs, rfl, hh, q⟩ := len_read hs1 r0 hps h1
        exact ⟨a, dx, fs, rfl, hh, q⟩
  · obtain ⟨vs, H1, I1, rv, a, dx, fs, rfl, hh, q⟩ := hu
    obtain ⟨u, rfl, ru⟩ := vals1 rv
    cases ru
    refine len_meth I1 hh hmt ?_
    have b := hb s1 [.ref a] [] rfl rfl
    have e0 : Env0 X.prog X.w X.K X.mg X.base X.A.in1 X.stack s1 H1 := ⟨I1.env0.frames, I1.env0.mod, I1.env0.bs, I1.env0.bsz, I1.env0.funs, I1.env0.frf, I1.env0.hok, I1.env0.bare⟩
    have rr : Vals [V.ref a] [Value.ref a] := .cons rfl .nil
    refine wpAny_call (codeAny_mono (F.run X.A.in1 X.stack s1 H1 ⟨[.ref a], []⟩ [.ref a] _ (QLen Q) _ hr.in1 hG e0 b rr q) fun res s' hq => ?_)
    cases res with
    | error e => exact hx σ pins H1 s1 e s' I1 hq
    | ok fl =>
      cases fl with
      | ret u =>
        obtain ⟨v, H', I', r', n, rfl, h0, h1, q'⟩ := I1.after hq
        obtain ⟨t, rfl⟩ := r'
        exact ⟨n, t, rfl, h0, by omega, .int n, H', I'.tok _, ⟨_, rfl⟩, q'⟩
      | next => exact hq.elim
      | brk => exact hq.elim
      | cont => exact hq.elim
end
/-! ### x is True -/
def gIsB : G2 := fun _ x y => match x, y with
  | .pu (.bool a), .pu (.bool b) => some (.bool (decide (a = b)))
  | _, _ => none
def gNotB : G2 := fun _ x y => match x, y with
  | .pu (.bool a), .pu (.bool b) => some (.bool (!decide (a = b)))
  | _, _ => none
theorem o_isB {K : PySem.W.Frag} : Op2 K rIsB gIsB := by
  intro w σ s x y a b d Q hs rx ry q k
  unfold gIsB at q
  split at q
  · exact ⟨_, _, Dq.bl_inv rx, Dq.bl_inv ry, k _ w hs (bl_of q w.G) (Evo.refl (Nat.le_refl _))⟩
  · cases q
theorem o_notB {K : PySem.W.Frag} : Op2 K rNotB gNotB := by
  intro w σ s x y a b d Q hs rx ry q k
  unfold gNotB at q
  split at q
  · exact ⟨_, _, Dq.bl_inv rx, Dq.bl_inv ry, k _ w hs (bl_of q w.G) (Evo.refl (Nat.le_refl _))⟩
  · cases q
end
end Lw
/-! Lw17: how denotations are evaluated: rows for simp. -/
namespace Lw
open PySem PySem.Spec PyProof.Rows L2
noncomputable section
section
variable {α β : Type}
/-- what comes after is not looked at until it is its turn: its place is one that another hangs on -/
inductive After {γ : Type} : γ → Type where
  | mk {x : γ} : After x
def bnd (r : Res α) (f : α → S → Res β) (_ : After f := .mk) : Res β := r.bind f
def sbn (r : Res α) (f : α → S → Out) (_ : After f := .mk) : Out := r.stm f
@[simp] theorem bnd_ok (a : α) (s : S) (f : α → S → Res β) (u : After f) : bnd (Res.ok a s) f u = f a s := rfl
@[simp] theorem bnd_ex (c : Addr) (d : PyData) (s : S) (f : α → S → Res β) (u : After f) : bnd (Res.ex c d s) f u = .ex c d s := rfl
@[simp] theorem sbn_ok (a : α) (s : S) (f : α → S → Out) (u : After f) : sbn (Res.ok a s) f u = f a s := rfl
@[simp] theorem sbn_ex (c : Addr) (d : PyData) (s : S) (f : α → S → Out) (u : After f) : sbn (Res.ex c d s) f u = .ex c d s := rfl
@[simp] theorem Res.bind_bnd (r : Res α) (f : α → S → Res β) : r.bind f = bnd r f := rfl
@[simp] theorem Res.stm_sbn (r : Res α) (f : α → S → Out) : r.stm f = sbn r f := rfl
end
@[simp] theorem eVar_ap (i : Nat) (s : S) : eVar i s = match s.sl[i]? with
  | some (some x) => .ok x s
  | _ => .no := rfl
@[simp] theorem eC_ap (d : PyData) (s : S) : eC d s = .ok (.pu d) s := rfl
@[simp] theorem e2_ap (g : G2) (a b : S → Res SV) (s : S) : e2 g a b s = bnd (a s) fun x s1 => bnd (b s1) fun y s2 => opt (g s2.st x y) s2 := rfl
@[simp] theorem e1_ap (g : G1) (a : S → Res SV) (s : S) : e1 g a s = bnd (a s) fun x s1 => opt (g s1.st x) s1 := rfl
@[simp] theorem t2_ap (g : G2) (a b : S → Res SV) (s : S) : t2 g a b s = bnd (a s) fun x s1 => bnd (b s1) fun y s2 => optB (asB (g s2.st x y)) s2 := rfl
@[simp] theorem tV_ap (a : S → Res SV) (s : S) : tV a s = bnd (a s) fun x s1 => match x with
  | .pu (.bool b) => .ok b s1
  | _ => .no := rfl
@[simp] theorem tAndD_ap (a b : S → Res Bool) (s : S) : tAndD a b s = bnd (a s) fun x s1 => if x = true then b s1 else .ok false s1 := rfl
@[simp] theorem tOrD_ap (a b : S → Res Bool) (s : S) : tOrD a b s = bnd (a s) fun x s1 => if x = true then .ok true s1 else b s1 := rfl
@[simp] theorem tNotD_ap (a : S → Res Bool) (s : S) : tNotD a s = bnd (a s) fun x s1 => .ok (!x) s1 := rfl
@[simp] theorem eIfD_ap (c : S → Res Bool) (a b : S → Res SV) (s : S) : eIfD c a b s = bnd (c s) fun x s1 => if x = true then a s1 else b s1 := rfl
@[simp] theorem eTst_ap (t : S → Res Bool) (s : S) : eTst t s = bnd (t s) fun x s1 => .ok (.pu (.bool x)) s1 := rfl
@[simp] theorem eAndV_ap (a b : S → Res SV) (s : S) : eAndV a b s = bnd (a s) fun x s1 => match x with
  | .pu (.bool true) => b s1
  | .pu (.bool false) => .ok (.pu (.bool false)) s1
  | _ => .no := rfl
@[simp] theorem eOrV_ap (a b : S → Res SV) (s : S) : eOrV a b s = bnd (a s) fun x s1 => match x with
  | .pu (.bool true) => .ok (.pu (.bool true)) s1
  | .pu (.bool false) => b s1
  | _ => .no := rfl
@[simp] theorem eNotV_ap (a : S → Res SV) (s : S) : eNotV a s = bnd (a s) fun x s1 => match x with
  | .pu (.bool k) => .ok (.pu (.bool (!k))) s1
  | _ => .no := rfl
@[simp] theorem aNil_ap (s : S) : aNil s = .ok [] s := rfl
@[simp] theorem aCons_ap (a : S → Res SV) (r : S → Res (List SV)) (s : S) : aCons a r s = bnd (a s) fun x s1 => bnd (r s1) fun xs s2 => .ok (x :: xs) s2 := rfl
@[simp] theorem eTup_ap (t : S → Res (List SV)) (s : S) : eTup t s = bnd (t s) fun xs s1 => match purs s1.st xs with
  | some ds => if ds.length ≤ 1000 then .ok (.pu (.tuple ds)) s1 else .no
  | none => .no := rfl
@[simp] theorem eO_ap (a : Option (S → Res SV)) (s : S) : eO a s = match a with
  | none => .ok none s
  | some a => bnd (a s) fun x s1 => match x with
    | .pu (.int i) => .ok (some i) s1
    | _ => .no := rfl
@[simp] theorem eSl3_ap (a : S → Res SV) (lo hi : S → Res (Option Int)) (s : S) : eSl3 a lo hi s = bnd (a s) fun x s1 => bnd (lo s1) fun l s2 => bnd (hi s2) fun h s3 => opt (gSl3 s3.st x l h) s3 := rfl
@[simp] theorem eCl_ap (g : GC) (t : S → Res (List SV)) (s : S) : eCl g t s = bnd (t s) fun xs s1 => opt (g s1.st xs) s1 := rfl
@[simp] theorem sSet_ap (i : Nat) (a : S → Res SV) (s : S) : sSet i a s = sbn (a s) fun x s1 => liftO (sStore i x s1) := rfl
@[simp] theorem sDrop_ap (a : S → Res SV) (s : S) : sDrop a s = sbn (a s) fun _ s1 => .nx s1 := rfl
@[simp] theorem sRet_ap (a : S → Res SV) (s : S) : sRet a s = sbn (a s) fun x s1 => .rt x s1 := rfl
@[simp] theorem sSeq_ap (a b : S → Out) (s : S) : sSeq a b s = match a s with
  | .nx s1 => b s1
  | o => o := rfl
@[simp] theorem sIf_ap (c : S → Res Bool) (a b : S → Out) (s : S) : sIf c a b s = sbn (c s) fun x s1 => if x = true then a s1 else b s1 := rfl
@[simp] theorem sPass_ap (s : S) : sPass s = .nx s := rfl
@[simp] theorem sBrk_ap (s : S) : sBrk s = .bk s := rfl
@[simp] theorem sCont_ap (s : S) : sCont s = .ct s := rfl
@[simp] theorem sTrim_ap (a : S → Out) (s : S) : sTrim a s = trimO (a s) := rfl
@[simp] theorem sAug_ap (i : Nat) (g : G2) (a : S → Res SV) (s : S) : sAug i g a s = match s.sl[i]? with
  | some (some x) => sbn (a s) fun y s1 => match g s1.st x y with
      | some d => .nx { s1 with sl := s1.sl.set i (some (.pu d)) }
      | none => .no
  | _ => .no := rfl
@[simp] theorem sPar2_ap (i j : Nat) (a : S → Res (List SV)) (s : S) : sPar2 i j a s = sbn (a s) fun xs s1 => parRes i j xs s1 := rfl
@[simp] theorem sPar3_ap (i j l : Nat) (a : S → Res (List SV)) (s : S) : sPar3 i j l a s = sbn (a s) fun xs s1 => match xs with
  | [.pu x, .pu y, .pu z] => .nx { s1 with sl := ((s1.sl.set i (some (.pu x))).set j (some (.pu y))).set l (some (.pu z)) }
  | _ => .no := rfl
@[simp] theorem sAsg_ap (g : SV → S → Option S) (a : S → Res SV) (s : S) : sAsg g a s = sbn (a s) fun x s1 => liftO (g x s1) := rfl
theorem sFor_ap (it : S → Res (List SV)) (g : SV → S → Option S) (body : S → Out) (s : S) : sFor it g body s = sbn (it s) fun xs s1 => forD g body xs s1 := rfl
@[simp] theorem itL_ap (a : S → Res SV) (s : S) : itL a s = bnd (a s) fun x s1 => match x with
  | .sc ns => .ok (ns.map fun n => .pu (.int n)) s1
  | _ => match pur s1.st x with
    | some (.list ds) => .ok (ds.map SV.pu) s1
    | _ => .no := rfl
@[simp] theorem itT_ap (a : S → Res SV) (s : S) : itT a s = bnd (a s) fun x s1 => match pur s1.st x with
    | some (.tuple ds) => .ok (ds.map SV.pu) s1
    | _ => .no := rfl
theorem itR1_ap (a : S → Res (List SV)) (s : S) : itR1 a s = bnd (a s) fun xs s1 => match asInt1 xs with
  | some j => @ite _ (-(2 ^ 62) ≤ j ∧ j < 2 ^ 62) (Classical.propDecidable _) (.ok (rangeL 0 j) s1) .no
  | none => .no := rfl
theorem itR2_ap (a : S → Res (List SV)) (s : S) : itR2 a s = bnd (a s) fun xs s1 => match asInt2 xs with
  | some q => @ite _ (-(2 ^ 62) ≤ q.1 ∧ q.1 < 2 ^ 62 ∧ -(2 ^ 62) ≤ q.2 ∧ q.2 < 2 ^ 62) (Classical.propDecidable _) (.ok (rangeL q.1 q.2) s1) .no
  | none => .no := rfl
@[simp] theorem eP_ap (a : S → Res (List PyData)) (s : S) : eP a s = bnd (a s) fun ds s1 => .ok (.pu (.list ds)) s1 := rfl
@[simp] theorem eTmp_ap (a : S → Res (List PyData)) (s : S) : eTmp a s = bnd (a s) fun ds s1 => .ok (.rf s1.st.length) { s1 with st := s1.st ++ [.lst ds] } := rfl
@[simp] theorem lDis_ap (t : S → Res (List SV)) (s : S) : lDis t s = bnd (t s) fun xs s1 => match purs s1.st xs with
  | some ds => if ds.length ≤ 1000 then .ok ds s1 else .no
  | none => .no := rfl
@[simp] theorem lOf_ap (a : S → Res (List SV)) (s : S) : lOf a s = bnd (a s) fun xs s1 => match gListOf s1.st xs with
  | some (.list ds) => .ok ds s1
  | _ => .no := rfl
@[simp] theorem tTrue_ap (s : S) : tTrue s = .ok true s := rfl
@[simp] theorem eCall_ap (f : FD) (t : S → Res (List SV)) (s : S) : eCall f t s = bnd (t s) fun xs s1 => (f xs s1.st).res s1 := rfl
@[simp] theorem aArgs_ap (n m : Nat) (pr : List Nat) (a b : S → Res (List SV)) (s : S) : aArgs n m pr a b s = bnd (a s) fun xs s1 => bnd (b s1) fun ys s2 => if xs.length = n ∧ ys.length = m then .ok (perm pr (xs ++ ys)) s2 else .no := rfl
@[simp] theorem aKw_ap (m : Nat) (pr : List Nat) (b : S → Res (List SV)) (s : S) : aKw m pr b s = bnd (b s) fun ys s2 => if ys.length = m then .ok (perm pr ys) s2 else .no := rfl
@[simp] theorem eFld_ap (o : S → Res SV) (f : Str) (C : Addr) (s : S) : eFld o f C s = bnd (o s) fun x s1 => match insAt s1.st x with
  | some (_, C', fs) => if C' = C then (match fs.lookup f with
    | some (.pu d) => .ok (.pu d) s1
    | _ => .no) else .no
  | none => .no := rfl
@[simp] theorem eMeth_ap (f : FD) (m : Str) (C : Addr) (o : S → Res SV) (t : S → Res (List SV)) (s : S) : eMeth f m C o t s = bnd (o s) fun x s1 => match insAt s1.st x with
  | some (_, C', fs) => if C' = C ∧ fs.lookup m = none then (bnd (t s1) fun xs s2 => (f (x :: xs) s2.st).res s2) else .no
  | none => .no := rfl
@[simp] theorem eMake_ap (C : Addr) (f : FD) (t : S → Res (List SV)) (s : S) : eMake C f t s = bnd (t s) fun xs s1 => mkRes C f xs s1 := rfl
@[simp] theorem sFldD_ap (f : Str) (C : Addr) (o v : S → Res SV) (s : S) : sFldD f C o v s = sbn (bnd (v s) fun y s1 => bnd (o s1) fun x s2 => Res.ok (x, y) s2) fun p s2 => liftO (putRes f C p.1 p.2 s2) := rfl
@[simp] theorem sFldAugD_ap (fl : Str) (C : Addr) (g : G2) (o v : S → Res SV) (s : S) : sFldAugD fl C g o v s = sbn (o s) fun x s1 => match insAt s1.st x with
  | some (j, C', fs) => if C' = C then (match fs.lookup fl with
    | some (.pu d0) => (sbn (v s1) fun y s2 => match g s2.st (.pu d0) y with
      | some d1 => liftO (putRes fl C x (.pu d1) s2)
      | none => .no)
    | _ => .no) else .no
  | none => .no := rfl
@[simp] theorem eChain_ap (g g' : G2) (a b c : S → Res SV) (s : S) : eChain g g' a b c s = bnd (a s) fun x s1 => bnd (b s1) fun y s2 => match asB (g s2.st x y) with
  | some true => bnd (c s2) fun z s3 => opt (g' s3.st y z) s3
  | some false => .ok (.pu (.bool false)) s2
  | none => .no := rfl
@[simp] theorem eIsi_ap (T : String) (a : S → Res SV) (s : S) : eIsi T a s = bnd (a s) fun x s1 => match tyN s1.st x with
  | some t => .ok (.pu (.bool (kitSub t T))) s1
  | none => .no := rfl
@[simp] theorem eMut_ap (g : GM) (o : S → Res SV) (t : S → Res (List SV)) (s : S) : eMut g o t s = bnd (o s) fun x s1 => if isLstRf s1.st x = true then (bnd (t s1) fun xs s2 => mutRes g x xs s2) else .no := rfl
@[simp] theorem sIxSet_ap (o i v : S → Res SV) (s : S) : sIxSet o i v s = sbn (bnd (v s) fun y s1 => bnd (o s1) fun x s2 => bnd (i s2) fun k s3 => Res.ok (x, k, y) s3) fun t s3 => liftO (setRes t.1 t.2.1 t.2.2 s3) := rfl
@[simp] theorem eFrz_ap (a : S → Res SV) (s : S) : eFrz a s = bnd (a s) fun x s1 => frzS x s1 := rfl
@[simp] theorem eLenO_ap (f : FD) (C : Addr) (o : S → Res SV) (s : S) : eLenO f C o s = bnd (aCons o aNil s) fun xs s1 => match xs with
  | [x] => lenRes f C x s1
  | _ => .no := rfl
theorem lLc_ap (vs : List Nat) (it : S → Res (List SV)) (g : SV → S → Option S) (t : S → Res Bool) (e : S → Res SV) (s : S) : lLc vs it g t e s = bnd (it s) fun xs s1 =>
  @ite _ (xs.length ≤ 16777216) (Classical.propDecidable _) ((match lcD (wipeS s1.sl vs) g t e xs s1 with
    | some (ds, s2) => .ok ds { s2 with sl := s1.sl }
    | none => .no)) .no := rfl
@[simp] theorem runX_ap (fr : Bool) (N : Nat) (b : S → Out) (svs : List SV) (st : List MO) : runX fr N b svs st = match b ⟨svs.map some ++ List.replicate (N - svs.length) none, st ++ List.replicate N .gone, st.length⟩ with
  | .nx s => exitF fr st.length (.pu .none) s.st
  | .rt x s => exitF fr st.length x s.st
  | .ex c d s => .ex c d (s.st.take st.length)
  | _ => .no := rfl
@[simp] theorem exitF_pu (fr : Bool) (n : Nat) (d : PyData) (st : List MO) : exitF fr n (.pu d) st = .ok (.pu d) (st.take n) := rfl
@[simp] theorem res_ok (s : S) (x : SV) (st : List MO) : (FR.ok x st).res s = .ok x { s with st := st } := rfl
@[simp] theorem res_ex (s : S) (c : Addr) (d : PyData) (st : List MO) : (FR.ex c d st).res s = .ex c d { s with st := st } := rfl
@[simp] theorem opt_some (d : PyData) (s : S) : opt (some d) s = .ok (.pu d) s := rfl
@[simp] theorem optB_some (d : Bool) (s : S) : optB (some d) s = .ok d s := rfl
@[simp] theorem asB_bool (d : Bool) : asB (some (.bool d)) = some d := rfl
@[simp] theorem rd_pu (st : List MO) (d : PyData) : rd st (.pu d) = some d := rfl
@[simp] theorem rdl_pu (st : List MO) (d : PyData) : rdl st (.pu d) = some d := rfl
@[simp] theorem pur_pu (st : List MO) (d : PyData) : pur st (.pu d) = some d := rfl
@[simp] theorem purs_nil (st : List MO) : purs st [] = some [] := rfl
@[simp] theorem purs_cons (st : List MO) (d : PyData) (r : List SV) : purs st (.pu d :: r) = match purs st r with
    | some ds => some (d :: ds)
    | none => none := by
  rw [purs, pur_pu]
  cases purs st r <;> rfl
theorem purs_map (st : List MO) : ∀ ds : List PyData, purs st (ds.map SV.pu) = some ds
  | [] => rfl
  | d :: r => by rw [List.map_cons, purs_cons, purs_map st r]
@[simp] theorem gAdd_int (st : List MO) (i j : Int) : gAdd st (.pu (.int i)) (.pu (.int j)) = some (.int (i + j)) := rfl
@[simp] theorem gAddI_int (st : List MO) (i j : Int) : gAddI st (.pu (.int i)) (.pu (.int j)) = some (.int (i + j)) := rfl
theorem gAdd_lst (st : List MO) {i j : List PyData} (h : i.length + j.length ≤ 16777216) : gAdd st (.pu (.list i)) (.pu (.list j)) = some (.list (i ++ j)) := if_pos h
theorem gAdd_tup (st : List MO) {i j : List PyData} (h : i.length + j.length ≤ 16777216) : gAdd st (.pu (.tuple i)) (.pu (.tuple j)) = some (.tuple (i ++ j)) := if_pos h
theorem gAdd_str (st : List MO) {i j : Str} (h : i.length + j.length ≤ 16777216) : gAdd st (.pu (.str i)) (.pu (.str j)) = some (.str (i ++ j)) := if_pos h
@[simp] theorem gSub_int (st : List MO) (i j : Int) : gSub st (.pu (.int i)) (.pu (.int j)) = some (.int (i - j)) := rfl
@[simp] theorem gLt_int (st : List MO) (i j : Int) : gLt st (.pu (.int i)) (.pu (.int j)) = some (.bool (decide (i < j))) := rfl
@[simp] theorem gLe_int (st : List MO) (i j : Int) : gLe st (.pu (.int i)) (.pu (.int j)) = some (.bool (decide (i ≤ j))) := rfl
@[simp] theorem gGt_int (st : List MO) (i j : Int) : gGt st (.pu (.int i)) (.pu (.int j)) = some (.bool (decide (j < i))) := rfl
@[simp] theorem gGe_int (st : List MO) (i j : Int) : gGe st (.pu (.int i)) (.pu (.int j)) = some (.bool (decide (j ≤ i))) := rfl
@[simp] theorem gNeg_int (st : List MO) (i : Int) : gNeg st (.pu (.int i)) = some (.int (-i)) := rfl
theorem gMod_int (st : List MO) {i j : Int} (h : 0 < j) : gMod st (.pu (.int i)) (.pu (.int j)) = some (.int (i % j)) := if_pos h
theorem gFdiv_int (st : List MO) {i j : Int} (h : 0 < j ∧ j < 1073741824) : gFdiv st (.pu (.int i)) (.pu (.int j)) = some (.int (i / j)) := if_pos h
theorem gMulX_int (st : List MO) {i j : Int} (h : ((-(2 ^ 64) < i ∧ i < 2 ^ 64) ∨ (-(2 ^ 64) < j ∧ j < 2 ^ 64)) ∨ (i.natAbs < 2 ^ 4000 ∧ j.natAbs < 2 ^ 4000)) : gMulX st (.pu (.int i)) (.pu (.int j)) = some (.int (i * j)) := if_pos h
theorem gPow_int (st : List MO) {i j : Int} (h : 0 ≤ j ∧ j ≤ 40 ∧ i.natAbs < 2 ^ 4000) : gPow st (.pu (.int i)) (.pu (.int j)) = some (.int (i ^ j.toNat)) := if_pos h
@[simp] theorem gIsN_ap (st : List MO) (x : SV) : gIsN st x (.pu .none) = some (.bool (isNon x)) := rfl
@[simp] theorem gNotN_ap (st : List MO) (x : SV) : gNotN st x (.pu .none) = some (.bool (!isNon x)) := rfl
@[simp] theorem gIsB_ap (st : List MO) (a b : Bool) : gIsB st (.pu (.bool a)) (.pu (.bool b)) = some (.bool (decide (a = b))) := rfl
@[simp] theorem gNotB_ap (st : List MO) (a b : Bool) : gNotB st (.pu (.bool a)) (.pu (.bool b)) = some (.bool (!decide (a = b))) := rfl
@[simp] theorem isNon_none : isNon (.pu .none) = true := rfl
@[simp] theorem isNon_int (i : Int) : isNon (.pu (.int i)) = false := rfl
@[simp] theorem isNon_bool (i : Bool) : isNon (.pu (.bool i)) = false := rfl
@[simp] theorem isNon_str (i : Str) : isNon (.pu (.str i)) = false := rfl
@[simp] theorem isNon_list (i : List PyData) : isNon (.pu (.list i)) = false := rfl
@[simp] theorem isNon_tuple (i : List PyData) : isNon (.pu (.tuple i)) = false := rfl
@[simp] theorem gIx_list (st : List MO) (ds : List PyData) (i : Int) : gIx st (.pu (.list ds)) (.pu (.int i)) = atI ds i := rfl
@[simp] theorem gIx_tup (st : List MO) (ds : List PyData) (i : Int) : gIx st (.pu (.tuple ds)) (.pu (.int i)) = atI ds i := rfl
@[simp] theorem atI_0 {α : Type} (a : α) (l : List α) : atI (a :: l) 0 = some a := by
  unfold atI ixN; simp
theorem atI_cast {α : Type} (l : List α) (n : Nat) : atI l (n : Int) = l[n]? := by
  unfold atI ixN
  rw [if_pos (Int.natCast_nonneg n)]
  by_cases h : (n : Int) < (l.length : Int)
  · rw [if_pos h]; rfl
  · rw [if_neg h, List.getElem?_eq_none (by omega)]; rfl
@[simp] theorem atI_1 {α : Type} (a b : α) (l : List α) : atI (a :: b :: l) 1 = some b := by rw [show (1 : Int) = ((1 : Nat) : Int) from rfl, atI_cast]; rfl
@[simp] theorem atI_2 {α : Type} (a b c : α) (l : List α) : atI (a :: b :: c :: l) 2 = some c := by rw [show (2 : Int) = ((2 : Nat) : Int) from rfl, atI_cast]; rfl
@[simp] theorem atI_3 {α : Type} (a b c d : α) (l : List α) : atI (a :: b :: c :: d :: l) 3 = some d := by rw [show (3 : Int) = ((3 : Nat) : Int) from rfl, atI_cast]; rfl
@[simp] theorem atI_4 {α : Type} (a b c d e : α) (l : List α) : atI (a :: b :: c :: d :: e :: l) 4 = some e := by rw [show (4 : Int) = ((4 : Nat) : Int) from rfl, atI_cast]; rfl
@[simp] theorem atI_5 {α : Type} (a b c d e f : α) (l : List α) : atI (a :: b :: c :: d :: e :: f :: l) 5 = some f := by rw [show (5 : Int) = ((5 : Nat) : Int) from rfl, atI_cast]; rfl
@[simp] theorem gSl3_list (st : List MO) (ds : List PyData) (lo hi : Option Int) : gSl3 st (.pu (.list ds)) lo hi = some (.list (cutD ds lo hi)) := rfl
@[simp] theorem gSl3_tup (st : List MO) (ds : List PyData) (lo hi : Option Int) : gSl3 st (.pu (.tuple ds)) lo hi = some (.tuple (cutD ds lo hi)) := rfl
theorem cutD_to (ds : List PyData) (n : Nat) : cutD ds none (some (n : Int)) = ds.take n := by
  unfold cutD
  rw [HT.sIx_none, HT.sIx_nat, List.drop_zero, Nat.sub_zero]
  by_cases h : n ≤ ds.length
  · rw [Nat.min_eq_left h]
  · rw [Nat.min_eq_right (by omega), List.take_length, List.take_of_length_le (by omega)]
theorem cutD_from (ds : List PyData) (n : Nat) : cutD ds (some (n : Int)) none = ds.drop n := by
  unfold cutD
  rw [HT.sIx_none, HT.sIx_nat]
  by_cases h : n ≤ ds.length
  · rw [Nat.min_eq_left h, List.take_of_length_le (by rw [List.length_drop]; omega)]
  · rw [Nat.min_eq_right (by omega), List.drop_length, List.drop_of_length_le (by omega), List.take_nil]
@[simp] theorem gLen_list (st : List MO) (ds : List PyData) : gLen st [.pu (.list ds)] = some (.int ds.length) := rfl
@[simp] theorem gLen_tup (st : List MO) (ds : List PyData) : gLen st [.pu (.tuple ds)] = some (.int ds.length) := rfl
@[simp] theorem gLen_sc (st : List MO) (ns : List Int) : gLen st [.sc ns] = some (.int ns.length) := rfl
@[simp] theorem gInt_int (st : List MO) (i : Int) : gInt st [.pu (.int i)] = some (.int i) := rfl
@[simp] theorem gInt_bool (st : List MO) (k : Bool) : gInt st [.pu (.bool k)] = some (.int (if k then 1 else 0)) := rfl
@[simp] theorem gAbs_int (st : List MO) (i : Int) : gAbs st [.pu (.int i)] = some (.int (if i < 0 then -i else i)) := rfl
@[simp] theorem gMax2_int (st : List MO) (i j : Int) : gMax2 st [.pu (.int i), .pu (.int j)] = some (.int (if j > i then j else i)) := rfl
@[simp] theorem gMin2_int (st : List MO) (i j : Int) : gMin2 st [.pu (.int i), .pu (.int j)] = some (.int (if j < i then j else i)) := rfl
theorem gSum_ints (st : List MO) (ns : List Int) : gSum st [.pu (.list (ns.map PyData.int))] = some (.int ns.sum) := by
  unfold gSum
  simp only [rdl_pu, intsOf_map]
theorem gBols_bols (f : List Bool → Bool) (st : List MO) (bs : List Bool) : gBols f st [.pu (.list (bs.map PyData.bool))] = some (.bool (f bs)) := by
  unfold gBols
  simp only [rdl_pu, bolsOf_map]
@[simp] theorem tyN_none (st : List MO) : tyN st (.pu .none) = some "NoneType" := rfl
@[simp] theorem tyN_bool (st : List MO) (i : Bool) : tyN st (.pu (.bool i)) = some "bool" := rfl
@[simp] theorem tyN_int (st : List MO) (i : Int) : tyN st (.pu (.int i)) = some "int" := rfl
@[simp] theorem tyN_str (st : List MO) (i : Str) : tyN st (.pu (.str i)) = some "str" := rfl
@[simp] theorem tyN_list (st : List MO) (i : List PyData) : tyN st (.pu (.list i)) = some "list" := rfl
@[simp] theorem tyN_tuple (st : List MO) (i : List PyData) : tyN st (.pu (.tuple i)) = some "tuple" := rfl
@[simp] theorem gdName_pu (i : Nat) (d : PyData) (s : S) : gdName i (.pu d) s = some { s with sl := s.sl.set i (some (.pu d)) } := rfl
@[simp] theorem gdName_sc (i : Nat) (d : List Int) (s : S) : gdName i (.sc d) s = some { s with sl := s.sl.set i (some (.sc d)) } := rfl
@[simp] theorem gdNil_ap (s : S) : gdNil [] s = some s := rfl
@[simp] theorem gdCons_ap (g : SV → S → Option S) (gs : List SV → S → Option S) (x : SV) (r : List SV) (s : S) : gdCons g gs (x :: r) s = (g x s).bind fun s1 => gs r s1 := rfl
theorem gdTup_ap (n : Nat) (gs : List SV → S → Option S) (ds : List PyData) (s : S) (h : ds.length = n) : gdTup n gs (.pu (.tuple ds)) s = gs (ds.map SV.pu) s := if_pos h
@[simp] theorem sStore_pu (i : Nat) (d : PyData) (s : S) : sStore i (.pu d) s = some { s with sl := s.sl.set i (some (.pu d)) } := rfl
@[simp] theorem liftO_some (s : S) : liftO (some s) = .nx s := rfl
@[simp] theorem frzS_pu (d : PyData) (s : S) : frzS (.pu d) s = .ok (.pu d) s := rfl
@[simp] theorem parRes_pu (i j : Nat) (x y : PyData) (s : S) : parRes i j [.pu x, .pu y] s = .nx { s with sl := (s.sl.set i (some (.pu x))).set j (some (.pu y)) } := rfl
@[simp] theorem asInt1_ap (i : Int) : asInt1 [.pu (.int i)] = some i := rfl
@[simp] theorem asInt2_ap (i j : Int) : asInt2 [.pu (.int i), .pu (.int j)] = some (i, j) := rfl
@[simp] theorem forD_nil (g : SV → S → Option S) (b : S → Out) (s : S) : forD g b [] s = .nx s := rfl
theorem forD_cons (g : SV → S → Option S) (b : S → Out) (x : SV) (xs : List SV) (s : S) : forD g b (x :: xs) s = match g x s with
    | none => .no
    | some s1 => match b s1 with
      | .nx s2 => forD g b xs s2
      | .ct s2 => forD g b xs s2
      | .bk s2 => .nx s2
      | o => o := rfl
@[simp] theorem replicate_lit0 {α : Type} (a : α) : List.replicate 0 a = [] := rfl
theorem seq_nx {a b : S → Out} {s s1 : S} (h : a s = .nx s1) : sSeq a b s = b s1 := by rw [sSeq_ap, h]
@[simp] theorem take_app {st : List MO} {n : Nat} {r : List MO} (h : st.length = n) : (st ++ r).take n = st := by subst h; simp
/-- a loop with an invariant -/
theorem forD_inv {g : SV → S → Option S} {b : S → Out} (I : Nat → S → Prop) : ∀ (xs : List SV) (k : Nat) (s : S), I k s →
    (∀ (i : Nat) (x : SV) (s : S), xs[i]? = some x → I (k + i) s → ∃ s1 s2, g x s = some s1 ∧ b s1 = .nx s2 ∧ I (k + i + 1) s2) → ∃ s', forD g b xs s = .nx s' ∧ I (k + xs.length) s'
  | [], k, s, h, _ => ⟨s, rfl, h⟩
  | x :: xs, k, s, h, st => by
    obtain ⟨s1, s2, e1, e2, h2⟩ := st 0 x s rfl h
    obtain ⟨s', e3, h3⟩ := forD_inv I xs (k + 1) s2 h2 fun i y t hy ht => by
      have := st (i + 1) y t hy (by rw [show k + (i + 1) = k + 1 + i by omega]; exact ht)
      rw [show k + (i + 1) + 1 = k + 1 + i + 1 by omega] at this
      exact this
    refine ⟨s', ?_, by rw [List.length_cons, show k + (xs.length + 1) = k + 1 + xs.length by omega]; exact h3⟩
    rw [forD_cons, e1]
    simp only [e2, e3]
end
end Lw
/-! Lw18: more rows for simp: ==, comprehensions, range. -/
namespace Lw
open PySem PySem.Spec PyProof.Rows L2
noncomputable section
/-- data that may be compared -/
def Sh (n : Nat) (d : PyData) : Prop := d.canLay0 = true ∧ d.depth ≤ n
def ShA (n : Nat) (ds : List PyData) : Prop := PyData.canLayAll0 ds = true ∧ PyData.depthAll ds ≤ n
theorem Sh.mono {n m : Nat} {d : PyData} (h : Sh n d) (k : n ≤ m) : Sh m d := ⟨h.1, Nat.le_trans h.2 k⟩
theorem ShA.mono {n m : Nat} {d : List PyData} (h : ShA n d) (k : n ≤ m) : ShA m d := ⟨h.1, Nat.le_trans h.2 k⟩
theorem sh_int (n : Nat) (i : Int) : Sh n (.int i) := ⟨rfl, Nat.zero_le _⟩
theorem sh_bool (n : Nat) (i : Bool) : Sh n (.bool i) := ⟨rfl, Nat.zero_le _⟩
theorem sh_none (n : Nat) : Sh n .none := ⟨rfl, Nat.zero_le _⟩
theorem shA_nil (n : Nat) : ShA n [] := ⟨rfl, Nat.zero_le _⟩
theorem shA_cons {n : Nat} {d : PyData} {r : List PyData} (h : Sh n d) (t : ShA n r) : ShA n (d :: r) := ⟨by rw [PyData.canLayAll0, h.1, t.1]; rfl, by rw [PyData.depthAll]; exact Nat.max_le.mpr ⟨h.2, t.2⟩⟩
theorem shA_of {n : Nat} : ∀ {ds : List PyData}, (∀ d ∈ ds, Sh n d) → ShA n ds
  | [], _ => shA_nil n
  | _ :: _, h => shA_cons (h _ List.mem_cons_self) (shA_of fun x hx => h x (List.mem_cons_of_mem _ hx))
theorem sh_list {n : Nat} {ds : List PyData} (h : ShA n ds) : Sh (n + 1) (.list ds) := ⟨by rw [PyData.canLay0]; exact h.1, by rw [PyData.depth]; exact Nat.succ_le_succ h.2⟩
theorem sh_tuple {n : Nat} {ds : List PyData} (h : ShA n ds) : Sh (n + 1) (.tuple ds) := ⟨by rw [PyData.canLay0]; exact h.1, by rw [PyData.depth]; exact Nat.succ_le_succ h.2⟩
theorem sh_shaped {n : Nat} {d : PyData} (h : Sh n d) (k : n ≤ 64) : SeqAt.shaped d = true := by
  unfold SeqAt.shaped
  rw [h.1, decide_eq_true (Nat.le_trans h.2 k)]; rfl
theorem gEq_sh (st : List MO) {n m : Nat} {d e : PyData} (h : Sh n d) (k : Sh m e) (hn : n ≤ 64) (hm : m ≤ 64) : gEq st (.pu d) (.pu e) = some (.bool (PyData.eqv d e)) := if_pos ⟨sh_shaped h hn, sh_shaped k hm⟩
theorem gNe_sh (st : List MO) {n m : Nat} {d e : PyData} (h : Sh n d) (k : Sh m e) (hn : n ≤ 64) (hm : m ≤ 64) : gNe st (.pu d) (.pu e) = some (.bool (!PyData.eqv d e)) := if_pos ⟨sh_shaped h hn, sh_shaped k hm⟩
theorem gEq_refl (st : List MO) {n : Nat} {d : PyData} (h : Sh n d) (hn : n ≤ 64) : gEq st (.pu d) (.pu d) = some (.bool true) := by rw [gEq_sh st h h hn hn, SeqAt.eqv_refl d h.1]
theorem gNe_refl (st : List MO) {n : Nat} {d : PyData} (h : Sh n d) (hn : n ≤ 64) : gNe st (.pu d) (.pu d) = some (.bool false) := by rw [gNe_sh st h h hn hn, SeqAt.eqv_refl d h.1]; rfl
@[simp] theorem gEq_int (st : List MO) (i j : Int) : gEq st (.pu (.int i)) (.pu (.int j)) = some (.bool (decide (i = j))) := by
  rw [gEq_sh st (sh_int 0 i) (sh_int 0 j) (by decide) (by decide), PyData.eqv]
  rfl
@[simp] theorem gNe_int (st : List MO) (i j : Int) : gNe st (.pu (.int i)) (.pu (.int j)) = some (.bool (!decide (i = j))) := by
  rw [gNe_sh st (sh_int 0 i) (sh_int 0 j) (by decide) (by decide), PyData.eqv]
  rfl
@[simp] theorem gEq_bool (st : List MO) (i j : Bool) : gEq st (.pu (.bool i)) (.pu (.bool j)) = some (.bool (i == j)) := by
  rw [gEq_sh st (sh_bool 0 i) (sh_bool 0 j) (by decide) (by decide), PyData.eqv]
@[simp] theorem gNe_bool (st : List MO) (i j : Bool) : gNe st (.pu (.bool i)) (.pu (.bool j)) = some (.bool (!(i == j))) := by
  rw [gNe_sh st (sh_bool 0 i) (sh_bool 0 j) (by decide) (by decide), PyData.eqv]
/-- a comprehension that leaves the store -/
theorem lcD_map {sl : List (Option SV)} {g : SV → S → Option S} {t : S → Res Bool} {e : S → Res SV} {st : List MO} {b : Nat} (p : SV → Bool) (h : SV → PyData) : ∀ (xs : List SV),
    (∀ x ∈ xs, ∃ s1 sl1, g x ⟨sl, st, b⟩ = some s1 ∧ t s1 = .ok (p x) ⟨sl1, st, b⟩ ∧ (p x = true → ∃ sl2, e ⟨sl1, st, b⟩ = .ok (.pu (h x)) ⟨sl2, st, b⟩)) →
    ∀ sl0, ∃ sl', lcD sl g t e xs ⟨sl0, st, b⟩ = some ((xs.filter p).map h, ⟨sl', st, b⟩)
  | [], _, sl0 => ⟨sl0, rfl⟩
  | x :: xs, H, sl0 => by
    obtain ⟨s1, sl1, e1, e2, e3⟩ := H x List.mem_cons_self
    have ih := lcD_map p h xs fun y hy => H y (List.mem_cons_of_mem _ hy)
    unfold lcD
    rw [e1]
    dsimp only
    rw [e2]
    cases q : p x with
    | false =>
      dsimp only
      obtain ⟨sl', e4⟩ := ih sl1
      exact ⟨sl', by rw [e4]; simp [q]⟩
    | true =>
      obtain ⟨sl2, e4⟩ := e3 q
      obtain ⟨sl', e5⟩ := ih sl2
      exact ⟨sl', by dsimp only; rw [e4]; dsimp only; rw [pur_pu]; dsimp only; rw [e5]; simp [q]⟩
theorem lLc_map {vs : List Nat} {it : S → Res (List SV)} {g : SV → S → Option S} {t : S → Res Bool} {e : S → Res SV} {s : S} (p : SV → Bool) (h : SV → PyData) {xs : List SV} (h1 : it s = .ok xs s) (h2 : xs.length ≤ 16777216)
    (H : ∀ x ∈ xs, ∃ s1 sl1, g x ⟨wipeS s.sl vs, s.st, s.base⟩ = some s1 ∧ t s1 = .ok (p x) ⟨sl1, s.st, s.base⟩ ∧ (p x = true → ∃ sl2, e ⟨sl1, s.st, s.base⟩ = .ok (.pu (h x)) ⟨sl2, s.st, s.base⟩)) :
    lLc vs it g t e s = .ok ((xs.filter p).map h) s := by
  obtain ⟨sl', e1⟩ := lcD_map p h xs H s.sl
  rw [lLc_ap, h1, bnd_ok, if_pos h2, show lcD (wipeS s.sl vs) g t e xs s = _ from e1]
theorem rangeL_len (lo hi : Int) : (rangeL lo hi).length = (hi - lo).toNat := by simp [rangeL]
theorem rangeL_mem {lo hi : Int} {x : SV} (h : x ∈ rangeL lo hi) : ∃ i : Int, x = .pu (.int i) ∧ lo ≤ i ∧ i < hi := by
  unfold rangeL at h
  obtain ⟨i, hi', e⟩ := List.mem_map.mp h
  have := List.mem_range.mp hi'
  exact ⟨lo + (i : Nat), e.symm, by omega, by omega⟩
theorem rangeL_at {lo hi : Int} {i : Nat} {x : SV} (h : (rangeL lo hi)[i]? = some x) : x = .pu (.int (lo + (i : Nat))) ∧ lo + (i : Nat) < hi := by
  unfold rangeL at h
  rw [List.getElem?_map] at h
  by_cases c : i < (hi - lo).toNat
  · rw [List.getElem?_range c] at h
    cases h
    exact ⟨rfl, by omega⟩
  · rw [List.getElem?_eq_none (by simp; omega)] at h
    cases h
end
end Lw
/-! Lw19: objects of the store, for simp. -/
namespace Lw
open PySem PySem.Spec PyProof.Rows L2
noncomputable section
theorem at_app {st : List MO} {i : Nat} {o : MO} (h : st[i]? = some o) (r : List MO) : (st ++ r)[i]? = some o := by
  rw [List.getElem?_append_left ((List.getElem?_eq_some_iff.mp h).1)]; exact h
theorem at_lt {st : List MO} {i : Nat} {o : MO} (h : st[i]? = some o) : i < st.length := (List.getElem?_eq_some_iff.mp h).1
theorem insAt_of {st : List MO} {i : Nat} {C : Addr} {fs : List (Str × FV)} (h : st[i]? = some (.ins C fs)) : insAt st (.rf i) = some (i, C, fs) := by
  unfold insAt; simp only [h]
theorem lstAt_of {st : List MO} {i : Nat} {ds : List PyData} (h : st[i]? = some (.lst ds)) : lstAt st (.rf i) = some (i, ds) := by
  unfold lstAt; simp only [h]
theorem gIx_rf {st : List MO} {i : Nat} {ds : List PyData} (h : st[i]? = some (.lst ds)) (k : Int) : gIx st (.rf i) (.pu (.int k)) = atI ds k := by
  unfold gIx rd; simp only [h]
theorem rd_rf {st : List MO} {i : Nat} {ds : List PyData} (h : st[i]? = some (.lst ds)) : rd st (.rf i) = some (.list ds) := by
  unfold rd; simp only [h]
theorem set_app {st : List MO} {i : Nat} {o : MO} {r : List MO} (h : i < st.length) : (st ++ r).set i o = st.set i o ++ r := List.set_append_left _ _ h
theorem set_at {st : List MO} {i : Nat} {o : MO} (h : i < st.length) : (st.set i o)[i]? = some o := by
  rw [List.getElem?_set_self h]
theorem set_ne {st : List MO} {i j : Nat} {o : MO} (h : i ≠ j) : (st.set i o)[j]? = st[j]? := by
  rw [List.getElem?_set_ne h]
@[simp] theorem putRes_ap (f : Str) (C : Addr) (x y : SV) (s : S) : putRes f C x y s = match insAt s.st x, pur s.st y with
  | some (j, C', fs), some d => if C' = C ∧ fs.length < 900 ∧ isPuF (fs.lookup f) = true then some { s with st := s.st.set j (.ins C (putFD f (.pu d) fs)) } else none
  | _, _ => none := rfl
theorem insAt_set {st : List MO} {i : Nat} (h : i < st.length) (C : Addr) (fs : List (Str × FV)) (r : List MO) : insAt (st.set i (.ins C fs) ++ r) (.rf i) = some (i, C, fs) := insAt_of (at_app (set_at h) r)
@[simp] theorem setRes_ap (x i y : SV) (s : S) : setRes x i y s = match lstAt s.st x, i, pur s.st y with
  | some (j, ds), .pu (.int k), some d => (match ixN ds.length k with
    | some n => some { s with st := s.st.set j (.lst (ds.set n d)) }
    | none => none)
  | _, _, _ => none := rfl
theorem lstAt_set {st : List MO} {i : Nat} (h : i < st.length) (ds : List PyData) (r : List MO) : lstAt (st.set i (.lst ds) ++ r) (.rf i) = some (i, ds) := lstAt_of (at_app (set_at h) r)
theorem gIx_set {st : List MO} {i : Nat} (h : i < st.length) (ds : List PyData) (r : List MO) (k : Int) : gIx (st.set i (.lst ds) ++ r) (.rf i) (.pu (.int k)) = atI ds k := gIx_rf (at_app (set_at h) r) k
@[simp] theorem ixN_3_0 : ixN 3 0 = some 0 := rfl
@[simp] theorem ixN_3_1 : ixN 3 1 = some 1 := rfl
@[simp] theorem ixN_3_2 : ixN 3 2 = some 2 := rfl
theorem big {x : Int} {a : Nat} (h : x.natAbs < 2 ^ a) (h2 : a ≤ 4000) : x.natAbs < 2 ^ 4000 := Nat.lt_of_lt_of_le h (Nat.pow_le_pow_right (by decide) h2)
theorem bigI {x : Int} {a : Nat} (h0 : 0 ≤ x) (h : x < (2 : Int) ^ a) (h2 : a ≤ 4000) : x.natAbs < 2 ^ 4000 := big (a := a) (by
  have : ((2 ^ a : Nat) : Int) = (2 : Int) ^ a := by norm_cast
  omega) h2
/-- a loop that is left by return at the k-th item -/
theorem forD_ret {g : SV → S → Option S} {b : S → Out} {v : SV} {J : S → Prop} (I : S → Prop) : ∀ (xs : List SV) (k : Nat) (x : SV) (s : S), xs[k]? = some x → I s →
    (∀ (i : Nat) (y : SV) (s : S), i < k → xs[i]? = some y → I s → ∃ s1 s2, g y s = some s1 ∧ b s1 = .nx s2 ∧ I s2) →
    (∀ s, I s → ∃ s1 s2, g x s = some s1 ∧ b s1 = .rt v s2 ∧ J s2) → ∃ s', forD g b xs s = .rt v s' ∧ J s'
  | [], k, x, s, e, _, _, _ => by simp at e
  | y :: xs, 0, x, s, e, h, _, last => by
    simp at e; subst e
    obtain ⟨s1, s2, e1, e2, h2⟩ := last s h
    refine ⟨s2, ?_, h2⟩
    rw [forD_cons, e1]; simp only [e2]
  | y :: xs, k + 1, x, s, e, h, st, last => by
    obtain ⟨s1, s2, e1, e2, h2⟩ := st 0 y s (by omega) rfl h
    obtain ⟨s', e3, h3⟩ := forD_ret I xs k x s2 (by simpa using e) h2 (fun i z t hi hz ht => st (i + 1) z t (by omega) (by simpa using hz) ht) last
    refine ⟨s', ?_, h3⟩
    rw [forD_cons, e1]; simp only [e2, e3]
theorem itL_pu (a : S → Res SV) {s s1 : S} {ds : List PyData} (h : a s = .ok (.pu (.list ds)) s1) : itL a s = .ok (ds.map SV.pu) s1 := by
  rw [itL_ap, h]; rfl
theorem itR1_of {a : S → Res (List SV)} {s s1 : S} {j : Int} (h : a s = .ok [.pu (.int j)] s1) (h0 : -1000000 ≤ j) (h1 : j ≤ 1000000000) : itR1 a s = .ok (rangeL 0 j) s1 := by
  have c : -(2 ^ 62) ≤ j ∧ j < 2 ^ 62 := ⟨Int.le_trans (by decide) h0, Int.lt_of_le_of_lt h1 (by decide)⟩
  rw [itR1_ap, h, bnd_ok, asInt1_ap]
  exact if_pos c
theorem itR2_of {a : S → Res (List SV)} {s s1 : S} {i j : Int} (h : a s = .ok [.pu (.int i), .pu (.int j)] s1) (h2 : -1000000 ≤ i) (h3 : i ≤ 1000000000) (h0 : -1000000 ≤ j) (h1 : j ≤ 1000000000) : itR2 a s = .ok (rangeL i j) s1 := by
  have c : -(2 ^ 62) ≤ i ∧ i < 2 ^ 62 ∧ -(2 ^ 62) ≤ j ∧ j < 2 ^ 62 := ⟨Int.le_trans (by decide) h2, Int.lt_of_le_of_lt h3 (by decide), Int.le_trans (by decide) h0, Int.lt_of_le_of_lt h1 (by decide)⟩
  rw [itR2_ap, h, bnd_ok, asInt2_ap]
  exact if_pos c
theorem sFor_of {it : S → Res (List SV)} {g : SV → S → Option S} {b : S → Out} {s s1 : S} {xs : List SV} (h : it s = .ok xs s1) : sFor it g b s = forD g b xs s1 := by
  rw [sFor_ap, h]; rfl
theorem sFor_range {a : S → Res (List SV)} {g : SV → S → Option S} {b : S → Out} {s : S} {j : Int} (h : a s = .ok [.pu (.int j)] s) (h0 : -1000000 ≤ j) (h1 : j ≤ 1000000000) : sFor (itR1 a) g b s = forD g b (rangeL 0 j) s := sFor_of (itR1_of h h0 h1)
end
end Lw
/-! printed by gen.py from the linked text: the defs, their denotations, the terms of rules. -/
namespace K45
open PySem PySem.Spec PyProof.Rows L2 Lw
noncomputable section
abbrev topS (i : Nat) : Stmt := PySem.Challenge.pw_listworks_k45_heights_one_below_the_othe.main.body.getD i (.Pass ⟨0, 0, 0, 0⟩)
structure CA where
  Heights : Addr
abbrev s__law_integer : Stmt := topS 31
theorem sc__law_integer : FnScope ["value"] ["value"] (defScope s__law_integer) := ⟨rfl, rfl, rfl, by decide +kernel, rfl, by decide +kernel, by decide +kernel⟩
def n__law_integer (c : CA) : S → Out := (sRet (eAndV (eIsi "int" (eVar 0)) (eNotV (eIsi "bool" (eVar 0)))))
def f__law_integer (c : CA) : FD := runF 1 (n__law_integer c)
abbrev s__law_counted : Stmt := topS 33
theorem sc__law_counted : FnScope ["height", "guess"] ["height", "guess"] (defScope s__law_counted) := ⟨rfl, rfl, rfl, by decide +kernel, rfl, by decide +kernel, by decide +kernel⟩
def n__law_counted (c : CA) : S → Out := (sRet (eIfD (t2 gIsN (eVar 0) (eC .none)) (eVar 1) (eVar 0)))
def f__law_counted (c : CA) : FD := runF 2 (n__law_counted c)
abbrev s__law_tree_told : Stmt := topS 36
theorem sc__law_tree_told : FnScope ["guess", "tree", "one", "other", "told"] ["guess", "tree"] (defScope s__law_tree_told) := ⟨rfl, rfl, rfl, by decide +kernel, rfl, by decide +kernel, by decide +kernel⟩
def n__law_tree_told (c : CA) (rec : FD) : S → Out := (sSeq (sIf (t2 gIsN (eVar 1) (eC .none))
      (sRet (eTup (aCons (eC (.int 0)) (aCons (eC (.int 0)) (aCons (eC (.int 0)) aNil)))))
      sPass)
      (sSeq (sIf (tOrD (tNotD (tV (eIsi "tuple" (eVar 1)))) (t2 gNe (eCl gLen (aCons (eVar 1) aNil)) (eC (.int 5))))
      (sRet (eC .none))
      sPass)
      (sSeq (sPar2 2 3 (aCons (eCall rec (aArgs 2 0 [0, 1] (aCons (eVar 0) (aCons (e2 gIx (eVar 1) (eC (.int 0))) aNil)) aNil)) (aCons (eCall rec (aArgs 2 0 [0, 1] (aCons (eVar 0) (aCons (e2 gIx (eVar 1) (eC (.int 2))) aNil)) aNil)) aNil)))
      (sSeq (sIf (tOrD (t2 gIsN (eVar 2) (eC .none)) (tOrD (t2 gIsN (eVar 3) (eC .none)) (t2 gGt (eCl gAbs (aCons (e2 gSub (e2 gIx (eVar 2) (eC (.int 2))) (e2 gIx (eVar 3) (eC (.int 2)))) aNil)) (eC (.int 1)))))
      (sRet (eC .none))
      sPass)
      (sSeq (sIf (tAndD (t2 gNotN (e2 gIx (eVar 1) (eC (.int 1))) (eC .none)) (tOrD (tNotD (tV (eCall (f__law_integer c) (aArgs 1 0 [0] (aCons (e2 gIx (eVar 1) (eC (.int 1))) aNil) aNil)))) (t2 gLt (e2 gIx (eVar 1) (eC (.int 1))) (eC (.int 0)))))
      (sRet (eC .none))
      sPass)
      (sSeq (sSet 4 (eTup (aCons (e2 gAdd (e2 gAdd (e2 gIx (eVar 2) (eC (.int 0))) (eC (.int 1))) (e2 gIx (eVar 3) (eC (.int 0)))) (aCons (e2 gAdd (e2 gAdd (e2 gIx (eVar 2) (eC (.int 1))) (eCall (f__law_counted c) (aArgs 2 0 [0, 1] (aCons (e2 gIx (eVar 1) (eC (.int 1))) (aCons (eVar 0) aNil)) aNil))) (e2 gIx (eVar 3) (eC (.int 1)))) aNil))))
      (sSeq (sIf (tOrD (tNotD (tV (eCall (f__law_integer c) (aArgs 1 0 [0] (aCons (e2 gIx (eVar 1) (eC (.int 3))) aNil) aNil)))) (tOrD (tNotD (tV (eCall (f__law_integer c) (aArgs 1 0 [0] (aCons (e2 gIx (eVar 1) (eC (.int 4))) aNil) aNil)))) (t2 gNe (eVar 4) (eSl3 (eVar 1) (eO (some (eC (.int 3)))) (eO none)))))
      (sRet (eC .none))
      sPass)
      (sRet (e2 gAdd (eVar 4) (eTup (aCons (e2 gAdd (eC (.int 1)) (eCl gMax2 (aCons (e2 gIx (eVar 2) (eC (.int 2))) (aCons (e2 gIx (eVar 3) (eC (.int 2))) aNil)))) aNil)))))))))))
def f__law_tree_told (c : CA) : Nat → FD
  | 0 => fun _ _ => .no
  | n + 1 => runF 5 (n__law_tree_told c (f__law_tree_told c n))
abbrev s__law_same : Stmt := topS 30
theorem sc__law_same : FnScope ["found", "due", "at"] ["found", "due"] (defScope s__law_same) := ⟨rfl, rfl, rfl, by decide +kernel, rfl, by decide +kernel, by decide +kernel⟩
def n__law_same_l1 (c : CA) (rec : FD) : S → Res (List PyData) := lLc [2] (itR1 (aCons (eCl gLen (aCons (eVar 1) aNil)) aNil)) (gdName 2) tTrue (eCall rec (aArgs 2 0 [0, 1] (aCons (e2 gIx (eVar 0) (eVar 2)) (aCons (e2 gIx (eVar 1) (eVar 2)) aNil)) aNil))
def n__law_same (c : CA) (rec : FD) : S → Out := (sSeq (sIf (tOrD (tV (eIsi "list" (eVar 1))) (tV (eIsi "tuple" (eVar 1))))
      (sSeq (sIf (tOrD (t2 gNe (eIsi "list" (eVar 0)) (eIsi "list" (eVar 1))) (t2 gNe (eIsi "tuple" (eVar 0)) (eIsi "tuple" (eVar 1))))
      (sRet (eC (.bool false)))
      sPass)
      (sRet (eAndV (e2 gEq (eCl gLen (aCons (eVar 0) aNil)) (eCl gLen (aCons (eVar 1) aNil))) (eCl gAll (aCons (eP (n__law_same_l1 c rec)) aNil)))))
      sPass)
      (sSeq (sIf (tV (eIsi "bool" (eVar 1)))
      (sRet (eAndV (eIsi "bool" (eVar 0)) (e2 gEq (eVar 0) (eVar 1))))
      sPass)
      (sSeq (sIf (tV (eIsi "int" (eVar 1)))
      (sRet (eAndV (eIsi "int" (eVar 0)) (eAndV (eNotV (eIsi "bool" (eVar 0))) (e2 gEq (eVar 0) (eVar 1)))))
      sPass)
      (sSeq (sIf (tV (eIsi "str" (eVar 1)))
      (sRet (eAndV (eIsi "str" (eVar 0)) (e2 gEq (eVar 0) (eVar 1))))
      sPass)
      (sRet (eAndV (e2 gIsN (eVar 0) (eC .none)) (e2 gIsN (eVar 1) (eC .none))))))))
def f__law_same (c : CA) : Nat → FD
  | 0 => fun _ _ => .no
  | n + 1 => runF 3 (n__law_same c (f__law_same c n))
abbrev s_need_guess : Stmt := topS 20
theorem sc_need_guess : FnScope ["guess"] ["guess"] (defScope s_need_guess) := ⟨rfl, rfl, rfl, by decide +kernel, rfl, by decide +kernel, by decide +kernel⟩
def n_need_guess (c : CA) : S → Out := (sIf (t2 gLt (eVar 0) (eC (.int 1)))
      sNo
      sPass)
def f_need_guess (c : CA) : FD := runF 1 (n_need_guess c)
abbrev s_Heights___init__ : Stmt := inClass (topS 22) 0
theorem sc_Heights___init__ : FnScope ["self", "guess"] ["self", "guess"] (defScope s_Heights___init__) := ⟨rfl, rfl, rfl, by decide +kernel, rfl, by decide +kernel, by decide +kernel⟩
def n_Heights___init__ (c : CA) : S → Out := (sSeq (sDrop (eCall (f_need_guess c) (aArgs 1 0 [0] (aCons (eVar 1) aNil) aNil)))
      (sSeq (sFldD "guess" c.Heights (eVar 0) (eVar 1))
      (sSeq (sFldD "root" c.Heights (eVar 0) (eC .none))
      (sSeq (sFldD "known_ones" c.Heights (eVar 0) (eC (.int 0)))
      (sFldD "many" c.Heights (eVar 0) (eC (.int 0)))))))
def f_Heights___init__ (c : CA) : FD := runF 2 (n_Heights___init__ c)
abbrev s_plain_tree : Stmt := topS 17
theorem sc_plain_tree : FnScope ["node", "left", "height", "right", "rows", "total", "depth"] ["node"] (defScope s_plain_tree) := ⟨rfl, rfl, rfl, by decide +kernel, rfl, by decide +kernel, by decide +kernel⟩
def n_plain_tree (c : CA) (rec : FD) : S → Out := (sSeq (sIf (t2 gIsN (eVar 0) (eC .none))
      (sRet (eC .none))
      sPass)
      (sSeq (sAsg (gdTup 6 (gdCons (gdName 1) (gdCons (gdName 2) (gdCons (gdName 3) (gdCons (gdName 4) (gdCons (gdName 5) (gdCons (gdName 6) gdNil))))))) (eVar 0))
      (sRet (eTup (aCons (eCall rec (aArgs 1 0 [0] (aCons (eVar 1) aNil) aNil)) (aCons (eVar 2) (aCons (eCall rec (aArgs 1 0 [0] (aCons (eVar 3) aNil) aNil)) (aCons (eVar 4) (aCons (eVar 5) aNil)))))))))
def f_plain_tree (c : CA) : Nat → FD
  | 0 => fun _ _ => .no
  | n + 1 => runF 7 (n_plain_tree c (f_plain_tree c n))
abbrev s_Heights_tree : Stmt := inClass (topS 22) 11
theorem sc_Heights_tree : FnScope ["self"] ["self"] (defScope s_Heights_tree) := ⟨rfl, rfl, rfl, by decide +kernel, rfl, by decide +kernel, by decide +kernel⟩
def n_Heights_tree (c : CA) : S → Out := (sRet (eCall (f_plain_tree c 20) (aArgs 1 0 [0] (aCons (eFld (eVar 0) "root" c.Heights) aNil) aNil)))
def f_Heights_tree (c : CA) : FD := runF 1 (n_Heights_tree c)
abbrev s_heights_of : Stmt := topS 18
theorem sc_heights_of : FnScope ["node"] ["node"] (defScope s_heights_of) := ⟨rfl, rfl, rfl, by decide +kernel, rfl, by decide +kernel, by decide +kernel⟩
def n_heights_of (c : CA) (rec : FD) : S → Out := (sSeq (sIf (t2 gIsN (eVar 0) (eC .none))
      (sRet (eP (lDis aNil)))
      sPass)
      (sRet (e2 gAdd (e2 gAdd (eCall rec (aArgs 1 0 [0] (aCons (e2 gIx (eVar 0) (eC (.int 0))) aNil) aNil)) (eP (lDis (aCons (e2 gIx (eVar 0) (eC (.int 1))) aNil)))) (eCall rec (aArgs 1 0 [0] (aCons (e2 gIx (eVar 0) (eC (.int 2))) aNil) aNil)))))
def f_heights_of (c : CA) : Nat → FD
  | 0 => fun _ _ => .no
  | n + 1 => runF 1 (n_heights_of c (f_heights_of c n))
abbrev s_heights_in : Stmt := topS 26
theorem sc_heights_in : FnScope ["tree"] ["tree"] (defScope s_heights_in) := ⟨rfl, rfl, rfl, by decide +kernel, rfl, by decide +kernel, by decide +kernel⟩
def n_heights_in (c : CA) : S → Out := (sRet (eCall (f_heights_of c 20) (aArgs 1 0 [0] (aCons (eVar 0) aNil) aNil)))
def f_heights_in (c : CA) : FD := runF 1 (n_heights_in c)
abbrev s__law_draw : Stmt := topS 29
theorem sc__law_draw : FnScope ["deck", "many", "found", "mixed"] ["deck", "many"] (defScope s__law_draw) := ⟨rfl, rfl, rfl, by decide +kernel, rfl, by decide +kernel, by decide +kernel⟩
def n__law_draw (c : CA) : S → Out := (sSeq (sIf (t2 gGt (e2 gIx (eVar 0) (eC (.int 0))) (eC (.int 0)))
      (sSeq (sSet 2 (e2 gMod (eCl gInt (aCons (e2 gIx (eVar 0) (eC (.int 0))) aNil)) (eVar 1)))
      (sSeq (sIxSet (eVar 0) (eC (.int 0)) (e2 gFdiv (e2 gIx (eVar 0) (eC (.int 0))) (eVar 1)))
      (sRet (eVar 2))))
      sPass)
      (sSeq (sIxSet (eVar 0) (eC (.int 2)) (e2 gAdd (e2 gIx (eVar 0) (eC (.int 2))) (eC (.int 1))))
      (sSeq (sSet 3 (e2 gMod (eCl gInt (aCons (e2 gAdd (e2 gPow (e2 gAdd (e2 gIx (eVar 0) (eC (.int 1))) (e2 gMulX (eC (.int 7368787)) (e2 gIx (eVar 0) (eC (.int 2))))) (eC (.int 2))) (e2 gMulX (eC (.int 131)) (e2 gIx (eVar 0) (eC (.int 2))))) aNil)) (e2 gAdd (e2 gPow (eC (.int 10)) (eC (.int 27))) (eC (.int 103)))))
      (sSeq (sSet 3 (e2 gMod (eCl gInt (aCons (e2 gAdd (e2 gAdd (e2 gMulX (eVar 3) (eVar 3)) (e2 gIx (eVar 0) (eC (.int 1)))) (eC (.int 11))) aNil)) (e2 gAdd (e2 gPow (eC (.int 10)) (eC (.int 28))) (eC (.int 331)))))
      (sRet (e2 gMod (eCl gInt (aCons (e2 gFdiv (eVar 3) (eC (.int 6007))) aNil)) (eVar 1)))))))
def f__law_draw (c : CA) : FD := runF 4 (n__law_draw c)
abbrev s__law_height : Stmt := topS 32
theorem sc__law_height : FnScope ["deck"] ["deck"] (defScope s__law_height) := ⟨rfl, rfl, rfl, by decide +kernel, rfl, by decide +kernel, by decide +kernel⟩
def n__law_height (c : CA) : S → Out := (sRet (e2 gIx (eP (lDis (aCons (eC .none) (aCons (eC (.int 0)) (aCons (eC (.int 1)) (aCons (eCall (f__law_draw c) (aArgs 2 0 [0, 1] (aCons (eVar 0) (aCons (eC (.int 5)) aNil)) aNil)) (aCons (eCall (f__law_draw c) (aArgs 2 0 [0, 1] (aCons (eVar 0) (aCons (eC (.int 60)) aNil)) aNil)) (aCons (e2 gPow (eC (.int 10)) (eC (.int 6))) (aCons (eC .none) aNil))))))))) (eCall (f__law_draw c) (aArgs 2 0 [0, 1] (aCons (eVar 0) (aCons (eC (.int 7)) aNil)) aNil))))
def f__law_height (c : CA) : FD := runF 1 (n__law_height c)
abbrev s_Heights_need_index : Stmt := inClass (topS 22) 1
theorem sc_Heights_need_index : FnScope ["self", "index", "many"] ["self", "index", "many"] (defScope s_Heights_need_index) := ⟨rfl, rfl, rfl, by decide +kernel, rfl, by decide +kernel, by decide +kernel⟩
def n_Heights_need_index (c : CA) : S → Out := (sIf (tNotD (tV (eChain gLe gLt (eC (.int 0)) (eVar 1) (eVar 2))))
      sNo
      sPass)
def f_Heights_need_index (c : CA) : FD := runF 3 (n_Heights_need_index c)
abbrev s_need_height : Stmt := topS 21
theorem sc_need_height : FnScope ["height"] ["height"] (defScope s_need_height) := ⟨rfl, rfl, rfl, by decide +kernel, rfl, by decide +kernel, by decide +kernel⟩
def n_need_height (c : CA) : S → Out := (sIf (tAndD (t2 gNotN (eVar 0) (eC .none)) (t2 gLt (eVar 0) (eC (.int 0))))
      sNo
      sPass)
def f_need_height (c : CA) : FD := runF 1 (n_need_height c)
abbrev s_rows_of : Stmt := topS 6
theorem sc_rows_of : FnScope ["node"] ["node"] (defScope s_rows_of) := ⟨rfl, rfl, rfl, by decide +kernel, rfl, by decide +kernel, by decide +kernel⟩
def n_rows_of (c : CA) : S → Out := (sRet (eIfD (t2 gIsN (eVar 0) (eC .none)) (eC (.int 0)) (e2 gIx (eVar 0) (eC (.int 3)))))
def f_rows_of (c : CA) : FD := runF 1 (n_rows_of c)
abbrev s_total_of : Stmt := topS 7
theorem sc_total_of : FnScope ["node"] ["node"] (defScope s_total_of) := ⟨rfl, rfl, rfl, by decide +kernel, rfl, by decide +kernel, by decide +kernel⟩
def n_total_of (c : CA) : S → Out := (sRet (eIfD (t2 gIsN (eVar 0) (eC .none)) (eC (.int 0)) (e2 gIx (eVar 0) (eC (.int 4)))))
def f_total_of (c : CA) : FD := runF 1 (n_total_of c)
abbrev s_counted : Stmt := topS 5
theorem sc_counted : FnScope ["height", "guess"] ["height", "guess"] (defScope s_counted) := ⟨rfl, rfl, rfl, by decide +kernel, rfl, by decide +kernel, by decide +kernel⟩
def n_counted (c : CA) : S → Out := (sRet (eIfD (t2 gIsN (eVar 0) (eC .none)) (eVar 1) (eVar 0)))
def f_counted (c : CA) : FD := runF 2 (n_counted c)
abbrev s_depth_of : Stmt := topS 8
theorem sc_depth_of : FnScope ["node"] ["node"] (defScope s_depth_of) := ⟨rfl, rfl, rfl, by decide +kernel, rfl, by decide +kernel, by decide +kernel⟩
def n_depth_of (c : CA) : S → Out := (sRet (eIfD (t2 gIsN (eVar 0) (eC .none)) (eC (.int 0)) (e2 gIx (eVar 0) (eC (.int 5)))))
def f_depth_of (c : CA) : FD := runF 1 (n_depth_of c)
abbrev s_joined : Stmt := topS 9
theorem sc_joined : FnScope ["left", "height", "right", "guess", "rows", "total"] ["left", "height", "right", "guess"] (defScope s_joined) := ⟨rfl, rfl, rfl, by decide +kernel, rfl, by decide +kernel, by decide +kernel⟩
def n_joined (c : CA) : S → Out := (sSeq (sSet 4 (e2 gAdd (e2 gAdd (eCall (f_rows_of c) (aArgs 1 0 [0] (aCons (eVar 0) aNil) aNil)) (eC (.int 1))) (eCall (f_rows_of c) (aArgs 1 0 [0] (aCons (eVar 2) aNil) aNil))))
      (sSeq (sSet 5 (e2 gAdd (e2 gAdd (eCall (f_total_of c) (aArgs 1 0 [0] (aCons (eVar 0) aNil) aNil)) (eCall (f_counted c) (aArgs 2 0 [0, 1] (aCons (eVar 1) (aCons (eVar 3) aNil)) aNil))) (eCall (f_total_of c) (aArgs 1 0 [0] (aCons (eVar 2) aNil) aNil))))
      (sRet (eTup (aCons (eVar 0) (aCons (eVar 1) (aCons (eVar 2) (aCons (eVar 4) (aCons (eVar 5) (aCons (e2 gAdd (eC (.int 1)) (eCl gMax2 (aCons (eCall (f_depth_of c) (aArgs 1 0 [0] (aCons (eVar 0) aNil) aNil)) (aCons (eCall (f_depth_of c) (aArgs 1 0 [0] (aCons (eVar 2) aNil) aNil)) aNil)))) aNil))))))))))
def f_joined (c : CA) : FD := runF 6 (n_joined c)
abbrev s_balanced : Stmt := topS 10
theorem sc_balanced : FnScope ["left", "height", "right", "guess", "first", "own", "second", "one", "middle", "other"] ["left", "height", "right", "guess"] (defScope s_balanced) := ⟨rfl, rfl, rfl, by decide +kernel, rfl, by decide +kernel, by decide +kernel⟩
def n_balanced (c : CA) : S → Out := (sSeq (sIf (t2 gGt (eCall (f_depth_of c) (aArgs 1 0 [0] (aCons (eVar 0) aNil) aNil)) (e2 gAdd (eCall (f_depth_of c) (aArgs 1 0 [0] (aCons (eVar 2) aNil) aNil)) (eC (.int 1))))
      (sSeq (sAsg (gdTup 3 (gdCons (gdName 4) (gdCons (gdName 5) (gdCons (gdName 6) gdNil)))) (eSl3 (eVar 0) (eO none) (eO (some (eC (.int 3))))))
      (sSeq (sIf (t2 gGe (eCall (f_depth_of c) (aArgs 1 0 [0] (aCons (eVar 4) aNil) aNil)) (eCall (f_depth_of c) (aArgs 1 0 [0] (aCons (eVar 6) aNil) aNil)))
      (sRet (eCall (f_joined c) (aArgs 4 0 [0, 1, 2, 3] (aCons (eVar 4) (aCons (eVar 5) (aCons (eCall (f_joined c) (aArgs 4 0 [0, 1, 2, 3] (aCons (eVar 6) (aCons (eVar 1) (aCons (eVar 2) (aCons (eVar 3) aNil)))) aNil)) (aCons (eVar 3) aNil)))) aNil)))
      sPass)
      (sSeq (sAsg (gdTup 3 (gdCons (gdName 7) (gdCons (gdName 8) (gdCons (gdName 9) gdNil)))) (eSl3 (eVar 6) (eO none) (eO (some (eC (.int 3))))))
      (sRet (eCall (f_joined c) (aArgs 4 0 [0, 1, 2, 3] (aCons (eCall (f_joined c) (aArgs 4 0 [0, 1, 2, 3] (aCons (eVar 4) (aCons (eVar 5) (aCons (eVar 7) (aCons (eVar 3) aNil)))) aNil)) (aCons (eVar 8) (aCons (eCall (f_joined c) (aArgs 4 0 [0, 1, 2, 3] (aCons (eVar 9) (aCons (eVar 1) (aCons (eVar 2) (aCons (eVar 3) aNil)))) aNil)) (aCons (eVar 3) aNil)))) aNil))))))
      sPass)
      (sSeq (sIf (t2 gGt (eCall (f_depth_of c) (aArgs 1 0 [0] (aCons (eVar 2) aNil) aNil)) (e2 gAdd (eCall (f_depth_of c) (aArgs 1 0 [0] (aCons (eVar 0) aNil) aNil)) (eC (.int 1))))
      (sSeq (sAsg (gdTup 3 (gdCons (gdName 4) (gdCons (gdName 5) (gdCons (gdName 6) gdNil)))) (eSl3 (eVar 2) (eO none) (eO (some (eC (.int 3))))))
      (sSeq (sIf (t2 gGe (eCall (f_depth_of c) (aArgs 1 0 [0] (aCons (eVar 6) aNil) aNil)) (eCall (f_depth_of c) (aArgs 1 0 [0] (aCons (eVar 4) aNil) aNil)))
      (sRet (eCall (f_joined c) (aArgs 4 0 [0, 1, 2, 3] (aCons (eCall (f_joined c) (aArgs 4 0 [0, 1, 2, 3] (aCons (eVar 0) (aCons (eVar 1) (aCons (eVar 4) (aCons (eVar 3) aNil)))) aNil)) (aCons (eVar 5) (aCons (eVar 6) (aCons (eVar 3) aNil)))) aNil)))
      sPass)
      (sSeq (sAsg (gdTup 3 (gdCons (gdName 7) (gdCons (gdName 8) (gdCons (gdName 9) gdNil)))) (eSl3 (eVar 4) (eO none) (eO (some (eC (.int 3))))))
      (sRet (eCall (f_joined c) (aArgs 4 0 [0, 1, 2, 3] (aCons (eCall (f_joined c) (aArgs 4 0 [0, 1, 2, 3] (aCons (eVar 0) (aCons (eVar 1) (aCons (eVar 7) (aCons (eVar 3) aNil)))) aNil)) (aCons (eVar 8) (aCons (eCall (f_joined c) (aArgs 4 0 [0, 1, 2, 3] (aCons (eVar 9) (aCons (eVar 5) (aCons (eVar 6) (aCons (eVar 3) aNil)))) aNil)) (aCons (eVar 3) aNil)))) aNil))))))
      sPass)
      (sRet (eCall (f_joined c) (aArgs 4 0 [0, 1, 2, 3] (aCons (eVar 0) (aCons (eVar 1) (aCons (eVar 2) (aCons (eVar 3) aNil)))) aNil)))))
def f_balanced (c : CA) : FD := runF 10 (n_balanced c)
abbrev s_with_row : Stmt := topS 11
theorem sc_with_row : FnScope ["node", "index", "height", "guess", "left", "own", "right"] ["node", "index", "height", "guess"] (defScope s_with_row) := ⟨rfl, rfl, rfl, by decide +kernel, rfl, by decide +kernel, by decide +kernel⟩
def n_with_row (c : CA) (rec : FD) : S → Out := (sSeq (sIf (t2 gIsN (eVar 0) (eC .none))
      (sRet (eCall (f_joined c) (aArgs 4 0 [0, 1, 2, 3] (aCons (eC .none) (aCons (eVar 2) (aCons (eC .none) (aCons (eVar 3) aNil)))) aNil)))
      sPass)
      (sSeq (sAsg (gdTup 3 (gdCons (gdName 4) (gdCons (gdName 5) (gdCons (gdName 6) gdNil)))) (eSl3 (eVar 0) (eO none) (eO (some (eC (.int 3))))))
      (sSeq (sIf (t2 gLe (eVar 1) (eCall (f_rows_of c) (aArgs 1 0 [0] (aCons (eVar 4) aNil) aNil)))
      (sRet (eCall (f_balanced c) (aArgs 4 0 [0, 1, 2, 3] (aCons (eCall rec (aArgs 4 0 [0, 1, 2, 3] (aCons (eVar 4) (aCons (eVar 1) (aCons (eVar 2) (aCons (eVar 3) aNil)))) aNil)) (aCons (eVar 5) (aCons (eVar 6) (aCons (eVar 3) aNil)))) aNil)))
      sPass)
      (sRet (eCall (f_balanced c) (aArgs 4 0 [0, 1, 2, 3] (aCons (eVar 4) (aCons (eVar 5) (aCons (eCall rec (aArgs 4 0 [0, 1, 2, 3] (aCons (eVar 6) (aCons (e2 gSub (e2 gSub (eVar 1) (eCall (f_rows_of c) (aArgs 1 0 [0] (aCons (eVar 4) aNil) aNil))) (eC (.int 1))) (aCons (eVar 2) (aCons (eVar 3) aNil)))) aNil)) (aCons (eVar 3) aNil)))) aNil))))))
def f_with_row (c : CA) : Nat → FD
  | 0 => fun _ _ => .no
  | n + 1 => runF 7 (n_with_row c (f_with_row c n))
abbrev s_Heights_insert : Stmt := inClass (topS 22) 2
theorem sc_Heights_insert : FnScope ["self", "index", "height"] ["self", "index", "height"] (defScope s_Heights_insert) := ⟨rfl, rfl, rfl, by decide +kernel, rfl, by decide +kernel, by decide +kernel⟩
def n_Heights_insert (c : CA) : S → Out := (sSeq (sDrop (eMeth (f_Heights_need_index c) "need_index" c.Heights (eVar 0) (aArgs 2 0 [0, 1] (aCons (eVar 1) (aCons (e2 gAdd (eFld (eVar 0) "many" c.Heights) (eC (.int 1))) aNil)) aNil)))
      (sSeq (sDrop (eCall (f_need_height c) (aArgs 1 0 [0] (aCons (eVar 2) aNil) aNil)))
      (sSeq (sFldD "root" c.Heights (eVar 0) (eCall (f_with_row c 20) (aArgs 4 0 [0, 1, 2, 3] (aCons (eFld (eVar 0) "root" c.Heights) (aCons (eVar 1) (aCons (eVar 2) (aCons (eFld (eVar 0) "guess" c.Heights) aNil)))) aNil)))
      (sSeq (sFldAugD "known_ones" c.Heights gAddI (eVar 0) (eCl gInt (aCons (e2 gNotN (eVar 2) (eC .none)) aNil)))
      (sFldAugD "many" c.Heights gAddI (eVar 0) (eC (.int 1)))))))
def f_Heights_insert (c : CA) : FD := runF 3 (n_Heights_insert c)
abbrev s__law_tree_rows : Stmt := topS 37
theorem sc__law_tree_rows : FnScope ["tree"] ["tree"] (defScope s__law_tree_rows) := ⟨rfl, rfl, rfl, by decide +kernel, rfl, by decide +kernel, by decide +kernel⟩
def n__law_tree_rows (c : CA) (rec : FD) : S → Out := (sRet (eIfD (t2 gIsN (eVar 0) (eC .none)) (eP (lDis aNil)) (e2 gAdd (e2 gAdd (eCall rec (aArgs 1 0 [0] (aCons (e2 gIx (eVar 0) (eC (.int 0))) aNil) aNil)) (eP (lDis (aCons (e2 gIx (eVar 0) (eC (.int 1))) aNil)))) (eCall rec (aArgs 1 0 [0] (aCons (e2 gIx (eVar 0) (eC (.int 2))) aNil) aNil)))))
def f__law_tree_rows (c : CA) : Nat → FD
  | 0 => fun _ _ => .no
  | n + 1 => runF 1 (n__law_tree_rows c (f__law_tree_rows c n))
abbrev s_is_integer : Stmt := topS 23
theorem sc_is_integer : FnScope ["value"] ["value"] (defScope s_is_integer) := ⟨rfl, rfl, rfl, by decide +kernel, rfl, by decide +kernel, by decide +kernel⟩
def n_is_integer (c : CA) : S → Out := (sRet (eAndV (eIsi "int" (eVar 0)) (eNotV (eIsi "bool" (eVar 0)))))
def f_is_integer (c : CA) : FD := runF 1 (n_is_integer c)
abbrev s_measured : Stmt := topS 24
theorem sc_measured : FnScope ["guess", "tree", "left", "height", "right", "rows", "total", "one", "other"] ["guess", "tree"] (defScope s_measured) := ⟨rfl, rfl, rfl, by decide +kernel, rfl, by decide +kernel, by decide +kernel⟩
def n_measured (c : CA) (rec : FD) : S → Out := (sSeq (sIf (t2 gIsN (eVar 1) (eC .none))
      (sRet (eTup (aCons (eC (.int 0)) (aCons (eC (.int 0)) (aCons (eC (.int 0)) aNil)))))
      sPass)
      (sSeq (sIf (tOrD (tNotD (tV (eIsi "tuple" (eVar 1)))) (t2 gNe (eCl gLen (aCons (eVar 1) aNil)) (eC (.int 5))))
      (sRet (eC .none))
      sPass)
      (sSeq (sAsg (gdTup 5 (gdCons (gdName 2) (gdCons (gdName 3) (gdCons (gdName 4) (gdCons (gdName 5) (gdCons (gdName 6) gdNil)))))) (eVar 1))
      (sSeq (sIf (tAndD (t2 gNotN (eVar 3) (eC .none)) (tOrD (tNotD (tV (eCall (f_is_integer c) (aArgs 1 0 [0] (aCons (eVar 3) aNil) aNil)))) (t2 gLt (eVar 3) (eC (.int 0)))))
      (sRet (eC .none))
      sPass)
      (sSeq (sSet 7 (eCall rec (aArgs 2 0 [0, 1] (aCons (eVar 0) (aCons (eVar 2) aNil)) aNil)))
      (sSeq (sSet 8 (eIfD (t2 gIsN (eVar 7) (eC .none)) (eC .none) (eCall rec (aArgs 2 0 [0, 1] (aCons (eVar 0) (aCons (eVar 4) aNil)) aNil))))
      (sSeq (sIf (tOrD (t2 gIsN (eVar 8) (eC .none)) (tOrD (t2 gGt (eCl gAbs (aCons (e2 gSub (e2 gIx (eVar 7) (eC (.int 2))) (e2 gIx (eVar 8) (eC (.int 2)))) aNil)) (eC (.int 1))) (tOrD (tNotD (tV (eCall (f_is_integer c) (aArgs 1 0 [0] (aCons (eVar 5) aNil) aNil)))) (tNotD (tV (eCall (f_is_integer c) (aArgs 1 0 [0] (aCons (eVar 6) aNil) aNil)))))))
      (sRet (eC .none))
      sPass)
      (sSeq (sIf (tOrD (t2 gNe (eVar 5) (e2 gAdd (e2 gAdd (e2 gIx (eVar 7) (eC (.int 0))) (eC (.int 1))) (e2 gIx (eVar 8) (eC (.int 0))))) (t2 gNe (eVar 6) (e2 gAdd (e2 gAdd (e2 gIx (eVar 7) (eC (.int 1))) (eCall (f_counted c) (aArgs 2 0 [0, 1] (aCons (eVar 3) (aCons (eVar 0) aNil)) aNil))) (e2 gIx (eVar 8) (eC (.int 1))))))
      (sRet (eC .none))
      sPass)
      (sRet (eTup (aCons (eVar 5) (aCons (eVar 6) (aCons (e2 gAdd (eC (.int 1)) (eCl gMax2 (aCons (e2 gIx (eVar 7) (eC (.int 2))) (aCons (e2 gIx (eVar 8) (eC (.int 2))) aNil)))) aNil)))))))))))))
def f_measured (c : CA) : Nat → FD
  | 0 => fun _ _ => .no
  | n + 1 => runF 9 (n_measured c (f_measured c n))
abbrev s_tree_right : Stmt := topS 25
theorem sc_tree_right : FnScope ["guess", "tree"] ["guess", "tree"] (defScope s_tree_right) := ⟨rfl, rfl, rfl, by decide +kernel, rfl, by decide +kernel, by decide +kernel⟩
def n_tree_right (c : CA) : S → Out := (sRet (e2 gNotN (eCall (f_measured c 20) (aArgs 2 0 [0, 1] (aCons (eVar 0) (aCons (eVar 1) aNil)) aNil)) (eC .none)))
def f_tree_right (c : CA) : FD := runF 2 (n_tree_right c)
abbrev s_height_at : Stmt := topS 14
theorem sc_height_at : FnScope ["node", "index", "place"] ["node", "index"] (defScope s_height_at) := ⟨rfl, rfl, rfl, by decide +kernel, rfl, by decide +kernel, by decide +kernel⟩
def n_height_at (c : CA) (rec : FD) : S → Out := (sSeq (sSet 2 (eCall (f_rows_of c) (aArgs 1 0 [0] (aCons (e2 gIx (eVar 0) (eC (.int 0))) aNil) aNil)))
      (sSeq (sIf (t2 gLt (eVar 1) (eVar 2))
      (sRet (eCall rec (aArgs 2 0 [0, 1] (aCons (e2 gIx (eVar 0) (eC (.int 0))) (aCons (eVar 1) aNil)) aNil)))
      sPass)
      (sRet (eIfD (t2 gEq (eVar 1) (eVar 2)) (e2 gIx (eVar 0) (eC (.int 1))) (eCall rec (aArgs 2 0 [0, 1] (aCons (e2 gIx (eVar 0) (eC (.int 2))) (aCons (e2 gSub (e2 gSub (eVar 1) (eVar 2)) (eC (.int 1))) aNil)) aNil))))))
def f_height_at (c : CA) : Nat → FD
  | 0 => fun _ _ => .no
  | n + 1 => runF 3 (n_height_at c (f_height_at c n))
abbrev s_without_row : Stmt := topS 13
theorem sc_without_row : FnScope ["node", "index", "guess", "left", "own", "right", "place"] ["node", "index", "guess"] (defScope s_without_row) := ⟨rfl, rfl, rfl, by decide +kernel, rfl, by decide +kernel, by decide +kernel⟩
def n_without_row (c : CA) (rec : FD) : S → Out := (sSeq (sAsg (gdTup 3 (gdCons (gdName 3) (gdCons (gdName 4) (gdCons (gdName 5) gdNil)))) (eSl3 (eVar 0) (eO none) (eO (some (eC (.int 3))))))
      (sSeq (sSet 6 (eCall (f_rows_of c) (aArgs 1 0 [0] (aCons (eVar 3) aNil) aNil)))
      (sSeq (sIf (t2 gLt (eVar 1) (eVar 6))
      (sRet (eCall (f_balanced c) (aArgs 4 0 [0, 1, 2, 3] (aCons (eCall rec (aArgs 3 0 [0, 1, 2] (aCons (eVar 3) (aCons (eVar 1) (aCons (eVar 2) aNil))) aNil)) (aCons (eVar 4) (aCons (eVar 5) (aCons (eVar 2) aNil)))) aNil)))
      sPass)
      (sSeq (sIf (t2 gGt (eVar 1) (eVar 6))
      (sRet (eCall (f_balanced c) (aArgs 4 0 [0, 1, 2, 3] (aCons (eVar 3) (aCons (eVar 4) (aCons (eCall rec (aArgs 3 0 [0, 1, 2] (aCons (eVar 5) (aCons (e2 gSub (e2 gSub (eVar 1) (eVar 6)) (eC (.int 1))) (aCons (eVar 2) aNil))) aNil)) (aCons (eVar 2) aNil)))) aNil)))
      sPass)
      (sSeq (sIf (t2 gIsN (eVar 5) (eC .none))
      (sRet (eVar 3))
      sPass)
      (sRet (eCall (f_balanced c) (aArgs 4 0 [0, 1, 2, 3] (aCons (eVar 3) (aCons (eCall (f_height_at c 20) (aArgs 2 0 [0, 1] (aCons (eVar 5) (aCons (eC (.int 0)) aNil)) aNil)) (aCons (eCall rec (aArgs 3 0 [0, 1, 2] (aCons (eVar 5) (aCons (eC (.int 0)) (aCons (eVar 2) aNil))) aNil)) (aCons (eVar 2) aNil)))) aNil))))))))
def f_without_row (c : CA) : Nat → FD
  | 0 => fun _ _ => .no
  | n + 1 => runF 7 (n_without_row c (f_without_row c n))
abbrev s_Heights_height : Stmt := inClass (topS 22) 5
theorem sc_Heights_height : FnScope ["self", "index"] ["self", "index"] (defScope s_Heights_height) := ⟨rfl, rfl, rfl, by decide +kernel, rfl, by decide +kernel, by decide +kernel⟩
def n_Heights_height (c : CA) : S → Out := (sSeq (sDrop (eMeth (f_Heights_need_index c) "need_index" c.Heights (eVar 0) (aArgs 2 0 [0, 1] (aCons (eVar 1) (aCons (eFld (eVar 0) "many" c.Heights) aNil)) aNil)))
      (sRet (eCall (f_height_at c 20) (aArgs 2 0 [0, 1] (aCons (eFld (eVar 0) "root" c.Heights) (aCons (eVar 1) aNil)) aNil))))
def f_Heights_height (c : CA) : FD := runF 2 (n_Heights_height c)
abbrev s_Heights_remove : Stmt := inClass (topS 22) 4
theorem sc_Heights_remove : FnScope ["self", "index"] ["self", "index"] (defScope s_Heights_remove) := ⟨rfl, rfl, rfl, by decide +kernel, rfl, by decide +kernel, by decide +kernel⟩
def n_Heights_remove (c : CA) : S → Out := (sSeq (sDrop (eMeth (f_Heights_need_index c) "need_index" c.Heights (eVar 0) (aArgs 2 0 [0, 1] (aCons (eVar 1) (aCons (eFld (eVar 0) "many" c.Heights) aNil)) aNil)))
      (sSeq (sFldAugD "known_ones" c.Heights gSub (eVar 0) (eCl gInt (aCons (e2 gNotN (eMeth (f_Heights_height c) "height" c.Heights (eVar 0) (aArgs 1 0 [0] (aCons (eVar 1) aNil) aNil)) (eC .none)) aNil)))
      (sSeq (sFldD "root" c.Heights (eVar 0) (eCall (f_without_row c 20) (aArgs 3 0 [0, 1, 2] (aCons (eFld (eVar 0) "root" c.Heights) (aCons (eVar 1) (aCons (eFld (eVar 0) "guess" c.Heights) aNil))) aNil)))
      (sFldAugD "many" c.Heights gSub (eVar 0) (eC (.int 1))))))
def f_Heights_remove (c : CA) : FD := runF 2 (n_Heights_remove c)
abbrev s__law_before : Stmt := topS 34
theorem sc__law_before : FnScope ["heights", "guess", "index", "height"] ["heights", "guess", "index"] (defScope s__law_before) := ⟨rfl, rfl, rfl, by decide +kernel, rfl, by decide +kernel, by decide +kernel⟩
def n__law_before_l1 (c : CA) : S → Res (List PyData) := lLc [3] (itL (eSl3 (eVar 0) (eO none) (eO (some (eVar 2))))) (gdName 3) tTrue (eCall (f__law_counted c) (aArgs 2 0 [0, 1] (aCons (eVar 3) (aCons (eVar 1) aNil)) aNil))
def n__law_before (c : CA) : S → Out := (sRet (eCl gSum (aCons (eP (n__law_before_l1 c)) aNil)))
def f__law_before (c : CA) : FD := runF 4 (n__law_before c)
abbrev s_covering : Stmt := topS 16
theorem sc_covering : FnScope ["node", "offset", "guess", "left", "own", "right", "behind"] ["node", "offset", "guess"] (defScope s_covering) := ⟨rfl, rfl, rfl, by decide +kernel, rfl, by decide +kernel, by decide +kernel⟩
def n_covering (c : CA) (rec : FD) : S → Out := (sSeq (sAsg (gdTup 3 (gdCons (gdName 3) (gdCons (gdName 4) (gdCons (gdName 5) gdNil)))) (eSl3 (eVar 0) (eO none) (eO (some (eC (.int 3))))))
      (sSeq (sIf (t2 gLt (eVar 1) (eCall (f_total_of c) (aArgs 1 0 [0] (aCons (eVar 3) aNil) aNil)))
      (sRet (eCall rec (aArgs 3 0 [0, 1, 2] (aCons (eVar 3) (aCons (eVar 1) (aCons (eVar 2) aNil))) aNil)))
      sPass)
      (sSeq (sSet 6 (e2 gAdd (eCall (f_total_of c) (aArgs 1 0 [0] (aCons (eVar 3) aNil) aNil)) (eCall (f_counted c) (aArgs 2 0 [0, 1] (aCons (eVar 4) (aCons (eVar 2) aNil)) aNil))))
      (sSeq (sIf (t2 gLt (eVar 1) (eVar 6))
      (sRet (eCall (f_rows_of c) (aArgs 1 0 [0] (aCons (eVar 3) aNil) aNil)))
      sPass)
      (sRet (e2 gAdd (e2 gAdd (eCall (f_rows_of c) (aArgs 1 0 [0] (aCons (eVar 3) aNil) aNil)) (eC (.int 1))) (eCall rec (aArgs 3 0 [0, 1, 2] (aCons (eVar 5) (aCons (e2 gSub (eVar 1) (eVar 6)) (aCons (eVar 2) aNil))) aNil))))))))
def f_covering (c : CA) : Nat → FD
  | 0 => fun _ _ => .no
  | n + 1 => runF 7 (n_covering c (f_covering c n))
abbrev s_Heights_total : Stmt := inClass (topS 22) 9
theorem sc_Heights_total : FnScope ["self"] ["self"] (defScope s_Heights_total) := ⟨rfl, rfl, rfl, by decide +kernel, rfl, by decide +kernel, by decide +kernel⟩
def n_Heights_total (c : CA) : S → Out := (sRet (eCall (f_total_of c) (aArgs 1 0 [0] (aCons (eFld (eVar 0) "root" c.Heights) aNil) aNil)))
def f_Heights_total (c : CA) : FD := runF 1 (n_Heights_total c)
abbrev s_Heights_row_at : Stmt := inClass (topS 22) 8
theorem sc_Heights_row_at : FnScope ["self", "offset"] ["self", "offset"] (defScope s_Heights_row_at) := ⟨rfl, rfl, rfl, by decide +kernel, rfl, by decide +kernel, by decide +kernel⟩
def n_Heights_row_at (c : CA) : S → Out := (sRet (eIfD (tV (eChain gLe gLt (eC (.int 0)) (eVar 1) (eMeth (f_Heights_total c) "total" c.Heights (eVar 0) (aKw 0 [] aNil)))) (eCall (f_covering c 20) (aArgs 3 0 [0, 1, 2] (aCons (eFld (eVar 0) "root" c.Heights) (aCons (eVar 1) (aCons (eFld (eVar 0) "guess" c.Heights) aNil))) aNil)) (eC .none)))
def f_Heights_row_at (c : CA) : FD := runF 2 (n_Heights_row_at c)
abbrev s_Heights_all_heights : Stmt := inClass (topS 22) 13
theorem sc_Heights_all_heights : FnScope ["self"] ["self"] (defScope s_Heights_all_heights) := ⟨rfl, rfl, rfl, by decide +kernel, rfl, by decide +kernel, by decide +kernel⟩
def n_Heights_all_heights (c : CA) : S → Out := (sRet (eCall (f_heights_of c 20) (aArgs 1 0 [0] (aCons (eFld (eVar 0) "root" c.Heights) aNil) aNil)))
def f_Heights_all_heights (c : CA) : FD := runF 1 (n_Heights_all_heights c)
abbrev s_Heights___len__ : Stmt := inClass (topS 22) 12
theorem sc_Heights___len__ : FnScope ["self"] ["self"] (defScope s_Heights___len__) := ⟨rfl, rfl, rfl, by decide +kernel, rfl, by decide +kernel, by decide +kernel⟩
def n_Heights___len__ (c : CA) : S → Out := (sRet (eCl gLen (aCons (eMeth (f_Heights_all_heights c) "all_heights" c.Heights (eVar 0) (aKw 0 [] aNil)) aNil)))
def f_Heights___len__ (c : CA) : FD := runF 1 (n_Heights___len__ c)
abbrev s_Heights_known : Stmt := inClass (topS 22) 10
theorem sc_Heights_known : FnScope ["self"] ["self"] (defScope s_Heights_known) := ⟨rfl, rfl, rfl, by decide +kernel, rfl, by decide +kernel, by decide +kernel⟩
def n_Heights_known (c : CA) : S → Out := (sRet (eFld (eVar 0) "known_ones" c.Heights))
def f_Heights_known (c : CA) : FD := runF 1 (n_Heights_known c)
abbrev s_offset_of : Stmt := topS 15
theorem sc_offset_of : FnScope ["node", "index", "guess", "left", "own", "right", "behind"] ["node", "index", "guess"] (defScope s_offset_of) := ⟨rfl, rfl, rfl, by decide +kernel, rfl, by decide +kernel, by decide +kernel⟩
def n_offset_of (c : CA) (rec : FD) : S → Out := (sSeq (sIf (t2 gIsN (eVar 0) (eC .none))
      (sRet (eC (.int 0)))
      sPass)
      (sSeq (sAsg (gdTup 3 (gdCons (gdName 3) (gdCons (gdName 4) (gdCons (gdName 5) gdNil)))) (eSl3 (eVar 0) (eO none) (eO (some (eC (.int 3))))))
      (sSeq (sIf (t2 gLe (eVar 1) (eCall (f_rows_of c) (aArgs 1 0 [0] (aCons (eVar 3) aNil) aNil)))
      (sRet (eCall rec (aArgs 3 0 [0, 1, 2] (aCons (eVar 3) (aCons (eVar 1) (aCons (eVar 2) aNil))) aNil)))
      sPass)
      (sSeq (sSet 6 (eCall rec (aArgs 3 0 [0, 1, 2] (aCons (eVar 5) (aCons (e2 gSub (e2 gSub (eVar 1) (eCall (f_rows_of c) (aArgs 1 0 [0] (aCons (eVar 3) aNil) aNil))) (eC (.int 1))) (aCons (eVar 2) aNil))) aNil)))
      (sRet (e2 gAdd (e2 gAdd (eCall (f_total_of c) (aArgs 1 0 [0] (aCons (eVar 3) aNil) aNil)) (eCall (f_counted c) (aArgs 2 0 [0, 1] (aCons (eVar 4) (aCons (eVar 2) aNil)) aNil))) (eVar 6)))))))
def f_offset_of (c : CA) : Nat → FD
  | 0 => fun _ _ => .no
  | n + 1 => runF 7 (n_offset_of c (f_offset_of c n))
abbrev s_Heights_offset : Stmt := inClass (topS 22) 7
theorem sc_Heights_offset : FnScope ["self", "index"] ["self", "index"] (defScope s_Heights_offset) := ⟨rfl, rfl, rfl, by decide +kernel, rfl, by decide +kernel, by decide +kernel⟩
def n_Heights_offset (c : CA) : S → Out := (sSeq (sDrop (eMeth (f_Heights_need_index c) "need_index" c.Heights (eVar 0) (aArgs 2 0 [0, 1] (aCons (eVar 1) (aCons (e2 gAdd (eFld (eVar 0) "many" c.Heights) (eC (.int 1))) aNil)) aNil)))
      (sRet (eCall (f_offset_of c 20) (aArgs 3 0 [0, 1, 2] (aCons (eFld (eVar 0) "root" c.Heights) (aCons (eVar 1) (aCons (eFld (eVar 0) "guess" c.Heights) aNil))) aNil))))
def f_Heights_offset (c : CA) : FD := runF 2 (n_Heights_offset c)
abbrev s__law_covering : Stmt := topS 35
theorem sc__law_covering : FnScope ["heights", "guess", "offset", "index", "begin"] ["heights", "guess", "offset"] (defScope s__law_covering) := ⟨rfl, rfl, rfl, by decide +kernel, rfl, by decide +kernel, by decide +kernel⟩
def n__law_covering_b1 (c : CA) : S → Out := (sSeq (sSet 4 (eCall (f__law_before c) (aArgs 3 0 [0, 1, 2] (aCons (eVar 0) (aCons (eVar 1) (aCons (eVar 3) aNil))) aNil)))
      (sIf (tV (eChain gLe gLt (eVar 4) (eVar 2) (e2 gAdd (eVar 4) (eCall (f__law_counted c) (aArgs 2 0 [0, 1] (aCons (e2 gIx (eVar 0) (eVar 3)) (aCons (eVar 1) aNil)) aNil)))))
      (sRet (eVar 3))
      sPass))
def n__law_covering (c : CA) : S → Out := (sSeq (sFor (itR1 (aCons (eCl gLen (aCons (eVar 0) aNil)) aNil)) (gdName 3) (n__law_covering_b1 c))
      (sRet (eC .none)))
def f__law_covering (c : CA) : FD := runF 5 (n__law_covering c)
abbrev s__law_looks_right : Stmt := topS 38
theorem sc__law_looks_right : FnScope ["deck", "rows", "guess", "heights", "total", "known", "turn", "index", "offset", "height"] ["deck", "rows", "guess", "heights"] (defScope s__law_looks_right) := ⟨rfl, rfl, rfl, by decide +kernel, rfl, by decide +kernel, by decide +kernel⟩
def n__law_looks_right_l1 (c : CA) : S → Res (List PyData) := lLc [9] (itL (eVar 3)) (gdName 9) (t2 gNotN (eVar 9) (eC .none)) (eVar 9)
def n__law_looks_right_b1 (c : CA) : S → Out := (sSeq (sSet 7 (eCall (f__law_draw c) (aArgs 2 0 [0, 1] (aCons (eVar 0) (aCons (e2 gAdd (eCl gLen (aCons (eVar 3) aNil)) (eC (.int 1))) aNil)) aNil)))
      (sSeq (sIf (tNotD (tV (eCall (f__law_same c 6) (aArgs 2 0 [0, 1] (aCons (eMeth (f_Heights_offset c) "offset" c.Heights (eVar 1) (aArgs 1 0 [0] (aCons (eVar 7) aNil) aNil)) (aCons (eCall (f__law_before c) (aArgs 3 0 [0, 1, 2] (aCons (eVar 3) (aCons (eVar 2) (aCons (eVar 7) aNil))) aNil)) aNil)) aNil))))
      (sRet (eC (.bool false)))
      sPass)
      (sSeq (sIf (tAndD (t2 gLt (eVar 7) (eCl gLen (aCons (eVar 3) aNil))) (tNotD (tV (eCall (f__law_same c 6) (aArgs 2 0 [0, 1] (aCons (eMeth (f_Heights_height c) "height" c.Heights (eVar 1) (aArgs 1 0 [0] (aCons (eVar 7) aNil) aNil)) (aCons (e2 gIx (eVar 3) (eVar 7)) aNil)) aNil)))))
      (sRet (eC (.bool false)))
      sPass)
      (sSeq (sSet 8 (e2 gSub (e2 gAdd (eCall (f__law_before c) (aArgs 3 0 [0, 1, 2] (aCons (eVar 3) (aCons (eVar 2) (aCons (eVar 7) aNil))) aNil)) (eCall (f__law_draw c) (aArgs 2 0 [0, 1] (aCons (eVar 0) (aCons (eC (.int 5)) aNil)) aNil))) (eC (.int 2))))
      (sIf (tNotD (tV (eCall (f__law_same c 6) (aArgs 2 0 [0, 1] (aCons (eMeth (f_Heights_row_at c) "row_at" c.Heights (eVar 1) (aArgs 1 0 [0] (aCons (eVar 8) aNil) aNil)) (aCons (eCall (f__law_covering c) (aArgs 3 0 [0, 1, 2] (aCons (eVar 3) (aCons (eVar 2) (aCons (eVar 8) aNil))) aNil)) aNil)) aNil))))
      (sRet (eC (.bool false)))
      sPass)))))
def n__law_looks_right (c : CA) : S → Out := (sSeq (sSet 4 (eCall (f__law_before c) (aArgs 3 0 [0, 1, 2] (aCons (eVar 3) (aCons (eVar 2) (aCons (eCl gLen (aCons (eVar 3) aNil)) aNil))) aNil)))
      (sSeq (sSet 5 (eCl gLen (aCons (eP (n__law_looks_right_l1 c)) aNil)))
      (sSeq (sIf (tNotD (tV (eCall (f__law_same c 6) (aArgs 2 0 [0, 1] (aCons (eP (lDis (aCons (eLenO (f_Heights___len__ c) c.Heights (eVar 1)) (aCons (eMeth (f_Heights_total c) "total" c.Heights (eVar 1) (aKw 0 [] aNil)) (aCons (eMeth (f_Heights_known c) "known" c.Heights (eVar 1) (aKw 0 [] aNil)) aNil))))) (aCons (eP (lDis (aCons (eCl gLen (aCons (eVar 3) aNil)) (aCons (eVar 4) (aCons (eVar 5) aNil))))) aNil)) aNil))))
      (sRet (eC (.bool false)))
      sPass)
      (sSeq (sFor (itR1 (aCons (eC (.int 3)) aNil)) (gdName 6) (n__law_looks_right_b1 c))
      (sRet (eCall (f__law_same c 6) (aArgs 2 0 [0, 1] (aCons (eP (lDis (aCons (eMeth (f_Heights_row_at c) "row_at" c.Heights (eVar 1) (aArgs 1 0 [0] (aCons (e1 gNeg (eC (.int 1))) aNil) aNil)) (aCons (eMeth (f_Heights_row_at c) "row_at" c.Heights (eVar 1) (aArgs 1 0 [0] (aCons (eVar 4) aNil) aNil)) aNil)))) (aCons (eP (lDis (aCons (eC .none) (aCons (eC .none) aNil)))) aNil)) aNil)))))))
def f__law_looks_right (c : CA) : FD := runF 10 (n__law_looks_right c)
abbrev s_with_height : Stmt := topS 12
theorem sc_with_height : FnScope ["node", "index", "height", "guess", "left", "own", "right", "place"] ["node", "index", "height", "guess"] (defScope s_with_height) := ⟨rfl, rfl, rfl, by decide +kernel, rfl, by decide +kernel, by decide +kernel⟩
def n_with_height (c : CA) (rec : FD) : S → Out := (sSeq (sAsg (gdTup 3 (gdCons (gdName 4) (gdCons (gdName 5) (gdCons (gdName 6) gdNil)))) (eSl3 (eVar 0) (eO none) (eO (some (eC (.int 3))))))
      (sSeq (sSet 7 (eCall (f_rows_of c) (aArgs 1 0 [0] (aCons (eVar 4) aNil) aNil)))
      (sSeq (sIf (t2 gLt (eVar 1) (eVar 7))
      (sRet (eCall (f_joined c) (aArgs 4 0 [0, 1, 2, 3] (aCons (eCall rec (aArgs 4 0 [0, 1, 2, 3] (aCons (eVar 4) (aCons (eVar 1) (aCons (eVar 2) (aCons (eVar 3) aNil)))) aNil)) (aCons (eVar 5) (aCons (eVar 6) (aCons (eVar 3) aNil)))) aNil)))
      sPass)
      (sSeq (sIf (t2 gGt (eVar 1) (eVar 7))
      (sRet (eCall (f_joined c) (aArgs 4 0 [0, 1, 2, 3] (aCons (eVar 4) (aCons (eVar 5) (aCons (eCall rec (aArgs 4 0 [0, 1, 2, 3] (aCons (eVar 6) (aCons (e2 gSub (e2 gSub (eVar 1) (eVar 7)) (eC (.int 1))) (aCons (eVar 2) (aCons (eVar 3) aNil)))) aNil)) (aCons (eVar 3) aNil)))) aNil)))
      sPass)
      (sRet (eCall (f_joined c) (aArgs 4 0 [0, 1, 2, 3] (aCons (eVar 4) (aCons (eVar 2) (aCons (eVar 6) (aCons (eVar 3) aNil)))) aNil)))))))
def f_with_height (c : CA) : Nat → FD
  | 0 => fun _ _ => .no
  | n + 1 => runF 8 (n_with_height c (f_with_height c n))
abbrev s_Heights_learn : Stmt := inClass (topS 22) 3
theorem sc_Heights_learn : FnScope ["self", "index", "height"] ["self", "index", "height"] (defScope s_Heights_learn) := ⟨rfl, rfl, rfl, by decide +kernel, rfl, by decide +kernel, by decide +kernel⟩
def n_Heights_learn (c : CA) : S → Out := (sSeq (sDrop (eMeth (f_Heights_need_index c) "need_index" c.Heights (eVar 0) (aArgs 2 0 [0, 1] (aCons (eVar 1) (aCons (eFld (eVar 0) "many" c.Heights) aNil)) aNil)))
      (sSeq (sDrop (eCall (f_need_height c) (aArgs 1 0 [0] (aCons (eVar 2) aNil) aNil)))
      (sSeq (sFldAugD "known_ones" c.Heights gAddI (eVar 0) (e2 gSub (eCl gInt (aCons (e2 gNotN (eVar 2) (eC .none)) aNil)) (eCl gInt (aCons (e2 gNotN (eMeth (f_Heights_height c) "height" c.Heights (eVar 0) (aArgs 1 0 [0] (aCons (eVar 1) aNil) aNil)) (eC .none)) aNil))))
      (sFldD "root" c.Heights (eVar 0) (eCall (f_with_height c 20) (aArgs 4 0 [0, 1, 2, 3] (aCons (eFld (eVar 0) "root" c.Heights) (aCons (eVar 1) (aCons (eVar 2) (aCons (eFld (eVar 0) "guess" c.Heights) aNil)))) aNil))))))
def f_Heights_learn (c : CA) : FD := runF 3 (n_Heights_learn c)
abbrev s__law_right : Stmt := topS 39
theorem sc__law_right : FnScope ["deck", "guess", "heights", "rows", "turn", "way", "index", "height", "said", "told"] ["deck"] (defScope s__law_right) := ⟨rfl, rfl, rfl, by decide +kernel, rfl, by decide +kernel, by decide +kernel⟩
def n__law_right_b1 (c : CA) : S → Out := (sSeq (sPar3 5 6 7 (aCons (eCall (f__law_draw c) (aArgs 2 0 [0, 1] (aCons (eVar 0) (aCons (eC (.int 6)) aNil)) aNil)) (aCons (eCall (f__law_draw c) (aArgs 2 0 [0, 1] (aCons (eVar 0) (aCons (e2 gAdd (eCl gLen (aCons (eVar 2) aNil)) (eC (.int 1))) aNil)) aNil)) (aCons (eCall (f__law_height c) (aArgs 1 0 [0] (aCons (eVar 0) aNil) aNil)) aNil))))
      (sSeq (sSet 8 (eC .none))
      (sSeq (sIf (tOrD (t2 gLt (eVar 5) (eC (.int 3))) (t2 gEq (eVar 6) (eCl gLen (aCons (eVar 2) aNil))))
      (sSeq (sSet 8 (eMeth (f_Heights_insert c) "insert" c.Heights (eVar 3) (aArgs 2 0 [0, 1] (aCons (eVar 6) (aCons (eVar 7) aNil)) aNil)))
      (sSet 2 (e2 gAdd (e2 gAdd (eSl3 (eVar 2) (eO none) (eO (some (eVar 6)))) (eP (lDis (aCons (eVar 7) aNil)))) (eSl3 (eVar 2) (eO (some (eVar 6))) (eO none)))))
      (sIf (t2 gLt (eVar 5) (eC (.int 5)))
      (sSeq (sSet 8 (eIfD (t2 gEq (eVar 5) (eC (.int 3))) (eMeth (f_Heights_learn c) "learn" c.Heights (eVar 3) (aArgs 2 0 [0, 1] (aCons (eVar 6) (aCons (eVar 7) aNil)) aNil)) (eMeth (f_Heights_learn c) "learn" c.Heights (eVar 3) (aKw 2 [1, 0] (aCons (eVar 7) (aCons (eVar 6) aNil))))))
      (sSet 2 (e2 gAdd (e2 gAdd (eSl3 (eVar 2) (eO none) (eO (some (eVar 6)))) (eP (lDis (aCons (eVar 7) aNil)))) (eSl3 (eVar 2) (eO (some (e2 gAdd (eVar 6) (eC (.int 1))))) (eO none)))))
      (sSeq (sSet 8 (eMeth (f_Heights_remove c) "remove" c.Heights (eVar 3) (aArgs 1 0 [0] (aCons (eVar 6) aNil) aNil)))
      (sSet 2 (e2 gAdd (eSl3 (eVar 2) (eO none) (eO (some (eVar 6)))) (eSl3 (eVar 2) (eO (some (e2 gAdd (eVar 6) (eC (.int 1))))) (eO none)))))))
      (sIf (tOrD (t2 gNotN (eVar 8) (eC .none)) (tNotD (tV (eCall (f__law_looks_right c) (aArgs 4 0 [0, 1, 2, 3] (aCons (eVar 0) (aCons (eVar 3) (aCons (eVar 1) (aCons (eVar 2) aNil)))) aNil)))))
      (sRet (eC (.bool false)))
      sPass))))
def n__law_right (c : CA) : S → Out := (sSeq (sPar2 1 2 (aCons (e2 gAdd (eC (.int 1)) (eCall (f__law_draw c) (aArgs 2 0 [0, 1] (aCons (eVar 0) (aCons (eC (.int 40)) aNil)) aNil))) (aCons (eP (lDis aNil)) aNil)))
      (sSeq (sTrim (sSet 3 (eIfD (t2 gEq (eCall (f__law_draw c) (aArgs 2 0 [0, 1] (aCons (eVar 0) (aCons (eC (.int 2)) aNil)) aNil)) (eC (.int 0))) (eMake c.Heights (f_Heights___init__ c) (aArgs 1 0 [0] (aCons (eVar 1) aNil) aNil)) (eMake c.Heights (f_Heights___init__ c) (aKw 1 [0] (aCons (eVar 1) aNil))))))
      (sSeq (sFor (itR1 (aCons (e2 gIx (eP (lDis (aCons (eC (.int 8)) (aCons (eC (.int 30)) (aCons (eC (.int 70)) aNil))))) (eCall (f__law_draw c) (aArgs 2 0 [0, 1] (aCons (eVar 0) (aCons (eC (.int 3)) aNil)) aNil))) aNil)) (gdName 4) (n__law_right_b1 c))
      (sSeq (sSet 9 (eCall (f__law_tree_told c 20) (aArgs 2 0 [0, 1] (aCons (eVar 1) (aCons (eMeth (f_Heights_tree c) "tree" c.Heights (eVar 3) (aKw 0 [] aNil)) aNil)) aNil)))
      (sSeq (sIf (tOrD (t2 gIsN (eVar 9) (eC .none)) (tOrD (t2 gNe (eCall (f__law_tree_rows c 20) (aArgs 1 0 [0] (aCons (eMeth (f_Heights_tree c) "tree" c.Heights (eVar 3) (aKw 0 [] aNil)) aNil) aNil)) (eVar 2)) (t2 gNotB (eCall (f_tree_right c) (aArgs 2 0 [0, 1] (aCons (eVar 1) (aCons (eMeth (f_Heights_tree c) "tree" c.Heights (eVar 3) (aKw 0 [] aNil)) aNil)) aNil)) (eC (.bool true)))))
      (sRet (eC (.bool false)))
      sPass)
      (sRet (eCall (f__law_same c 6) (aArgs 2 0 [0, 1] (aCons (eCall (f_heights_in c) (aArgs 1 0 [0] (aCons (eMeth (f_Heights_tree c) "tree" c.Heights (eVar 3) (aKw 0 [] aNil)) aNil) aNil)) (aCons (eVar 2) aNil)) aNil))))))))
def f__law_right (c : CA) : FD := runF 10 (n__law_right c)
abbrev s__law_deck : Stmt := topS 28
theorem sc__law_deck : FnScope ["script", "k", "cell", "mixed", "at"] ["script", "k"] (defScope s__law_deck) := ⟨rfl, rfl, rfl, by decide +kernel, rfl, by decide +kernel, by decide +kernel⟩
def n__law_deck_b1 (c : CA) : S → Out := (sSet 3 (e2 gMod (eCl gInt (aCons (e2 gAdd (e2 gAdd (e2 gMulX (eVar 3) (eC (.int 8191))) (e2 gMod (eCl gInt (aCons (e2 gIx (eVar 0) (eVar 4)) aNil)) (e2 gAdd (e2 gPow (eC (.int 10)) (eC (.int 23))) (eC (.int 117))))) (e2 gMulX (eC (.int 3)) (eVar 4))) aNil)) (e2 gAdd (e2 gPow (eC (.int 10)) (eC (.int 29))) (eC (.int 319)))))
def n__law_deck (c : CA) : S → Out := (sSeq (sPar2 2 3 (aCons (e2 gAdd (e2 gMulX (eC (.int 17)) (eVar 1)) (eC (.int 3))) (aCons (e2 gAdd (eC (.int 7)) (eVar 1)) aNil)))
      (sSeq (sIf (t2 gLt (eVar 1) (eCl gLen (aCons (eVar 0) aNil)))
      (sSet 2 (e2 gIx (eVar 0) (eVar 1)))
      sPass)
      (sSeq (sFor (itR1 (aCons (eCl gLen (aCons (eVar 0) aNil)) aNil)) (gdName 4) (n__law_deck_b1 c))
      (sRet (eTmp (lDis (aCons (eCl gMax2 (aCons (eC (.int 0)) (aCons (e2 gSub (eVar 2) (e2 gPow (eC (.int 10)) (eC (.int 18)))) aNil))) (aCons (e2 gAdd (e2 gMulX (eVar 3) (eC (.int 5))) (e2 gMod (eCl gInt (aCons (eCl gAbs (aCons (eVar 2) aNil)) aNil)) (e2 gAdd (e2 gPow (eC (.int 10)) (eC (.int 21))) (eC (.int 9))))) (aCons (eC (.int 0)) aNil)))))))))
def f__law_deck (c : CA) : FD := runO 5 (n__law_deck c)
abbrev s_law : Stmt := topS 40
theorem sc_law : FnScope ["script", "k"] ["script"] (defScope s_law) := ⟨rfl, rfl, rfl, by decide +kernel, rfl, by decide +kernel, by decide +kernel⟩
def n_law_b1 (c : CA) : S → Out := (sTrim (sIf (tNotD (tV (eCall (f__law_right c) (aArgs 1 0 [0] (aCons (eCall (f__law_deck c) (aArgs 2 0 [0, 1] (aCons (eVar 0) (aCons (eVar 1) aNil)) aNil)) aNil) aNil))))
      (sRet (eC (.bool false)))
      sPass))
def n_law (c : CA) : S → Out := (sSeq (sFor (itR1 (aCons (eCl gMax2 (aCons (eC (.int 1)) (aCons (eCl gMin2 (aCons (eC (.int 2)) (aCons (eCl gLen (aCons (eVar 0) aNil)) aNil))) aNil))) aNil)) (gdName 1) (n_law_b1 c))
      (sRet (eC (.bool true))))
def f_law (c : CA) : FD := runF 2 (n_law c)
end
end K45
namespace K45
open PySem PySem.Spec PyProof.Rows L2 Lw
/-! ### heights and trees in plain Lean -/
abbrev Ht := Option Int
def hD : Ht → PyData
  | none => .none
  | some i => .int i
def cnt (g : Int) : Ht → Int
  | none => g
  | some i => i
inductive Tr where
  | e
  | n (l : Tr) (h : Ht) (r : Tr)
def Tr.rows : Tr → Int
  | .e => 0
  | .n l _ r => l.rows + 1 + r.rows
def Tr.total (g : Int) : Tr → Int
  | .e => 0
  | .n l h r => l.total g + cnt g h + r.total g
def Tr.depth : Tr → Int
  | .e => 0
  | .n l _ r => 1 + (if r.depth > l.depth then r.depth else l.depth)
def Tr.D (g : Int) : Tr → PyData
  | .e => .none
  | .n l h r => .tuple [l.D g, hD h, r.D g, .int (Tr.n l h r).rows, .int ((Tr.n l h r).total g), .int (Tr.n l h r).depth]
def Tr.L : Tr → List Ht
  | .e => []
  | .n l h r => l.L ++ h :: r.L
variable (c : CA) (g : Int) (st : List MO)
@[simp] theorem hD_non (h : Ht) : isNon (.pu (hD h)) = h.isNone := by cases h <;> rfl
@[simp] theorem tD_non (t : Tr) : isNon (.pu (t.D g)) = (match t with | .e => true | _ => false) := by cases t <;> rfl
theorem counted_eq (h : Ht) : f_counted c [.pu (hD h), .pu (.int g)] st = .ok (.pu (.int (cnt g h))) st := by
  cases h <;> simp [f_counted, n_counted, hD, cnt]
theorem rows_eq (t : Tr) : f_rows_of c [.pu (t.D g)] st = .ok (.pu (.int t.rows)) st := by
  cases t <;> simp [f_rows_of, n_rows_of, Tr.D, Tr.rows]
theorem total_eq (t : Tr) : f_total_of c [.pu (t.D g)] st = .ok (.pu (.int (t.total g))) st := by
  cases t <;> simp [f_total_of, n_total_of, Tr.D, Tr.total]
theorem depth_eq (t : Tr) : f_depth_of c [.pu (t.D g)] st = .ok (.pu (.int t.depth)) st := by
  cases t <;> simp [f_depth_of, n_depth_of, Tr.D, Tr.depth]
theorem joined_eq (l r : Tr) (h : Ht) : f_joined c [.pu (l.D g), .pu (hD h), .pu (r.D g), .pu (.int g)] st = .ok (.pu ((Tr.n l h r).D g)) st := by
  simp [f_joined, n_joined, rows_eq, total_eq, depth_eq, counted_eq, perm, Tr.D, Tr.rows, Tr.total, Tr.depth]
@[simp] theorem cut3 (a b c d e f : PyData) : cutD [a, b, c, d, e, f] none (some 3) = [a, b, c] := rfl
theorem dRaw (l r : Tr) (h : Ht) : (Tr.n l h r).D g = .tuple [l.D g, hD h, r.D g, .int (Tr.n l h r).rows, .int ((Tr.n l h r).total g), .int (Tr.n l h r).depth] := rfl
theorem sl_node (l r : Tr) (h : Ht) : gSl3 st (.pu ((Tr.n l h r).D g)) none (some 3) = some (.tuple [l.D g, hD h, r.D g]) := rfl
theorem ix_node0 (l r : Tr) (h : Ht) : gIx st (.pu ((Tr.n l h r).D g)) (.pu (.int 0)) = some (l.D g) := rfl
theorem ix_node1 (l r : Tr) (h : Ht) : gIx st (.pu ((Tr.n l h r).D g)) (.pu (.int 1)) = some (hD h) := rfl
theorem ix_node2 (l r : Tr) (h : Ht) : gIx st (.pu ((Tr.n l h r).D g)) (.pu (.int 2)) = some (r.D g) := rfl
theorem tup3 (a b d : PyData) (gs : List SV → S → Option S) (s : S) : gdTup 3 gs (.pu (.tuple [a, b, d])) s = gs [.pu a, .pu b, .pu d] s := rfl
def bal (l : Tr) (h : Ht) (r : Tr) : Tr :=
  if l.depth > r.depth + 1 then (match l with
    | .e => .e
    | .n a o b => if a.depth ≥ b.depth then .n a o (.n b h r) else (match b with
      | .e => .e
      | .n x m y => .n (.n a o x) m (.n y h r)))
  else if r.depth > l.depth + 1 then (match r with
    | .e => .e
    | .n a o b => if b.depth ≥ a.depth then .n (.n l h a) o b else (match a with
      | .e => .e
      | .n x m y => .n (.n l h x) m (.n y o b)))
  else .n l h r
theorem depth_nn : ∀ t : Tr, 0 ≤ t.depth
  | .e => Int.le_refl _
  | .n l _ r => by
    have h1 := depth_nn l; have h2 := depth_nn r
    unfold Tr.depth
    split <;> omega
theorem balanced_eq (l r : Tr) (h : Ht) : f_balanced c [.pu (l.D g), .pu (hD h), .pu (r.D g), .pu (.int g)] st = .ok (.pu ((bal l h r).D g)) st := by
  have nl := depth_nn l
  have nr := depth_nn r
  have de : Tr.e.depth = 0 := rfl
  unfold bal
  by_cases c1 : l.depth > r.depth + 1
  · rw [if_pos c1]
    cases l with
    | e => exfalso; omega
    | n a o b =>
      have na := depth_nn a
      by_cases c2 : a.depth ≥ b.depth
      · simp [f_balanced, n_balanced, depth_eq, perm, gt_iff_lt.mp c1, ge_iff_le.mp c2, joined_eq, sl_node, tup3]
      · cases b with
        | e => exfalso; omega
        | n x m y =>
          simp [f_balanced, n_balanced, depth_eq, perm, gt_iff_lt.mp c1, c2, joined_eq, sl_node, tup3]
  · rw [if_neg c1]
    by_cases c3 : r.depth > l.depth + 1
    · rw [if_pos c3]
      have c1' : ¬ (r.depth + 1 < l.depth) := c1
      cases r with
      | e => exfalso; omega
      | n a o b =>
        have nb := depth_nn b
        by_cases c2 : b.depth ≥ a.depth
        · simp [f_balanced, n_balanced, depth_eq, perm, c1', gt_iff_lt.mp c3, ge_iff_le.mp c2, joined_eq, sl_node, tup3]
        · cases a with
          | e => exfalso; omega
          | n x m y =>
            simp [f_balanced, n_balanced, depth_eq, perm, c1', gt_iff_lt.mp c3, c2, joined_eq, sl_node, tup3]
    · have c1' : ¬ (r.depth + 1 < l.depth) := c1
      have c3' : ¬ (l.depth + 1 < r.depth) := c3
      rw [if_neg c3]
      simp [f_balanced, n_balanced, depth_eq, perm, c1', c3', joined_eq]
def Tr.ins (i : Int) (h : Ht) : Tr → Tr
  | .e => .n .e h .e
  | .n l o r => if i ≤ l.rows then bal (l.ins i h) o r else bal l o (r.ins (i - l.rows - 1) h)
def Tr.put (i : Int) (h : Ht) : Tr → Tr
  | .e => .e
  | .n l o r => if i < l.rows then .n (l.put i h) o r else if i > l.rows then .n l o (r.put (i - l.rows - 1) h) else .n l h r
def Tr.at (i : Int) : Tr → Ht
  | .e => none
  | .n l o r => if i < l.rows then l.at i else if i = l.rows then o else r.at (i - l.rows - 1)
def Tr.del (i : Int) : Tr → Tr
  | .e => .e
  | .n l o r => if i < l.rows then bal (l.del i) o r else if i > l.rows then bal l o (r.del (i - l.rows - 1)) else (match r with
    | .e => l
    | .n a b d => bal l ((Tr.n a b d).at 0) ((Tr.n a b d).del 0))
def Tr.off (g : Int) (i : Int) : Tr → Int
  | .e => 0
  | .n l o r => if i ≤ l.rows then l.off g i else l.total g + cnt g o + r.off g (i - l.rows - 1)
def Tr.cov (g : Int) (x : Int) : Tr → Int
  | .e => 0
  | .n l o r => if x < l.total g then l.cov g x else if x < l.total g + cnt g o then l.rows else l.rows + 1 + r.cov g (x - (l.total g + cnt g o))
theorem rows_nn : ∀ t : Tr, 0 ≤ t.rows
  | .e => Int.le_refl _
  | .n l _ r => by have := rows_nn l; have := rows_nn r; unfold Tr.rows; omega
theorem fuel_l {l r : Tr} {h : Ht} {n : Nat} (H : (Tr.n l h r).depth < (n + 1 : Nat)) : l.depth < n ∧ r.depth < n := by
  unfold Tr.depth at H
  have := depth_nn l; have := depth_nn r
  split at H <;> omega
theorem with_row_eq (h : Ht) : ∀ (n : Nat) (t : Tr) (i : Int) (st : List MO), t.depth < n → f_with_row c n [.pu (t.D g), .pu (.int i), .pu (hD h), .pu (.int g)] st = .ok (.pu ((t.ins i h).D g)) st
  | 0, t, _, _, H => by have := depth_nn t; omega
  | n + 1, .e, i, st, _ => by
    have := joined_eq c g (st ++ List.replicate 7 MO.gone) .e .e h
    simp only [Tr.D] at this
    simp [f_with_row, n_with_row, perm, Tr.D, Tr.ins]
    simp [List.replicate] at this
    simp [this, Tr.D]
  | n + 1, .n l o r, i, st, H => by
    have ⟨H1, H2⟩ := fuel_l H
    have ih1 := fun st => with_row_eq h n l i st H1
    have ih2 := fun j st => with_row_eq h n r j st H2
    by_cases c1 : i ≤ l.rows
    · simp [f_with_row, n_with_row, perm, Tr.ins, c1, sl_node, tup3, rows_eq, ih1, balanced_eq]
    · simp [f_with_row, n_with_row, perm, Tr.ins, c1, sl_node, tup3, rows_eq, ih2, balanced_eq]
theorem with_height_eq (h : Ht) : ∀ (n : Nat) (t : Tr) (i : Int) (st : List MO), t.depth < n → 0 ≤ i → i < t.rows → f_with_height c n [.pu (t.D g), .pu (.int i), .pu (hD h), .pu (.int g)] st = .ok (.pu ((t.put i h).D g)) st
  | 0, t, _, _, H, _, _ => by have := depth_nn t; omega
  | n + 1, .e, i, st, _, h0, h1 => by have : Tr.e.rows = 0 := rfl; omega
  | n + 1, .n l o r, i, st, H, h0, h1 => by
    have ⟨H1, H2⟩ := fuel_l H
    have er : (Tr.n l o r).rows = l.rows + 1 + r.rows := rfl
    by_cases c1 : i < l.rows
    · have ih1 := fun st => with_height_eq h n l i st H1 h0 c1
      simp [f_with_height, n_with_height, perm, Tr.put, c1, sl_node, tup3, rows_eq, ih1, joined_eq]
    · by_cases c2 : i > l.rows
      · have ih2 := fun st => with_height_eq h n r (i - l.rows - 1) st H2 (by omega) (by omega)
        simp [f_with_height, n_with_height, perm, Tr.put, c1, gt_iff_lt.mp c2, sl_node, tup3, rows_eq, ih2, joined_eq]
      · have c2' : ¬ l.rows < i := c2
        simp [f_with_height, n_with_height, perm, Tr.put, c1, c2', sl_node, tup3, rows_eq, joined_eq]
theorem height_at_eq : ∀ (n : Nat) (t : Tr) (i : Int) (st : List MO), t.depth < n → 0 ≤ i → i < t.rows → f_height_at c n [.pu (t.D g), .pu (.int i)] st = .ok (.pu (hD (t.at i))) st
  | 0, t, _, _, H, _, _ => by have := depth_nn t; omega
  | n + 1, .e, i, st, _, h0, h1 => by have : Tr.e.rows = 0 := rfl; omega
  | n + 1, .n l o r, i, st, H, h0, h1 => by
    have ⟨H1, H2⟩ := fuel_l H
    have er : (Tr.n l o r).rows = l.rows + 1 + r.rows := rfl
    by_cases c1 : i < l.rows
    · have ih1 := fun st => height_at_eq n l i st H1 h0 c1
      simp [f_height_at, n_height_at, perm, Tr.at, c1, ix_node0, ix_node1, ix_node2, rows_eq, ih1]
    · by_cases c2 : i = l.rows
      · subst c2
        simp [f_height_at, n_height_at, perm, Tr.at, c1, ix_node0, ix_node1, ix_node2, rows_eq]
      · have ih2 := fun st => height_at_eq n r (i - l.rows - 1) st H2 (by omega) (by omega)
        simp [f_height_at, n_height_at, perm, Tr.at, c1, c2, ix_node0, ix_node1, ix_node2, rows_eq, ih2]
theorem del_lt {i : Int} {l r : Tr} {o : Ht} (h : i < l.rows) : (Tr.n l o r).del i = bal (l.del i) o r := by cases r <;> simp [Tr.del, h]
theorem del_gt {i : Int} {l r : Tr} {o : Ht} (h : ¬ i < l.rows) (h' : l.rows < i) : (Tr.n l o r).del i = bal l o (r.del (i - l.rows - 1)) := by cases r <;> simp [Tr.del, h, h']
theorem del_e {i : Int} {l : Tr} {o : Ht} (h : ¬ i < l.rows) (h' : ¬ l.rows < i) : (Tr.n l o .e).del i = l := by simp [Tr.del, h, h']
theorem del_n {i : Int} {l a d : Tr} {o b : Ht} (h : ¬ i < l.rows) (h' : ¬ l.rows < i) : (Tr.n l o (.n a b d)).del i = bal l ((Tr.n a b d).at 0) ((Tr.n a b d).del 0) := by rw [Tr.del]; rw [if_neg h, if_neg h']
theorem without_row_eq : ∀ (n : Nat) (t : Tr) (i : Int) (st : List MO), t.depth < n → 0 ≤ i → i < t.rows → t.depth ≤ 20 → f_without_row c n [.pu (t.D g), .pu (.int i), .pu (.int g)] st = .ok (.pu ((t.del i).D g)) st
  | 0, t, _, _, H, _, _, _ => by have := depth_nn t; omega
  | n + 1, .e, i, st, _, h0, h1, _ => by have : Tr.e.rows = 0 := rfl; omega
  | n + 1, .n l o r, i, st, H, h0, h1, h2 => by
    have ⟨H1, H2⟩ := fuel_l H
    have ⟨H3, H4⟩ := fuel_l (n := 20) (show (Tr.n l o r).depth < ((20 + 1 : Nat) : Int) by omega)
    have er : (Tr.n l o r).rows = l.rows + 1 + r.rows := rfl
    by_cases c1 : i < l.rows
    · have ih1 := fun st => without_row_eq n l i st H1 h0 c1 (by omega)
      simp [f_without_row, n_without_row, perm, del_lt c1, c1, sl_node, tup3, rows_eq, ih1, balanced_eq]
    · by_cases c2 : i > l.rows
      · have ih2 := fun st => without_row_eq n r (i - l.rows - 1) st H2 (by omega) (by omega) (by omega)
        simp [f_without_row, n_without_row, perm, del_gt c1 c2, c1, gt_iff_lt.mp c2, sl_node, tup3, rows_eq, ih2, balanced_eq]
      · have c2' : ¬ l.rows < i := c2
        cases r with
        | e => simp [f_without_row, n_without_row, perm, del_e c1 c2', c1, c2', sl_node, tup3, rows_eq]
        | n a b d =>
          have n1 := rows_nn a
          have n2 := rows_nn d
          have er2 : (Tr.n a b d).rows = a.rows + 1 + d.rows := rfl
          have ih2 := fun st => without_row_eq n (.n a b d) 0 st H2 (by omega) (by omega) (by omega)
          have ha := fun st => height_at_eq c g 20 (.n a b d) 0 st H4 (by omega) (by omega)
          simp [f_without_row, n_without_row, perm, del_n c1 c2', c1, c2', sl_node, tup3, rows_eq, ih2, ha, balanced_eq]
theorem offset_of_eq : ∀ (n : Nat) (t : Tr) (i : Int) (st : List MO), t.depth < n → f_offset_of c n [.pu (t.D g), .pu (.int i), .pu (.int g)] st = .ok (.pu (.int (t.off g i))) st
  | 0, t, _, _, H => by have := depth_nn t; omega
  | n + 1, .e, i, st, _ => by simp [f_offset_of, n_offset_of, Tr.D, Tr.off]
  | n + 1, .n l o r, i, st, H => by
    have ⟨H1, H2⟩ := fuel_l H
    by_cases c1 : i ≤ l.rows
    · have ih1 := fun st => offset_of_eq n l i st H1
      simp [f_offset_of, n_offset_of, perm, Tr.off, c1, sl_node, tup3, rows_eq, ih1]
    · have ih2 := fun st => offset_of_eq n r (i - l.rows - 1) st H2
      simp [f_offset_of, n_offset_of, perm, Tr.off, c1, sl_node, tup3, rows_eq, total_eq, counted_eq, ih2]
theorem covering_eq : ∀ (n : Nat) (t : Tr) (i : Int) (st : List MO), t.depth < n → 0 ≤ i → i < t.total g → f_covering c n [.pu (t.D g), .pu (.int i), .pu (.int g)] st = .ok (.pu (.int (t.cov g i))) st
  | 0, t, _, _, H, _, _ => by have := depth_nn t; omega
  | n + 1, .e, i, st, _, h0, h1 => by have : Tr.e.total g = 0 := rfl; omega
  | n + 1, .n l o r, i, st, H, h0, h1 => by
    have ⟨H1, H2⟩ := fuel_l H
    have et : (Tr.n l o r).total g = l.total g + cnt g o + r.total g := rfl
    by_cases c1 : i < l.total g
    · have ih1 := fun st => covering_eq n l i st H1 h0 c1
      simp [f_covering, n_covering, perm, Tr.cov, c1, sl_node, tup3, rows_eq, total_eq, ih1]
    · by_cases c2 : i < l.total g + cnt g o
      · simp [f_covering, n_covering, perm, Tr.cov, c1, c2, sl_node, tup3, rows_eq, total_eq, counted_eq]
      · have ih2 := fun st => covering_eq n r (i - (l.total g + cnt g o)) st H2 (by omega) (by omega)
        simp [f_covering, n_covering, perm, Tr.cov, c1, c2, sl_node, tup3, rows_eq, total_eq, counted_eq, ih2]
def Tr.P (g : Int) : Tr → PyData
  | .e => .none
  | .n l h r => .tuple [l.P g, hD h, r.P g, .int (Tr.n l h r).rows, .int ((Tr.n l h r).total g)]
theorem tup6 (a b d e f h : PyData) (gs : List SV → S → Option S) (s : S) : gdTup 6 gs (.pu (.tuple [a, b, d, e, f, h])) s = gs [.pu a, .pu b, .pu d, .pu e, .pu f, .pu h] s := rfl
theorem tup5 (a b d e f : PyData) (gs : List SV → S → Option S) (s : S) : gdTup 5 gs (.pu (.tuple [a, b, d, e, f])) s = gs [.pu a, .pu b, .pu d, .pu e, .pu f] s := rfl
theorem plain_tree_eq : ∀ (n : Nat) (t : Tr) (st : List MO), t.depth < n → f_plain_tree c n [.pu (t.D g)] st = .ok (.pu (t.P g)) st
  | 0, t, _, H => by have := depth_nn t; omega
  | n + 1, .e, st, _ => by simp [f_plain_tree, n_plain_tree, Tr.D, Tr.P]
  | n + 1, .n l o r, st, H => by
    have ⟨H1, H2⟩ := fuel_l H
    have ih1 := fun st => plain_tree_eq n l st H1
    have ih2 := fun st => plain_tree_eq n r st H2
    simp [f_plain_tree, n_plain_tree, perm, dRaw, tup6, ih1, ih2, Tr.P]
theorem lenL : ∀ t : Tr, (t.L.length : Int) = t.rows
  | .e => rfl
  | .n l _ r => by
    have := lenL l; have := lenL r
    unfold Tr.L Tr.rows
    rw [List.length_append, List.length_cons]; omega
theorem heights_of_eq : ∀ (n : Nat) (t : Tr) (st : List MO), t.depth < n → t.rows ≤ 1000 → f_heights_of c n [.pu (t.D g)] st = .ok (.pu (.list (t.L.map hD))) st
  | 0, t, _, H, _ => by have := depth_nn t; omega
  | n + 1, .e, st, _, _ => by simp [f_heights_of, n_heights_of, Tr.D, Tr.L]
  | n + 1, .n l o r, st, H, h1 => by
    have ⟨H1, H2⟩ := fuel_l H
    have n1 := rows_nn l
    have n2 := rows_nn r
    have er : (Tr.n l o r).rows = l.rows + 1 + r.rows := rfl
    have ll := lenL l
    have lr := lenL r
    have ih1 := fun st => heights_of_eq n l st H1 (by omega)
    have ih2 := fun st => heights_of_eq n r st H2 (by omega)
    have a1 : ∀ st, gAdd st (.pu (.list (l.L.map hD))) (.pu (.list [hD o])) = some (.list (l.L.map hD ++ [hD o])) := fun st => gAdd_lst st (by simp; omega)
    have a2 : ∀ st, gAdd st (.pu (.list (l.L.map hD ++ [hD o]))) (.pu (.list (r.L.map hD))) = some (.list (l.L.map hD ++ [hD o] ++ r.L.map hD)) := fun st => gAdd_lst st (by simp; omega)
    simp [f_heights_of, n_heights_of, perm, ix_node0, ix_node1, ix_node2, ih1, ih2, a1]
    rw [show l.L.map hD ++ [hD o] = l.L.map hD ++ [hD o] from rfl, a2]
    simp [Tr.L]

/-! ### trees that are right -/
def Avl : Tr → Prop
  | .e => True
  | .n l _ r => Avl l ∧ Avl r ∧ l.depth ≤ r.depth + 1 ∧ r.depth ≤ l.depth + 1
theorem dn (l r : Tr) (h : Ht) : (Tr.n l h r).depth = 1 + max r.depth l.depth := by
  show 1 + (if r.depth > l.depth then r.depth else l.depth) = _
  split <;> omega
/-- what balanced keeps -/
theorem bal_ok {l r : Tr} {h : Ht} (hl : Avl l) (hr : Avl r) (h1 : l.depth ≤ r.depth + 2) (h2 : r.depth ≤ l.depth + 2) :
    Avl (bal l h r) ∧ (bal l h r).L = l.L ++ h :: r.L ∧ (bal l h r).depth ≤ 1 + max r.depth l.depth ∧ max r.depth l.depth ≤ (bal l h r).depth ∧ (l.depth ≤ r.depth + 1 → r.depth ≤ l.depth + 1 → (bal l h r).depth = 1 + max r.depth l.depth) := by
  have nl := depth_nn l
  have nr := depth_nn r
  have de : Tr.e.depth = 0 := rfl
  unfold bal
  by_cases c1 : l.depth > r.depth + 1
  · rw [if_pos c1]
    cases l with
    | e => exfalso; omega
    | n a o b =>
      obtain ⟨a1, a2, a3, a4⟩ := hl
      have na := depth_nn a
      have nb := depth_nn b
      have d1 := dn a b o
      by_cases c2 : a.depth ≥ b.depth
      · simp only [if_pos c2]
        have d2 := dn b r h
        have d3 := dn a (.n b h r) o
        refine ⟨⟨a1, ⟨a2, hr, by omega, by omega⟩, by omega, by omega⟩, by simp [Tr.L], by omega, by omega, by omega⟩
      · simp only [if_neg c2]
        cases b with
        | e => exfalso; omega
        | n x m y =>
          obtain ⟨b1, b2, b3, b4⟩ := a2
          have nx := depth_nn x
          have ny := depth_nn y
          have d2 := dn x y m
          have d3 := dn a x o
          have d4 := dn y r h
          have d5 := dn (.n a o x) (.n y h r) m
          dsimp only
          refine ⟨⟨⟨a1, b1, by omega, by omega⟩, ⟨b2, hr, by omega, by omega⟩, by omega, by omega⟩, by simp [Tr.L], by omega, by omega, by omega⟩
  · rw [if_neg c1]
    by_cases c3 : r.depth > l.depth + 1
    · rw [if_pos c3]
      cases r with
      | e => exfalso; omega
      | n a o b =>
        obtain ⟨a1, a2, a3, a4⟩ := hr
        have na := depth_nn a
        have nb := depth_nn b
        have d1 := dn a b o
        by_cases c2 : b.depth ≥ a.depth
        · simp only [if_pos c2]
          have d2 := dn l a h
          have d3 := dn (.n l h a) b o
          refine ⟨⟨⟨hl, a1, by omega, by omega⟩, a2, by omega, by omega⟩, by simp [Tr.L], by omega, by omega, by omega⟩
        · simp only [if_neg c2]
          cases a with
          | e => exfalso; omega
          | n x m y =>
            obtain ⟨b1, b2, b3, b4⟩ := a1
            have nx := depth_nn x
            have ny := depth_nn y
            have d2 := dn x y m
            have d3 := dn l x h
            have d4 := dn y b o
            have d5 := dn (.n l h x) (.n y o b) m
            dsimp only
            refine ⟨⟨⟨hl, b1, by omega, by omega⟩, ⟨b2, a2, by omega, by omega⟩, by omega, by omega⟩, by simp [Tr.L], by omega, by omega, by omega⟩
    · rw [if_neg c3]
      have d1 := dn l r h
      exact ⟨⟨hl, hr, by omega, by omega⟩, rfl, by omega, by omega, fun _ _ => d1⟩
theorem take_L {l : Tr} {i : Int} (o : Ht) (xs : List Ht) (h0 : 0 ≤ i) (h : i ≤ l.rows) : (l.L ++ o :: xs).take i.toNat = l.L.take i.toNat ∧ (l.L ++ o :: xs).drop i.toNat = l.L.drop i.toNat ++ o :: xs := by
  have := lenL l
  constructor
  · rw [List.take_append_of_le_length (by omega)]
  · rw [List.drop_append_of_le_length (by omega)]
theorem take_R {l : Tr} {i : Int} (o : Ht) (xs : List Ht) (h : l.rows < i) : (l.L ++ o :: xs).take i.toNat = l.L ++ o :: xs.take (i - l.rows - 1).toNat ∧ (l.L ++ o :: xs).drop i.toNat = xs.drop (i - l.rows - 1).toNat := by
  have := lenL l
  have e : i.toNat = l.L.length + (1 + (i - l.rows - 1).toNat) := by omega
  rw [e]
  constructor
  · rw [List.take_append, List.take_of_length_le (by omega), show l.L.length + (1 + (i - l.rows - 1).toNat) - l.L.length = (i - l.rows - 1).toNat + 1 by omega]; rfl
  · rw [List.drop_append, List.drop_of_length_le (by omega), show l.L.length + (1 + (i - l.rows - 1).toNat) - l.L.length = (i - l.rows - 1).toNat + 1 by omega]; rfl
theorem ins_ok (h : Ht) : ∀ (t : Tr) (i : Int), Avl t → 0 ≤ i → i ≤ t.rows → Avl (t.ins i h) ∧ (t.ins i h).L = t.L.take i.toNat ++ h :: t.L.drop i.toNat ∧ t.depth ≤ (t.ins i h).depth ∧ (t.ins i h).depth ≤ t.depth + 1
  | .e, i, _, _, _ => by
    have : (Tr.n .e h .e).depth = 1 := rfl
    have d0 : Tr.e.depth = 0 := rfl
    simp [Tr.ins, Tr.L, Avl]; omega
  | .n l o r, i, ⟨a1, a2, a3, a4⟩, h0, h1 => by
    have er : (Tr.n l o r).rows = l.rows + 1 + r.rows := rfl
    have d1 := dn l r o
    have eL : (Tr.n l o r).L = l.L ++ o :: r.L := rfl
    unfold Tr.ins
    by_cases c : i ≤ l.rows
    · rw [if_pos c]
      obtain ⟨b1, b2, b3, b4⟩ := ins_ok h l i a1 h0 c
      obtain ⟨c1, c2, c3, c4, c5⟩ := bal_ok (h := o) b1 a2 (by omega) (by omega)
      obtain ⟨e1, e2⟩ := take_L o r.L h0 c
      refine ⟨c1, ?_, by omega, by omega⟩
      rw [c2, b2, eL, e1, e2]; simp
    · rw [if_neg c]
      obtain ⟨b1, b2, b3, b4⟩ := ins_ok h r (i - l.rows - 1) a2 (by omega) (by omega)
      obtain ⟨c1, c2, c3, c4, c5⟩ := bal_ok (h := o) a1 b1 (by omega) (by omega)
      obtain ⟨e1, e2⟩ := take_R (l := l) o r.L (show l.rows < i by omega)
      refine ⟨c1, ?_, by omega, by omega⟩
      rw [c2, b2, eL, e1, e2]; simp
theorem put_ok (h : Ht) : ∀ (t : Tr) (i : Int), Avl t → 0 ≤ i → i < t.rows → Avl (t.put i h) ∧ (t.put i h).L = t.L.take i.toNat ++ h :: t.L.drop (i + 1).toNat ∧ (t.put i h).depth = t.depth
  | .e, i, _, h0, h1 => by have : Tr.e.rows = 0 := rfl; omega
  | .n l o r, i, ⟨a1, a2, a3, a4⟩, h0, h1 => by
    have er : (Tr.n l o r).rows = l.rows + 1 + r.rows := rfl
    have d1 := dn l r o
    have eL : (Tr.n l o r).L = l.L ++ o :: r.L := rfl
    have ll := lenL l
    unfold Tr.put
    by_cases c : i < l.rows
    · rw [if_pos c]
      obtain ⟨b1, b2, b3⟩ := put_ok h l i a1 h0 c
      have d2 := dn (l.put i h) r o
      obtain ⟨e1, _⟩ := take_L o r.L h0 (show i ≤ l.rows by omega)
      obtain ⟨_, e2⟩ := take_L o r.L (show 0 ≤ i + 1 by omega) (show i + 1 ≤ l.rows by omega)
      refine ⟨⟨b1, a2, by omega, by omega⟩, ?_, by omega⟩
      show (l.put i h).L ++ o :: r.L = _
      rw [b2, eL, e1, e2]; simp
    · rw [if_neg c]
      by_cases c2 : i > l.rows
      · rw [if_pos c2]
        obtain ⟨b1, b2, b3⟩ := put_ok h r (i - l.rows - 1) a2 (by omega) (by omega)
        have d2 := dn l (r.put (i - l.rows - 1) h) o
        obtain ⟨e1, _⟩ := take_R (l := l) o r.L (show l.rows < i by omega)
        obtain ⟨_, e2⟩ := take_R (l := l) o r.L (show l.rows < i + 1 by omega)
        refine ⟨⟨a1, b1, by omega, by omega⟩, ?_, by omega⟩
        show l.L ++ o :: (r.put (i - l.rows - 1) h).L = _
        rw [b2, eL, e1, e2, show i + 1 - l.rows - 1 = i - l.rows - 1 + 1 by omega]; simp
      · rw [if_neg c2]
        have ei : i = l.rows := by omega
        subst ei
        have d2 := dn l r h
        obtain ⟨e1, _⟩ := take_L (l := l) o r.L h0 (Int.le_refl _)
        obtain ⟨_, e2⟩ := take_R (l := l) o r.L (show l.rows < l.rows + 1 by omega)
        refine ⟨⟨a1, a2, a3, a4⟩, ?_, by omega⟩
        show l.L ++ h :: r.L = _
        rw [eL, e1, e2, show l.rows + 1 - l.rows - 1 = 0 by omega]
        simp; rw [List.take_of_length_le (by omega)]
theorem at_ok : ∀ (t : Tr) (i : Int), 0 ≤ i → i < t.rows → t.L[i.toNat]? = some (t.at i)
  | .e, i, h0, h1 => by have : Tr.e.rows = 0 := rfl; omega
  | .n l o r, i, h0, h1 => by
    have er : (Tr.n l o r).rows = l.rows + 1 + r.rows := rfl
    have ll := lenL l
    show (l.L ++ o :: r.L)[i.toNat]? = _
    unfold Tr.at
    by_cases c : i < l.rows
    · rw [if_pos c, List.getElem?_append_left (by omega)]
      exact at_ok l i h0 c
    · rw [if_neg c, List.getElem?_append_right (by omega)]
      by_cases c2 : i = l.rows
      · rw [if_pos c2, show i.toNat - l.L.length = 0 by omega]; rfl
      · rw [if_neg c2, show i.toNat - l.L.length = (i - l.rows - 1).toNat + 1 by omega]
        exact at_ok r (i - l.rows - 1) (by omega) (by omega)
theorem del_ok : ∀ (t : Tr) (i : Int), Avl t → 0 ≤ i → i < t.rows → Avl (t.del i) ∧ (t.del i).L = t.L.take i.toNat ++ t.L.drop (i + 1).toNat ∧ (t.del i).depth ≤ t.depth ∧ t.depth ≤ (t.del i).depth + 1
  | .e, i, _, h0, h1 => by have : Tr.e.rows = 0 := rfl; omega
  | .n l o r, i, ⟨a1, a2, a3, a4⟩, h0, h1 => by
    have er : (Tr.n l o r).rows = l.rows + 1 + r.rows := rfl
    have d1 := dn l r o
    have eL : (Tr.n l o r).L = l.L ++ o :: r.L := rfl
    have ll := lenL l
    by_cases c : i < l.rows
    · rw [del_lt c]
      obtain ⟨b1, b2, b3, b4⟩ := del_ok l i a1 h0 c
      obtain ⟨c1, c2, c3, c4, c5⟩ := bal_ok (h := o) b1 a2 (by omega) (by omega)
      obtain ⟨e1, _⟩ := take_L o r.L h0 (show i ≤ l.rows by omega)
      obtain ⟨_, e2⟩ := take_L o r.L (show 0 ≤ i + 1 by omega) (show i + 1 ≤ l.rows by omega)
      refine ⟨c1, ?_, by omega, by omega⟩
      rw [c2, b2, eL, e1, e2]; simp
    · by_cases c' : l.rows < i
      · rw [del_gt c c']
        obtain ⟨b1, b2, b3, b4⟩ := del_ok r (i - l.rows - 1) a2 (by omega) (by omega)
        obtain ⟨c1, c2, c3, c4, c5⟩ := bal_ok (h := o) a1 b1 (by omega) (by omega)
        obtain ⟨e1, _⟩ := take_R (l := l) o r.L (show l.rows < i by omega)
        obtain ⟨_, e2⟩ := take_R (l := l) o r.L (show l.rows < i + 1 by omega)
        refine ⟨c1, ?_, by omega, by omega⟩
        rw [c2, b2, eL, e1, e2, show i + 1 - l.rows - 1 = i - l.rows - 1 + 1 by omega]; simp
      · have ei : i = l.rows := by omega
        subst ei
        have nl := depth_nn l
        have d0 : Tr.e.depth = 0 := rfl
        obtain ⟨e1, _⟩ := take_L (l := l) o r.L h0 (Int.le_refl _)
        obtain ⟨_, e2⟩ := take_R (l := l) o r.L (show l.rows < l.rows + 1 by omega)
        rw [eL, e1, e2, show l.rows + 1 - l.rows - 1 = 0 by omega, List.take_of_length_le (by omega)]
        cases r with
        | e =>
          rw [del_e c c']
          exact ⟨a1, by simp [Tr.L], by omega, by omega⟩
        | n a b d =>
          rw [del_n c c']
          have n1 := rows_nn a
          have n2 := rows_nn d
          have er2 : (Tr.n a b d).rows = a.rows + 1 + d.rows := rfl
          obtain ⟨b1, b2, b3, b4⟩ := del_ok (.n a b d) 0 a2 (by omega) (by omega)
          have b5 := at_ok (.n a b d) 0 (by omega) (by omega)
          obtain ⟨c1, c2, c3, c4, c5⟩ := bal_ok (h := (Tr.n a b d).at 0) a1 b1 (by omega) (by omega)
          refine ⟨c1, ?_, by omega, by omega⟩
          rw [c2, b2]
          generalize (Tr.n a b d).L = z at b5 ⊢
          cases z with
          | nil => cases b5
          | cons y ys => cases b5; rfl
def sumC (g : Int) : List Ht → Int
  | [] => 0
  | h :: r => cnt g h + sumC g r
theorem sumC_app (g : Int) : ∀ xs ys : List Ht, sumC g (xs ++ ys) = sumC g xs + sumC g ys
  | [], ys => by simp [sumC]
  | x :: xs, ys => by simp [sumC, sumC_app g xs ys]; omega
theorem total_L (g : Int) : ∀ t : Tr, t.total g = sumC g t.L
  | .e => rfl
  | .n l h r => by rw [Tr.L, sumC_app, Tr.total, sumC, total_L g l, total_L g r]; omega
theorem off_L (g : Int) : ∀ (t : Tr) (i : Int), 0 ≤ i → i ≤ t.rows → t.off g i = sumC g (t.L.take i.toNat)
  | .e, i, _, _ => by simp [Tr.off, Tr.L, sumC]
  | .n l o r, i, h0, h1 => by
    have er : (Tr.n l o r).rows = l.rows + 1 + r.rows := rfl
    show _ = sumC g ((l.L ++ o :: r.L).take i.toNat)
    unfold Tr.off
    by_cases c : i ≤ l.rows
    · rw [if_pos c, (take_L o r.L h0 c).1]
      exact off_L g l i h0 c
    · rw [if_neg c, (take_R (l := l) o r.L (show l.rows < i by omega)).1, sumC_app, sumC, total_L, off_L g r (i - l.rows - 1) (by omega) (by omega)]; omega
theorem cov_L (g : Int) : ∀ (t : Tr) (x : Int), 0 ≤ x → x < t.total g → 0 ≤ t.cov g x ∧ t.cov g x < t.rows ∧ sumC g (t.L.take (t.cov g x).toNat) ≤ x ∧ x < sumC g (t.L.take (t.cov g x + 1).toNat)
  | .e, x, h0, h1 => by have : Tr.e.total g = 0 := rfl; omega
  | .n l o r, x, h0, h1 => by
    have er : (Tr.n l o r).rows = l.rows + 1 + r.rows := rfl
    have et : (Tr.n l o r).total g = l.total g + cnt g o + r.total g := rfl
    have nl := rows_nn l
    have nr := rows_nn r
    have ll := lenL l
    have tl := total_L g l
    have eL : (Tr.n l o r).L = l.L ++ o :: r.L := rfl
    rw [eL]
    unfold Tr.cov
    by_cases c : x < l.total g
    · rw [if_pos c]
      obtain ⟨a1, a2, a3, a4⟩ := cov_L g l x h0 c
      rw [(take_L o r.L a1 (by omega)).1, (take_L o r.L (show 0 ≤ l.cov g x + 1 by omega) (by omega)).1]
      exact ⟨a1, by omega, a3, a4⟩
    · rw [if_neg c]
      by_cases c2 : x < l.total g + cnt g o
      · rw [if_pos c2, (take_L o r.L nl (Int.le_refl _)).1, (take_R (l := l) o r.L (show l.rows < l.rows + 1 by omega)).1, List.take_of_length_le (by omega), sumC_app, sumC, show (l.rows + 1 - l.rows - 1).toNat = 0 by omega]
        refine ⟨nl, by omega, by omega, ?_⟩
        simp [sumC]; omega
      · rw [if_neg c2]
        obtain ⟨a1, a2, a3, a4⟩ := cov_L g r (x - (l.total g + cnt g o)) (by omega) (by omega)
        rw [(take_R (l := l) o r.L (show l.rows < l.rows + 1 + r.cov g (x - (l.total g + cnt g o)) by omega)).1, (take_R (l := l) o r.L (show l.rows < l.rows + 1 + r.cov g (x - (l.total g + cnt g o)) + 1 by omega)).1,
          show l.rows + 1 + r.cov g (x - (l.total g + cnt g o)) - l.rows - 1 = r.cov g (x - (l.total g + cnt g o)) by omega, show l.rows + 1 + r.cov g (x - (l.total g + cnt g o)) + 1 - l.rows - 1 = r.cov g (x - (l.total g + cnt g o)) + 1 by omega, sumC_app, sumC_app, sumC, sumC]
        exact ⟨by omega, by omega, by omega, by omega⟩
/-- a right tree is shallow -/
theorem avl_pow : ∀ (k : Nat) (t : Tr), Avl t → 2 * (k : Int) ≤ t.depth → (2 : Int) ^ k ≤ t.rows + 1
  | 0, t, _, _ => by have := rows_nn t; simp; omega
  | k + 1, .e, _, h => by have : Tr.e.depth = 0 := rfl; omega
  | k + 1, .n l o r, ⟨a1, a2, a3, a4⟩, h => by
    have d := dn l r o
    have h1 := avl_pow k l a1 (by omega)
    have h2 := avl_pow k r a2 (by omega)
    have er : (Tr.n l o r).rows = l.rows + 1 + r.rows := rfl
    rw [Int.pow_succ]; omega
theorem avl_depth {t : Tr} (h : Avl t) (k : t.rows ≤ 100) : t.depth < 14 := by
  by_cases c : t.depth < 14
  · exact c
  · have := avl_pow 7 t h (by omega)
    have : (2 : Int) ^ 7 = 128 := rfl
    omega
end K45
namespace K45
open PySem PySem.Spec PyProof.Rows L2 Lw
variable (c : CA) (g : Int) (st : List MO)
/-! ### Heights -/
def fs4 (a b d e : PyData) : List (Str × FV) := [("guess", .pu a), ("root", .pu b), ("known_ones", .pu d), ("many", .pu e)]
section
variable (a b d e x : PyData)
@[simp] theorem fs_g : (fs4 a b d e).lookup ("guess" : Str) = some (.pu a) := rfl
@[simp] theorem fs_r : (fs4 a b d e).lookup ("root" : Str) = some (.pu b) := rfl
@[simp] theorem fs_k : (fs4 a b d e).lookup ("known_ones" : Str) = some (.pu d) := rfl
@[simp] theorem fs_m : (fs4 a b d e).lookup ("many" : Str) = some (.pu e) := rfl
@[simp] theorem fs_n1 : (fs4 a b d e).lookup ("need_index" : Str) = none := rfl
@[simp] theorem fs_n2 : (fs4 a b d e).lookup ("insert" : Str) = none := rfl
@[simp] theorem fs_n3 : (fs4 a b d e).lookup ("learn" : Str) = none := rfl
@[simp] theorem fs_n4 : (fs4 a b d e).lookup ("remove" : Str) = none := rfl
@[simp] theorem fs_n5 : (fs4 a b d e).lookup ("height" : Str) = none := rfl
@[simp] theorem fs_n6 : (fs4 a b d e).lookup ("offset" : Str) = none := rfl
@[simp] theorem fs_n7 : (fs4 a b d e).lookup ("row_at" : Str) = none := rfl
@[simp] theorem fs_n8 : (fs4 a b d e).lookup ("total" : Str) = none := rfl
@[simp] theorem fs_n9 : (fs4 a b d e).lookup ("known" : Str) = none := rfl
@[simp] theorem fs_n10 : (fs4 a b d e).lookup ("tree" : Str) = none := rfl
@[simp] theorem fs_n11 : (fs4 a b d e).lookup ("all_heights" : Str) = none := rfl
@[simp] theorem fs_len : (fs4 a b d e).length = 4 := rfl
@[simp] theorem fs_pg : putFD "guess" (.pu x) (fs4 a b d e) = fs4 x b d e := rfl
@[simp] theorem fs_pr : putFD "root" (.pu x) (fs4 a b d e) = fs4 a x d e := rfl
@[simp] theorem fs_pk : putFD "known_ones" (.pu x) (fs4 a b d e) = fs4 a b x e := rfl
@[simp] theorem fs_pm : putFD "many" (.pu x) (fs4 a b d e) = fs4 a b d x := rfl
def fs1 (a : PyData) : List (Str × FV) := [("guess", .pu a)]
def fs2 (a b : PyData) : List (Str × FV) := [("guess", .pu a), ("root", .pu b)]
def fs3 (a b d : PyData) : List (Str × FV) := [("guess", .pu a), ("root", .pu b), ("known_ones", .pu d)]
@[simp] theorem fs_1 : putFD "guess" (.pu x) [] = fs1 x := rfl
@[simp] theorem fs_2 : putFD "root" (.pu x) (fs1 a) = fs2 a x := rfl
@[simp] theorem fs_3 : putFD "known_ones" (.pu x) (fs2 a b) = fs3 a b x := rfl
@[simp] theorem fs_4 : putFD "many" (.pu x) (fs3 a b d) = fs4 a b d x := rfl
@[simp] theorem fs_q1 : (fs1 a).lookup ("root" : Str) = none := rfl
@[simp] theorem fs_q2 : (fs2 a b).lookup ("known_ones" : Str) = none := rfl
@[simp] theorem fs_q3 : (fs3 a b d).lookup ("many" : Str) = none := rfl
@[simp] theorem fs_l1 : (fs1 a).length = 1 := rfl
@[simp] theorem fs_l2 : (fs2 a b).length = 2 := rfl
@[simp] theorem fs_l3 : (fs3 a b d).length = 3 := rfl
@[simp] theorem isPuF_no : isPuF none = true := rfl
@[simp] theorem isPuF_pu : isPuF (some (.pu x)) = true := rfl
end
def hO (t : Tr) (k m : Int) : MO := .ins c.Heights (fs4 (.int g) (t.D g) (.int k) (.int m))
theorem need_index_eq {i m : Int} (j : Nat) (h0 : 0 ≤ i) (h1 : i < m) : f_Heights_need_index c [.rf j, .pu (.int i), .pu (.int m)] st = .ok (.pu .none) st := by
  simp [f_Heights_need_index, n_Heights_need_index, h0, h1]
theorem need_height_eq {h : Ht} (hh : ∀ x, h = some x → 0 ≤ x) : f_need_height c [.pu (hD h)] st = .ok (.pu .none) st := by
  cases h with
  | none => simp [f_need_height, n_need_height, hD]
  | some x =>
    have := hh x rfl
    have n : ¬ x < 0 := by omega
    simp [f_need_height, n_need_height, hD, n]
theorem need_guess_eq (hg : 1 ≤ g) : f_need_guess c [.pu (.int g)] st = .ok (.pu .none) st := by
  have n : ¬ g < 1 := by omega
  simp [f_need_guess, n_need_guess, n]
variable {c g st} {t : Tr} {k m : Int} {j : Nat} (hj : st[j]? = some (hO c g t k m))
include hj
theorem total_m : f_Heights_total c [.rf j] st = .ok (.pu (.int (t.total g))) st := by
  have i1 := insAt_of (at_app hj [.gone])
  simp [f_Heights_total, n_Heights_total, i1, perm, total_eq]
theorem known_m : f_Heights_known c [.rf j] st = .ok (.pu (.int k)) st := by
  have i1 := insAt_of (at_app hj [.gone])
  simp [f_Heights_known, n_Heights_known, i1]
theorem tree_m (hd : t.depth < 20) : f_Heights_tree c [.rf j] st = .ok (.pu (t.P g)) st := by
  have i1 := insAt_of (at_app hj [.gone])
  have e := fun st => plain_tree_eq c g 20 t st hd
  simp [f_Heights_tree, n_Heights_tree, i1, perm, e]
theorem all_heights_m (hd : t.depth < 20) (hr : t.rows ≤ 1000) : f_Heights_all_heights c [.rf j] st = .ok (.pu (.list (t.L.map hD))) st := by
  have i1 := insAt_of (at_app hj [.gone])
  have e := fun st => heights_of_eq c g 20 t st hd hr
  simp [f_Heights_all_heights, n_Heights_all_heights, i1, perm, e]
theorem len_m (hd : t.depth < 20) (hr : t.rows ≤ 1000) : f_Heights___len__ c [.rf j] st = .ok (.pu (.int t.rows)) st := by
  have i1 := insAt_of (at_app hj [.gone])
  have e := all_heights_m (at_app hj [.gone]) hd hr
  simp [f_Heights___len__, n_Heights___len__, i1, perm, e, lenL]
theorem height_m {i : Int} (hd : t.depth < 20) (h0 : 0 ≤ i) (h1 : i < m) (hm : m = t.rows) : f_Heights_height c [.rf j, .pu (.int i)] st = .ok (.pu (hD (t.at i))) st := by
  have i1 := insAt_of (at_app hj [.gone, .gone])
  have e1 := fun st => need_index_eq (c := c) (st := st) j h0 h1
  have e2 := fun st => height_at_eq c g 20 t i st hd h0 (by omega)
  simp [f_Heights_height, n_Heights_height, i1, perm, e1, e2]
theorem offset_m {i : Int} (hd : t.depth < 20) (h0 : 0 ≤ i) (h1 : i ≤ m) : f_Heights_offset c [.rf j, .pu (.int i)] st = .ok (.pu (.int (t.off g i))) st := by
  have i1 := insAt_of (at_app hj [.gone, .gone])
  have e1 := fun st => need_index_eq (c := c) (st := st) (m := m + 1) j h0 (by omega)
  have e2 := fun st => offset_of_eq c g 20 t i st hd
  simp [f_Heights_offset, n_Heights_offset, i1, perm, e1, e2]
theorem row_at_m (x : Int) (hd : t.depth < 20) : f_Heights_row_at c [.rf j, .pu (.int x)] st = .ok (.pu (if 0 ≤ x ∧ x < t.total g then .int (t.cov g x) else .none)) st := by
  have i1 := insAt_of (at_app hj [.gone, .gone])
  have e1 := total_m (at_app hj [.gone, .gone])
  by_cases c1 : 0 ≤ x
  · by_cases c2 : x < t.total g
    · have e2 := fun st => covering_eq c g 20 t x st hd c1 c2
      simp [f_Heights_row_at, n_Heights_row_at, i1, perm, e1, e2, c1, c2]
    · simp [f_Heights_row_at, n_Heights_row_at, i1, perm, e1, c1, c2]
  · simp [f_Heights_row_at, n_Heights_row_at, i1, perm, e1, c1]
def hN (h : Ht) : Int := if h.isSome then 1 else 0
theorem insert_m {i : Int} {h : Ht} (hd : t.depth < 20) (h0 : 0 ≤ i) (h1 : i ≤ m) (hh : ∀ x, h = some x → 0 ≤ x) : f_Heights_insert c [.rf j, .pu (.int i), .pu (hD h)] st = .ok (.pu .none) (st.set j (hO c g (t.ins i h) (k + hN h) (m + 1))) := by
  have lt := at_lt hj
  have i1 := insAt_of (at_app hj [.gone, .gone, .gone])
  have e1 := fun st => need_index_eq (c := c) (st := st) (m := m + 1) j h0 (by omega)
  have e2 := fun st => need_height_eq (c := c) (st := st) hh
  have e3 := fun st => with_row_eq c g h 20 t i st hd
  simp [f_Heights_insert, n_Heights_insert, i1, perm, e1, e2, e3, set_app, insAt_set, lt]
  cases h <;> rfl
theorem learn_m {i : Int} {h : Ht} (hd : t.depth < 20) (h0 : 0 ≤ i) (h1 : i < m) (hm : m = t.rows) (hh : ∀ x, h = some x → 0 ≤ x) : f_Heights_learn c [.rf j, .pu (.int i), .pu (hD h)] st = .ok (.pu .none) (st.set j (hO c g (t.put i h) (k + (hN h - hN (t.at i))) m)) := by
  have lt := at_lt hj
  have i0 := at_app hj [.gone, .gone, .gone]
  have i1 := insAt_of i0
  have e1 := fun st => need_index_eq (c := c) (st := st) (m := m) j h0 (by omega)
  have e2 := fun st => need_height_eq (c := c) (st := st) hh
  have e3 := fun st => with_height_eq c g h 20 t i st hd h0 (by omega)
  have e4 := height_m i0 hd h0 h1 hm
  simp [f_Heights_learn, n_Heights_learn, i1, perm, e1, e2, e3, e4, set_app, insAt_set, lt]
  cases h <;> cases t.at i <;> rfl
theorem remove_m {i : Int} (hd : t.depth < 20) (h0 : 0 ≤ i) (h1 : i < m) (hm : m = t.rows) : f_Heights_remove c [.rf j, .pu (.int i)] st = .ok (.pu .none) (st.set j (hO c g (t.del i) (k - hN (t.at i)) (m - 1))) := by
  have lt := at_lt hj
  have i0 := at_app hj [.gone, .gone]
  have i1 := insAt_of i0
  have e1 := fun st => need_index_eq (c := c) (st := st) (m := m) j h0 (by omega)
  have e3 := fun st => without_row_eq c g 20 t i st hd h0 (by omega) (by omega)
  have e4 := height_m i0 hd h0 h1 hm
  simp [f_Heights_remove, n_Heights_remove, i1, perm, e1, e3, e4, set_app, insAt_set, lt]
  cases t.at i <;> rfl
omit hj in
theorem init_m (hg : 1 ≤ g) (hj : st[j]? = some (.ins c.Heights [])) : f_Heights___init__ c [.rf j, .pu (.int g)] st = .ok (.pu .none) (st.set j (hO c g .e 0 0)) := by
  have lt := at_lt hj
  have i1 := insAt_of (at_app hj [.gone, .gone])
  have e1 := fun st => need_guess_eq (c := c) (st := st) g hg
  simp [f_Heights___init__, n_Heights___init__, i1, perm, e1, set_app, insAt_set, lt]
  rfl
end K45
namespace K45
open PySem PySem.Spec PyProof.Rows L2 Lw
variable {c : CA} {st : List MO} {j : Nat}
/-! ### the deck -/
def dO (a b n : Int) : MO := .lst [.int a, .int b, .int n]
def Dk (B : Int) (o : MO) : Prop := ∃ a b n : Int, o = dO a b n ∧ 0 ≤ b ∧ b < 2 ^ 110 ∧ 0 ≤ n ∧ n ≤ B
theorem draw_ok {B m : Int} {o : MO} (hj : st[j]? = some o) (hk : Dk B o) (hB : B < 2 ^ 40) (h0 : 0 < m) (h1 : m < 1073741824) :
    ∃ (r : Int) (o' : MO), f__law_draw c [.rf j, .pu (.int m)] st = .ok (.pu (.int r)) (st.set j o') ∧ 0 ≤ r ∧ r < m ∧ Dk (B + 1) o' := by
  obtain ⟨a, b, n, rfl, b0, b1, n0, n1⟩ := hk
  have lt := at_lt hj
  have i1 := fun k => gIx_rf (at_app hj [.gone, .gone, .gone, .gone]) k
  have i2 := lstAt_of (at_app hj [.gone, .gone, .gone, .gone])
  have m1 := fun st i => gMod_int st (i := i) h0
  have m2 := fun st i => gFdiv_int st (i := i) ⟨h0, h1⟩
  by_cases c1 : 0 < a
  · refine ⟨a % m, dO (a / m) b n, ?_, Int.emod_nonneg _ (by omega), Int.emod_lt_of_pos _ h0, _, _, _, rfl, b0, b1, n0, by omega⟩
    simp [f__law_draw, n__law_draw, i1, i2, c1, m1, m2, set_app, lt]
    rfl
  · have x1 : ∀ st, gMulX st (.pu (.int 7368787)) (.pu (.int (n + 1))) = some (.int (7368787 * (n + 1))) := fun st => gMulX_int st (.inl (.inl (by decide)))
    have x2 : ∀ st, gMulX st (.pu (.int 131)) (.pu (.int (n + 1))) = some (.int (131 * (n + 1))) := fun st => gMulX_int st (.inl (.inl (by decide)))
    have p1 : ∀ st, gPow st (.pu (.int (b + 7368787 * (n + 1)))) (.pu (.int 2)) = some (.int ((b + 7368787 * (n + 1)) ^ 2)) := fun st => gPow_int st ⟨by decide, by decide, bigI (a := 200) (by omega) (by omega) (by decide)⟩
    have p2 : ∀ st, gPow st (.pu (.int 10)) (.pu (.int 27)) = some (.int (10 ^ 27)) := fun st => gPow_int st ⟨by decide, by decide, big (a := 4) (by decide) (by decide)⟩
    have p3 : ∀ st, gPow st (.pu (.int 10)) (.pu (.int 28)) = some (.int (10 ^ 28)) := fun st => gPow_int st ⟨by decide, by decide, big (a := 4) (by decide) (by decide)⟩
    have m3 := fun st i => gMod_int st (i := i) (j := 1000000000000000000000000103) (by decide)
    have m4 := fun st i => gMod_int st (i := i) (j := 10000000000000000000000000331) (by decide)
    have m5 := fun st i => gFdiv_int st (i := i) (j := 6007) (by decide)
    generalize ey : ((b + 7368787 * (n + 1)) ^ 2 + 131 * (n + 1)) % 1000000000000000000000000103 = y at *
    have y0 : 0 ≤ y := by rw [← ey]; exact Int.emod_nonneg _ (by decide)
    have y1 : y < 1000000000000000000000000103 := by rw [← ey]; exact Int.emod_lt_of_pos _ (by decide)
    have x3 : ∀ st, gMulX st (.pu (.int y)) (.pu (.int y)) = some (.int (y * y)) := fun st => gMulX_int st (.inr ⟨bigI (a := 200) y0 (by omega) (by decide), bigI (a := 200) y0 (by omega) (by decide)⟩)
    refine ⟨(y * y + b + 11) % 10000000000000000000000000331 / 6007 % m, dO a b (n + 1), ?_, Int.emod_nonneg _ (by omega), Int.emod_lt_of_pos _ h0, _, _, _, rfl, b0, b1, by omega, by omega⟩
    simp [f__law_draw, n__law_draw, i1, i2, c1, m1, m2, set_app, lt, dO, gIx_set, x1, x2, p1, p2, p3, m3, m4, m5, ey, x3]
end K45
namespace K45
open PySem PySem.Spec PyProof.Rows L2 Lw
variable {c : CA} {st : List MO} {j : Nat} {g : Int}
def NN (hs : List Ht) : Prop := ∀ h ∈ hs, ∀ x, h = some x → 0 ≤ x
theorem height_ok {B : Int} {o : MO} (hj : st[j]? = some o) (hk : Dk B o) (hB : B < 2 ^ 39) :
    ∃ (h : Ht) (o' : MO), f__law_height c [.rf j] st = .ok (.pu (hD h)) (st.set j o') ∧ (∀ x, h = some x → 0 ≤ x) ∧ Dk (B + 3) o' := by
  have lt := at_lt hj
  obtain ⟨r1, o1, e1, a1, b1, k1⟩ := draw_ok (c := c) (m := 5) (at_app hj [.gone]) hk (by omega) (by decide) (by decide)
  have lt1 : j < (st.set j o1).length := by simpa using lt
  obtain ⟨r2, o2, e2, a2, b2, k2⟩ := draw_ok (c := c) (m := 60) (at_app (set_at lt (o := o1)) [.gone]) k1 (by omega) (by decide) (by decide)
  obtain ⟨r3, o3, e3, a3, b3, k3⟩ := draw_ok (c := c) (m := 7) (at_app (set_at lt (o := o2)) [.gone]) k2 (by omega) (by decide) (by decide)
  have p1 : ∀ st, gPow st (.pu (.int 10)) (.pu (.int 6)) = some (.int (10 ^ 6)) := fun st => gPow_int st ⟨by decide, by decide, big (a := 4) (by decide) (by decide)⟩
  have x6 : ∀ (a b d e f h i : PyData), atI [a, b, d, e, f, h, i] 6 = some i := fun _ _ _ _ _ _ _ => rfl
  have all : ∀ h : Ht, (∀ x, h = some x → 0 ≤ x) → (atI [PyData.none, .int 0, .int 1, .int r1, .int r2, .int 1000000, .none] r3 = some (hD h)) → ∃ (h : Ht) (o' : MO), f__law_height c [.rf j] st = .ok (.pu (hD h)) (st.set j o') ∧ (∀ x, h = some x → 0 ≤ x) ∧ Dk (B + 3) o' := by
    intro h hh e
    refine ⟨h, o3, ?_, hh, by rw [show B + 3 = B + 1 + 1 + 1 by omega]; exact k3⟩
    simp [f__law_height, n__law_height, perm, e1, e2, e3, set_app, lt, p1, e]
  have : r3 = 0 ∨ r3 = 1 ∨ r3 = 2 ∨ r3 = 3 ∨ r3 = 4 ∨ r3 = 5 ∨ r3 = 6 := by omega
  rcases this with rfl | rfl | rfl | rfl | rfl | rfl | rfl
  · exact all none (by simp) (by simp [hD])
  · exact all (some 0) (by simp) (by simp [hD])
  · exact all (some 1) (by simp) (by simp [hD])
  · exact all (some r1) (by simpa using a1) (by simp [hD])
  · exact all (some r2) (by simpa using a2) (by simp [hD])
  · exact all (some 1000000) (by simp) (by simp [hD])
  · exact all none (by simp) (by simp [hD, x6])
theorem lcounted_eq (h : Ht) (st : List MO) : f__law_counted c [.pu (hD h), .pu (.int g)] st = .ok (.pu (.int (cnt g h))) st := by
  cases h <;> simp [f__law_counted, n__law_counted, hD, cnt]
theorem sum_C (hs : List Ht) : (hs.map (cnt g)).sum = sumC g hs := by
  induction hs with
  | nil => rfl
  | cons h r ih => rw [List.map_cons, List.sum_cons, ih]; rfl
def hCnt (g : Int) : SV → PyData
  | .pu .none => .int g
  | .pu d => d
  | _ => .none
theorem hCnt_ap (h : Ht) : hCnt g (.pu (hD h)) = .int (cnt g h) := by cases h <;> rfl
theorem map_hCnt (hs : List Ht) : ((hs.map hD).map SV.pu).map (hCnt g) = (hs.map (cnt g)).map PyData.int := by
  rw [List.map_map, List.map_map, List.map_map]
  exact List.map_congr_left fun h _ => hCnt_ap h
theorem before_eq (hs : List Ht) {i : Int} (h0 : 0 ≤ i) (hl : hs.length ≤ 16777216) (st : List MO) : f__law_before c [.pu (.list (hs.map hD)), .pu (.int g), .pu (.int i)] st = .ok (.pu (.int (sumC g (hs.take i.toNat)))) st := by
  obtain ⟨n, rfl⟩ := Int.eq_ofNat_of_zero_le h0
  have cut : cutD (hs.map hD) none (some (n : Int)) = (hs.take n).map hD := by rw [cutD_to, List.map_take]
  have key : ∀ (q : Option SV) (st : List MO) (b : Nat), n__law_before_l1 c ⟨[some (.pu (.list (hs.map hD))), some (.pu (.int g)), some (.pu (.int (n : Nat))), q], st, b⟩ = .ok (((hs.take n).map (cnt g)).map PyData.int) ⟨[some (.pu (.list (hs.map hD))), some (.pu (.int g)), some (.pu (.int (n : Nat))), q], st, b⟩ := by
    intro q st b
    unfold n__law_before_l1
    rw [lLc_map (xs := ((hs.take n).map hD).map SV.pu) (fun _ => true) (hCnt g) (by simp [cut]) (by simp; omega)]
    · rw [List.filter_eq_self.mpr (fun _ _ => rfl), map_hCnt]
    · intro x hx
      obtain ⟨d, hd, rfl⟩ := List.mem_map.mp hx
      obtain ⟨h, _, rfl⟩ := List.mem_map.mp hd
      refine ⟨_, _, rfl, rfl, fun _ => ⟨[some (.pu (.list (hs.map hD))), some (.pu (.int g)), some (.pu (.int (n : Nat))), some (.pu (hD h))], ?_⟩⟩
      simp [wipeS, perm, lcounted_eq, hCnt_ap]
  have sm : ∀ st, gSum st [.pu (.list (((hs.take n).map (cnt g)).map PyData.int))] = some (.int (sumC g (hs.take n))) := fun st => by rw [gSum_ints, sum_C]
  simp [f__law_before, n__law_before, key, sm, -List.map_map, -List.map_take]
theorem sumC_nn {hs : List Ht} (hn : NN hs) (hg : 1 ≤ g) : 0 ≤ sumC g hs := by
  induction hs with
  | nil => exact Int.le_refl _
  | cons h r ih =>
    have h1 := ih fun x hx => hn x (List.mem_cons_of_mem _ hx)
    have h2 : 0 ≤ cnt g h := by
      cases h with
      | none => show 0 ≤ g; omega
      | some x => exact hn _ List.mem_cons_self x rfl
    show 0 ≤ cnt g h + sumC g r
    omega
theorem NN.sub {hs gs : List Ht} (h : NN hs) (k : ∀ x ∈ gs, x ∈ hs) : NN gs := fun x hx => h x (k x hx)
theorem sumC_mono {hs : List Ht} (hn : NN hs) (hg : 1 ≤ g) {i k : Nat} (h : i ≤ k) : sumC g (hs.take i) ≤ sumC g (hs.take k) := by
  have e : hs.take k = hs.take i ++ (hs.take k).drop i := by
    have := List.take_append_drop i (hs.take k)
    rw [List.take_take, Nat.min_eq_left h] at this
    exact this.symm
  rw [e, sumC_app]
  have := sumC_nn (g := g) (hs := (hs.take k).drop i) (hn.sub fun x hx => List.mem_of_mem_take (List.mem_of_mem_drop hx)) hg
  omega
theorem sumC_succ {hs : List Ht} {i : Nat} {h : Ht} (e : hs[i]? = some h) : sumC g (hs.take (i + 1)) = sumC g (hs.take i) + cnt g h := by
  rw [List.take_succ, e, sumC_app]
  show _ + (cnt g h + 0) = _
  omega
end K45
namespace K45
open PySem PySem.Spec PyProof.Rows L2 Lw
variable {c : CA} {st : List MO} {j : Nat} {g : Int}
/-- what the law's own search finds -/
def covR (g : Int) (t : Tr) (x : Int) : PyData := if 0 ≤ x ∧ x < t.total g then .int (t.cov g x) else .none
theorem lcovering_eq {t : Tr} (hn : NN t.L) (hg : 1 ≤ g) (hl : t.L.length ≤ 1000) (x : Int) (st : List MO) : f__law_covering c [.pu (.list (t.L.map hD)), .pu (.int g), .pu (.int x)] st = .ok (.pu (covR g t x)) st := by
  have tl := total_L g t
  have ll := lenL t
  let I : S → Prop := fun s => ∃ q3 q4, s = ⟨[some (.pu (.list (t.L.map hD))), some (.pu (.int g)), some (.pu (.int x)), q3, q4], st ++ [.gone, .gone, .gone, .gone, .gone], st.length⟩
  -- one turn
  have turn : ∀ (i : Nat) (s : S), i < t.L.length → I s → ∃ s1 q, gdName 3 (.pu (.int (i : Nat))) s = some s1 ∧ I q ∧ n__law_covering_b1 c s1 = (if sumC g (t.L.take i) ≤ x ∧ x < sumC g (t.L.take (i + 1)) then Out.rt (.pu (.int (i : Nat))) q else .nx q) := by
    intro i s hi ⟨q3, q4, hs⟩
    subst hs
    have eh : t.L[i]? = some t.L[i] := List.getElem?_eq_getElem hi
    have e1 : atI (t.L.map hD) (i : Int) = some (hD t.L[i]) := by rw [atI_cast, List.getElem?_map, eh]; rfl
    have e2 := sumC_succ (g := g) eh
    have b1 := fun st => before_eq (c := c) (g := g) t.L (i := (i : Int)) (by omega) (by omega) st
    rw [show ((i : Int)).toNat = i by omega] at b1
    refine ⟨_, ⟨[some (.pu (.list (t.L.map hD))), some (.pu (.int g)), some (.pu (.int x)), some (.pu (.int i)), some (.pu (.int (sumC g (t.L.take i))))], st ++ [.gone, .gone, .gone, .gone, .gone], st.length⟩, rfl, ⟨_, _, rfl⟩, ?_⟩
    by_cases c1 : sumC g (t.L.take i) ≤ x
    · by_cases c2 : x < sumC g (t.L.take (i + 1))
      · have c2' := c2
        rw [e2] at c2'
        simp [n__law_covering_b1, perm, b1, c1, c2, e1, lcounted_eq, c2']
      · have c2' := c2
        rw [e2] at c2'
        simp [n__law_covering_b1, perm, b1, c1, c2, e1, lcounted_eq, c2']
    · simp [n__law_covering_b1, perm, b1, c1, e1, lcounted_eq]
  have xs_at : ∀ (i : Nat) (y : SV), (rangeL 0 (t.L.length : Nat))[i]? = some y → y = .pu (.int (i : Nat)) ∧ i < t.L.length := by
    intro i y h
    obtain ⟨h1, h2⟩ := rangeL_at h
    exact ⟨by rw [h1]; simp, by omega⟩
  have i0 : I ⟨[some (.pu (.list (t.L.map hD))), some (.pu (.int g)), some (.pu (.int x)), none, none], st ++ [.gone, .gone, .gone, .gone, .gone], st.length⟩ := ⟨none, none, rfl⟩
  by_cases hx : 0 ≤ x ∧ x < t.total g
  · obtain ⟨a1, a2, a3, a4⟩ := cov_L g t x hx.1 hx.2
    obtain ⟨n, hn'⟩ := Int.eq_ofNat_of_zero_le a1
    have ln : n < t.L.length := by omega
    rw [hn'] at a3 a4
    rw [show ((n : Nat) : Int).toNat = n by omega] at a3
    rw [show (((n : Nat) : Int) + 1).toNat = n + 1 by omega] at a4
    have at_n : (rangeL 0 (t.L.length : Nat))[n]? = some (.pu (.int (n : Nat))) := by
      unfold rangeL
      rw [List.getElem?_map, List.getElem?_range (by omega)]
      simp
    obtain ⟨s', e3, q3, q4, rfl⟩ := forD_ret (g := gdName 3) (b := n__law_covering_b1 c) I _ n _ _ at_n i0 (fun i y s hi hy hs => by
      obtain ⟨rfl, hi2⟩ := xs_at i y hy
      obtain ⟨s1, q, h1, h2, h3⟩ := turn i s hi2 hs
      refine ⟨s1, q, h1, ?_, h2⟩
      rw [h3, if_neg]
      intro ⟨_, z⟩
      have := sumC_mono (g := g) hn hg (show i + 1 ≤ n by omega)
      omega) (J := I) (v := .pu (.int (n : Nat))) (fun s hs => by
      obtain ⟨s1, q, h1, h2, h3⟩ := turn n s ln hs
      exact ⟨s1, q, h1, by rw [h3, if_pos ⟨a3, a4⟩], h2⟩)
    have e4 : sFor (itR1 (aCons (eCl gLen (aCons (eVar 0) aNil)) aNil)) (gdName 3) (n__law_covering_b1 c) ⟨[some (.pu (.list (t.L.map hD))), some (.pu (.int g)), some (.pu (.int x)), none, none], st ++ [.gone, .gone, .gone, .gone, .gone], st.length⟩ = .rt (.pu (.int (n : Nat))) ⟨[some (.pu (.list (t.L.map hD))), some (.pu (.int g)), some (.pu (.int x)), q3, q4], st ++ [.gone, .gone, .gone, .gone, .gone], st.length⟩ := by
      rw [sFor_range (j := (t.L.length : Nat)) (by simp) (by omega) (by omega)]
      exact e3
    simp [f__law_covering, n__law_covering, e4, covR, hx, hn']
  · have hx' : covR g t x = .none := if_neg hx
    obtain ⟨s', e3, q3, q4, rfl⟩ := forD_inv (g := gdName 3) (b := n__law_covering_b1 c) (fun _ => I) (rangeL 0 (t.L.length : Nat)) 0 _ i0 (fun i y s hy hs => by
      obtain ⟨rfl, hi2⟩ := xs_at i y hy
      obtain ⟨s1, q, h1, h2, h3⟩ := turn i s hi2 hs
      refine ⟨s1, q, h1, ?_, h2⟩
      rw [h3, if_neg]
      intro ⟨z1, z2⟩
      apply hx
      have h4 := sumC_mono (g := g) hn hg (show i + 1 ≤ t.L.length by omega)
      have h5 := sumC_nn (g := g) (hs := t.L.take i) (hn.sub fun x hx => List.mem_of_mem_take hx) hg
      rw [List.take_length] at h4
      omega)
    have e4 : sFor (itR1 (aCons (eCl gLen (aCons (eVar 0) aNil)) aNil)) (gdName 3) (n__law_covering_b1 c) ⟨[some (.pu (.list (t.L.map hD))), some (.pu (.int g)), some (.pu (.int x)), none, none], st ++ [.gone, .gone, .gone, .gone, .gone], st.length⟩ = .nx ⟨[some (.pu (.list (t.L.map hD))), some (.pu (.int g)), some (.pu (.int x)), q3, q4], st ++ [.gone, .gone, .gone, .gone, .gone], st.length⟩ := by
      rw [sFor_range (j := (t.L.length : Nat)) (by simp) (by omega) (by omega)]
      exact e3
    simp [f__law_covering, n__law_covering, e4, hx']
end K45
namespace K45
open PySem PySem.Spec PyProof.Rows L2 Lw
variable {c : CA} {st : List MO} {j : Nat} {g : Int}
@[simp] theorem lint_int (i : Int) (st : List MO) : f__law_integer c [.pu (.int i)] st = .ok (.pu (.bool true)) st := by
  simp [f__law_integer, n__law_integer, kitSub]
@[simp] theorem pint_int (i : Int) (st : List MO) : f_is_integer c [.pu (.int i)] st = .ok (.pu (.bool true)) st := by
  simp [f_is_integer, n_is_integer, kitSub]
theorem pRaw (l r : Tr) (h : Ht) : (Tr.n l h r).P g = .tuple [l.P g, hD h, r.P g, .int (Tr.n l h r).rows, .int ((Tr.n l h r).total g)] := rfl
@[simp] theorem cut35 (a b d e f : PyData) : cutD [a, b, d, e, f] (some 3) none = [e, f] := rfl
def tT (g : Int) (t : Tr) : PyData := .tuple [.int t.rows, .int (t.total g), .int t.depth]
theorem le_abs {a b : Int} (h1 : a ≤ b + 1) (h2 : b ≤ a + 1) : ¬ 1 < (if a - b < 0 then -(a - b) else a - b) := by split <;> omega
theorem told_eq : ∀ (n : Nat) (t : Tr) (st : List MO), t.depth < n → Avl t → NN t.L → f__law_tree_told c n [.pu (.int g), .pu (t.P g)] st = .ok (.pu (tT g t)) st
  | 0, t, _, H, _, _ => by have := depth_nn t; omega
  | n + 1, .e, st, _, _, _ => by simp [f__law_tree_told, n__law_tree_told, Tr.P, tT, Tr.rows, Tr.total, Tr.depth]
  | n + 1, .n l o r, st, H, ⟨a1, a2, a3, a4⟩, hn => by
    have ⟨H1, H2⟩ := fuel_l H
    have ih1 := fun st => told_eq n l st H1 a1 (hn.sub fun x hx => by simp [Tr.L, hx])
    have ih2 := fun st => told_eq n r st H2 a2 (hn.sub fun x hx => by simp [Tr.L, hx])
    have ab := le_abs a3 a4
    have ne := fun st => gNe_refl st (n := 1) (sh_tuple (ds := [.int (Tr.n l o r).rows, .int ((Tr.n l o r).total g)]) (shA_cons (sh_int _ _) (shA_cons (sh_int _ _) (shA_nil _)))) (by decide)
    have ad : ∀ st x y z, gAdd st (.pu (.tuple [x, y])) (.pu (.tuple [z])) = some (.tuple [x, y, z]) := fun st x y z => gAdd_tup st (by show 2 + 1 ≤ _; decide)
    have e1 : l.rows + 1 + r.rows = (Tr.n l o r).rows := rfl
    have e2 : l.total g + cnt g o + r.total g = (Tr.n l o r).total g := rfl
    have e3 : 1 + (if l.depth < r.depth then r.depth else l.depth) = (Tr.n l o r).depth := rfl
    cases o with
    | none =>
      simp [f__law_tree_told, n__law_tree_told, perm, pRaw, kitSub, ih1, ih2, tT, ab, lcounted_eq, hD, e1, e2, ne, ad, e3]
      have := lcounted_eq (c := c) (g := g) none
      simp only [hD] at this
      simp [this, e1, e2, ne, ad, e3]
    | some x =>
      have x0 : ¬ x < 0 := by have := hn (some x) (by simp [Tr.L]) x rfl; omega
      have := lcounted_eq (c := c) (g := g) (some x)
      simp only [hD] at this
      simp [f__law_tree_told, n__law_tree_told, perm, pRaw, kitSub, ih1, ih2, tT, ab, this, hD, e1, e2, ne, ad, e3, x0]
theorem ixp0 (l r : Tr) (h : Ht) (st : List MO) : gIx st (.pu ((Tr.n l h r).P g)) (.pu (.int 0)) = some (l.P g) := rfl
theorem ixp1 (l r : Tr) (h : Ht) (st : List MO) : gIx st (.pu ((Tr.n l h r).P g)) (.pu (.int 1)) = some (hD h) := rfl
theorem ixp2 (l r : Tr) (h : Ht) (st : List MO) : gIx st (.pu ((Tr.n l h r).P g)) (.pu (.int 2)) = some (r.P g) := rfl
@[simp] theorem tP_non (t : Tr) : isNon (.pu (t.P g)) = (match t with | .e => true | _ => false) := by cases t <;> rfl
theorem lrows_eq : ∀ (n : Nat) (t : Tr) (st : List MO), t.depth < n → t.rows ≤ 1000 → f__law_tree_rows c n [.pu (t.P g)] st = .ok (.pu (.list (t.L.map hD))) st
  | 0, t, _, H, _ => by have := depth_nn t; omega
  | n + 1, .e, st, _, _ => by simp [f__law_tree_rows, n__law_tree_rows, Tr.P, Tr.L]
  | n + 1, .n l o r, st, H, h1 => by
    have ⟨H1, H2⟩ := fuel_l H
    have n1 := rows_nn l
    have n2 := rows_nn r
    have er : (Tr.n l o r).rows = l.rows + 1 + r.rows := rfl
    have ll := lenL l
    have lr := lenL r
    have ih1 := fun st => lrows_eq n l st H1 (by omega)
    have ih2 := fun st => lrows_eq n r st H2 (by omega)
    have a1 : ∀ st, gAdd st (.pu (.list (l.L.map hD))) (.pu (.list [hD o])) = some (.list (l.L.map hD ++ [hD o])) := fun st => gAdd_lst st (by simp; omega)
    have a2 : ∀ st, gAdd st (.pu (.list (l.L.map hD ++ [hD o]))) (.pu (.list (r.L.map hD))) = some (.list (l.L.map hD ++ [hD o] ++ r.L.map hD)) := fun st => gAdd_lst st (by simp; omega)
    simp [f__law_tree_rows, n__law_tree_rows, perm, ixp0, ixp1, ixp2, ih1, ih2, a1]
    rw [a2]
    simp [Tr.L]
theorem pheights_eq : ∀ (n : Nat) (t : Tr) (st : List MO), t.depth < n → t.rows ≤ 1000 → f_heights_of c n [.pu (t.P g)] st = .ok (.pu (.list (t.L.map hD))) st
  | 0, t, _, H, _ => by have := depth_nn t; omega
  | n + 1, .e, st, _, _ => by simp [f_heights_of, n_heights_of, Tr.P, Tr.L]
  | n + 1, .n l o r, st, H, h1 => by
    have ⟨H1, H2⟩ := fuel_l H
    have n1 := rows_nn l
    have n2 := rows_nn r
    have er : (Tr.n l o r).rows = l.rows + 1 + r.rows := rfl
    have ll := lenL l
    have lr := lenL r
    have ih1 := fun st => pheights_eq n l st H1 (by omega)
    have ih2 := fun st => pheights_eq n r st H2 (by omega)
    have a1 : ∀ st, gAdd st (.pu (.list (l.L.map hD))) (.pu (.list [hD o])) = some (.list (l.L.map hD ++ [hD o])) := fun st => gAdd_lst st (by simp; omega)
    have a2 : ∀ st, gAdd st (.pu (.list (l.L.map hD ++ [hD o]))) (.pu (.list (r.L.map hD))) = some (.list (l.L.map hD ++ [hD o] ++ r.L.map hD)) := fun st => gAdd_lst st (by simp; omega)
    simp [f_heights_of, n_heights_of, perm, ixp0, ixp1, ixp2, ih1, ih2, a1]
    rw [a2]
    simp [Tr.L]
theorem heights_in_eq {t : Tr} (h : t.depth < 20) (h1 : t.rows ≤ 1000) (st : List MO) : f_heights_in c [.pu (t.P g)] st = .ok (.pu (.list (t.L.map hD))) st := by
  have e := fun st => pheights_eq (c := c) (g := g) 20 t st h h1
  simp [f_heights_in, n_heights_in, perm, e]
theorem measured_eq : ∀ (n : Nat) (t : Tr) (st : List MO), t.depth < n → Avl t → NN t.L → f_measured c n [.pu (.int g), .pu (t.P g)] st = .ok (.pu (tT g t)) st
  | 0, t, _, H, _, _ => by have := depth_nn t; omega
  | n + 1, .e, st, _, _, _ => by simp [f_measured, n_measured, Tr.P, tT, Tr.rows, Tr.total, Tr.depth]
  | n + 1, .n l o r, st, H, ⟨a1, a2, a3, a4⟩, hn => by
    have ⟨H1, H2⟩ := fuel_l H
    have ih1 := fun st => measured_eq n l st H1 a1 (hn.sub fun x hx => by simp [Tr.L, hx])
    have ih2 := fun st => measured_eq n r st H2 a2 (hn.sub fun x hx => by simp [Tr.L, hx])
    have ab := le_abs a3 a4
    have e1 : (Tr.n l o r).rows = l.rows + 1 + r.rows := rfl
    have e2 : (Tr.n l o r).total g = l.total g + cnt g o + r.total g := rfl
    have e3 : 1 + (if l.depth < r.depth then r.depth else l.depth) = (Tr.n l o r).depth := rfl
    cases o with
    | none =>
      have := counted_eq (c := c) (g := g) (h := none)
      simp only [hD] at this
      simp [f_measured, n_measured, perm, pRaw, kitSub, ih1, ih2, tT, ab, hD, e1, e2, e3, tup5, this]
    | some x =>
      have x0 : ¬ x < 0 := by have := hn (some x) (by simp [Tr.L]) x rfl; omega
      have := counted_eq (c := c) (g := g) (h := some x)
      simp only [hD] at this
      simp [f_measured, n_measured, perm, pRaw, kitSub, ih1, ih2, tT, ab, hD, e1, e2, e3, x0, tup5, this]
theorem tree_right_eq {t : Tr} (h : t.depth < 20) (ha : Avl t) (hn : NN t.L) (st : List MO) : f_tree_right c [.pu (.int g), .pu (t.P g)] st = .ok (.pu (.bool true)) st := by
  have e := fun st => measured_eq (c := c) (g := g) 20 t st h ha hn
  simp [f_tree_right, n_tree_right, perm, e, tT]
theorem shA_mem {n : Nat} : ∀ {ds : List PyData} {d : PyData}, ShA n ds → d ∈ ds → Sh n d
  | x :: r, d, ⟨h1, h2⟩, hd => by
    rw [PyData.canLayAll0, Bool.and_eq_true] at h1
    rw [PyData.depthAll] at h2
    rcases List.mem_cons.mp hd with rfl | hd
    · exact ⟨h1.1, Nat.le_trans (Nat.le_max_left _ _) h2⟩
    · exact shA_mem ⟨h1.2, Nat.le_trans (Nat.le_max_right _ _) h2⟩ hd
theorem same_l1 {ds : List PyData} (dd : PyData) (hdd : dd = .list ds ∨ dd = .tuple ds) (hl : ds.length ≤ 16777216) {rec : FD} (ih : ∀ d ∈ ds, ∀ st, rec [.pu d, .pu d] st = .ok (.pu (.bool true)) st) (q : Option SV) (st : List MO) (b : Nat) :
    n__law_same_l1 c rec ⟨[some (.pu dd), some (.pu dd), q], st, b⟩ = .ok ((List.replicate ds.length true).map PyData.bool) ⟨[some (.pu dd), some (.pu dd), q], st, b⟩ := by
  unfold n__law_same_l1
  have i1 : itR1 (aCons (eCl gLen (aCons (eVar 1) aNil)) aNil) ⟨[some (.pu dd), some (.pu dd), q], st, b⟩ = .ok (rangeL 0 (ds.length : Nat)) ⟨[some (.pu dd), some (.pu dd), q], st, b⟩ := itR1_of (by rcases hdd with rfl | rfl <;> simp) (by omega) (by omega)
  rw [lLc_map (fun _ => true) (fun _ => .bool true) i1 (by rw [rangeL_len]; omega)]
  · rw [List.filter_eq_self.mpr (fun _ _ => rfl)]
    congr 1
    rw [List.map_const', List.map_replicate, rangeL_len]
    congr 1
  · intro x hx
    obtain ⟨i, rfl, h0, h1⟩ := rangeL_mem hx
    obtain ⟨k, rfl⟩ := Int.eq_ofNat_of_zero_le h0
    have hk : k < ds.length := by omega
    have e : atI ds (k : Int) = some ds[k] := by rw [atI_cast]; exact List.getElem?_eq_getElem hk
    refine ⟨_, _, rfl, rfl, fun _ => ⟨[some (.pu dd), some (.pu dd), some (.pu (.int k))], ?_⟩⟩
    have := ih ds[k] (List.getElem_mem hk)
    rcases hdd with rfl | rfl <;> simp [wipeS, perm, e, this]
theorem all_true (n : Nat) (st : List MO) : gBols (fun bs => bs.all id) st [.pu (.list ((List.replicate n true).map PyData.bool))] = some (.bool true) := by
  rw [gBols_bols]; simp
mutual
def small : PyData → Bool
  | .list ds => decide (ds.length ≤ 16777216) && smallA ds
  | .tuple ds => decide (ds.length ≤ 16777216) && smallA ds
  | _ => true
def smallA : List PyData → Bool
  | [] => true
  | d :: r => small d && smallA r
end
theorem smallA_mem : ∀ {ds : List PyData} {d : PyData}, smallA ds = true → d ∈ ds → small d = true
  | x :: r, d, h, hd => by
    rw [smallA, Bool.and_eq_true] at h
    rcases List.mem_cons.mp hd with rfl | hd
    · exact h.1
    · exact smallA_mem h.2 hd
theorem same_eq : ∀ (n : Nat) (d : PyData) (st : List MO), Sh n d → n ≤ 64 → small d = true → f__law_same c (n + 1) [.pu d, .pu d] st = .ok (.pu (.bool true)) st
  | n, .none, st, _, _, _ => by simp [f__law_same, n__law_same, kitSub]
  | n, .bool b, st, _, _, _ => by simp [f__law_same, n__law_same, kitSub]
  | n, .int i, st, _, _, _ => by simp [f__law_same, n__law_same, kitSub]
  | n, .str x, st, h, hn, _ => by
    have e := fun st => gEq_refl st h hn
    simp [f__law_same, n__law_same, kitSub, e]
  | n, .dict x, st, h, _, _ => by cases h.1
  | n + 1, .list ds, st, h, hn, hs => by
    have hA : ShA n ds := ⟨by have := h.1; rwa [PyData.canLay0] at this, by have := h.2; rw [PyData.depth] at this; omega⟩
    rw [small, Bool.and_eq_true] at hs
    have l1 := same_l1 (c := c) (.list ds) (.inl rfl) (of_decide_eq_true hs.1) (rec := f__law_same c (n + 1)) fun d hd st => same_eq n d st (shA_mem hA hd) (by omega) (smallA_mem hs.2 hd)
    have al := all_true ds.length
    rw [f__law_same]
    simp [n__law_same, kitSub, l1, -List.map_replicate, al]
  | n + 1, .tuple ds, st, h, hn, hs => by
    have hA : ShA n ds := ⟨by have := h.1; rwa [PyData.canLay0] at this, by have := h.2; rw [PyData.depth] at this; omega⟩
    rw [small, Bool.and_eq_true] at hs
    have l1 := same_l1 (c := c) (.tuple ds) (.inr rfl) (of_decide_eq_true hs.1) (rec := f__law_same c (n + 1)) fun d hd st => same_eq n d st (shA_mem hA hd) (by omega) (smallA_mem hs.2 hd)
    have al := all_true ds.length
    rw [f__law_same]
    simp [n__law_same, kitSub, l1, -List.map_replicate, al]
  | 0, .list ds, st, h, _, _ => by have := h.2; rw [PyData.depth] at this; omega
  | 0, .tuple ds, st, h, _, _ => by have := h.2; rw [PyData.depth] at this; omega
end K45
namespace K45
open PySem PySem.Spec PyProof.Rows L2 Lw
variable {c : CA} {st : List MO} {j : Nat} {g : Int}
abbrev G10 : List MO := [.gone, .gone, .gone, .gone, .gone, .gone, .gone, .gone, .gone, .gone]
theorem same_int (x : Int) (st : List MO) : f__law_same c 6 [.pu (.int x), .pu (.int x)] st = .ok (.pu (.bool true)) st := same_eq 5 _ st (sh_int _ _) (by decide) rfl
theorem same_h (h : Ht) (st : List MO) : f__law_same c 6 [.pu (hD h), .pu (hD h)] st = .ok (.pu (.bool true)) st := by
  cases h
  · exact same_eq 5 _ st (sh_none _) (by decide) rfl
  · exact same_eq 5 _ st (sh_int _ _) (by decide) rfl
theorem same_c (t : Tr) (x : Int) (st : List MO) : f__law_same c 6 [.pu (covR g t x), .pu (covR g t x)] st = .ok (.pu (.bool true)) st := by
  unfold covR
  split
  · exact same_eq 5 _ st (sh_int _ _) (by decide) rfl
  · exact same_eq 5 _ st (sh_none _) (by decide) rfl
def someN (hs : List Ht) : Int := ((hs.filter Option.isSome).length : Nat)
theorem sh_hs (hs : List Ht) : Sh 1 (.list (hs.map hD)) := sh_list (shA_of fun d hd => by
  obtain ⟨h, _, rfl⟩ := List.mem_map.mp hd
  cases h
  · exact sh_none _
  · exact sh_int _ _)
theorem looks_l1 {hs : List Ht} (hl : hs.length ≤ 1000) (q0 q1 q2 q4 q5 q6 q7 q8 q9 : Option SV) (st : List MO) (base : Nat) :
    n__law_looks_right_l1 c ⟨[q0, q1, q2, some (.pu (.list (hs.map hD))), q4, q5, q6, q7, q8, q9], st, base⟩ = .ok ((hs.filter Option.isSome).map hD) ⟨[q0, q1, q2, some (.pu (.list (hs.map hD))), q4, q5, q6, q7, q8, q9], st, base⟩ := by
  unfold n__law_looks_right_l1
  rw [lLc_map (xs := (hs.map hD).map SV.pu) (fun x => !isNon x) (fun x => match x with | .pu d => d | _ => .none) (by simp) (by simp; omega)]
  · congr 1
    induction hs with
    | nil => rfl
    | cons h r ih =>
      have := ih (by simp at hl; omega)
      cases h <;> simp_all [hD]
  · intro x hx
    obtain ⟨d, hd, rfl⟩ := List.mem_map.mp hx
    obtain ⟨h, _, rfl⟩ := List.mem_map.mp hd
    refine ⟨_, [q0, q1, q2, some (.pu (.list (hs.map hD))), q4, q5, q6, q7, q8, some (.pu (hD h))], rfl, ?_, fun _ => ⟨[q0, q1, q2, some (.pu (.list (hs.map hD))), q4, q5, q6, q7, q8, some (.pu (hD h))], ?_⟩⟩
    · simp [wipeS]
    · simp
/-- one look -/
theorem look_ok {B : Int} {o o0 : MO} {jd jh : Nat} {t : Tr} {k m : Int} (hd : st[jd]? = some o0) (hk : Dk B o) (hh : st[jh]? = some (hO c g t k m)) (ne : jd ≠ jh) (hB : B < 2 ^ 38) (ha : Avl t) (hn : NN t.L) (hg : 1 ≤ g) (hm : m = (t.L.length : Nat)) (hl : t.L.length ≤ 100) (u v w q7 q8 q9 : Option SV) :
    ∃ (o' : MO) (q7' q8' : Option SV), n__law_looks_right_b1 c ⟨[some (.rf jd), some (.rf jh), some (.pu (.int g)), some (.pu (.list (t.L.map hD))), u, v, w, q7, q8, q9], st.set jd o ++ G10, st.length⟩ =
      .nx ⟨[some (.rf jd), some (.rf jh), some (.pu (.int g)), some (.pu (.list (t.L.map hD))), u, v, w, q7', q8', q9], st.set jd o' ++ G10, st.length⟩ ∧ Dk (B + 2) o' := by
  have lt := at_lt hd
  have lt2 : jd < (st.set jd o).length := by simpa using lt
  have ll := lenL t
  have hd1 : (st.set jd o ++ G10)[jd]? = some o := at_app (set_at lt) _
  obtain ⟨r1, o1, e1, a1, b1, k1⟩ := draw_ok (c := c) (m := (t.L.length : Int) + 1) hd1 hk (by omega) (by omega) (by omega)
  have hd2 : (st.set jd o1 ++ G10)[jd]? = some o1 := at_app (set_at lt) _
  obtain ⟨r2, o2, e2, a2, b2, k2⟩ := draw_ok (c := c) (m := 5) hd2 k1 (by omega) (by decide) (by decide)
  have H : ∀ o, (st.set jd o ++ G10)[jh]? = some (hO c g t k m) := fun o => at_app (by rw [set_ne ne]; exact hh) _
  have dp := avl_depth ha (by omega)
  have of := fun o => offset_m (H o) (i := r1) (by omega) a1 (by omega)
  rw [off_L g t r1 a1 (by omega)] at of
  have bf := fun st => before_eq (c := c) (g := g) t.L a1 (by omega) st
  have ra := fun o x => row_at_m (H o) x (by omega)
  have ra' : ∀ o x, f_Heights_row_at c [SV.rf jh, SV.pu (PyData.int x)] (st.set jd o ++ G10) = FR.ok (SV.pu (covR g t x)) (st.set jd o ++ G10) := ra
  have lc := fun x st => lcovering_eq (c := c) hn hg (by omega) x st
  have ii := fun o => insAt_of (H o)
  by_cases c1 : r1 < (t.L.length : Int)
  · have ht := fun o => height_m (H o) (i := r1) (by omega) a1 (by omega) (by omega)
    have at1 : atI (t.L.map hD) r1 = some (hD (t.at r1)) := by
      obtain ⟨n, rfl⟩ := Int.eq_ofNat_of_zero_le a1
      have := at_ok t n a1 (by omega)
      rw [atI_cast, List.getElem?_map]
      simp only [Int.toNat_natCast] at this
      rw [this]; rfl
    refine ⟨o2, some (.pu (.int r1)), some (.pu (.int (sumC g (t.L.take r1.toNat) + r2 - 2))), ?_, by rw [show B + 2 = B + 1 + 1 by omega]; exact k2⟩
    simp [n__law_looks_right_b1, perm, e1, e2, set_app, lt, of, bf, ii, same_int, c1, ht, at1, same_h, ra', lc, same_c]
  · refine ⟨o2, some (.pu (.int r1)), some (.pu (.int (sumC g (t.L.take r1.toNat) + r2 - 2))), ?_, by rw [show B + 2 = B + 1 + 1 by omega]; exact k2⟩
    simp [n__law_looks_right_b1, perm, e1, e2, set_app, lt, of, bf, ii, same_int, c1, ra', lc, same_c]
theorem set_self {st : List MO} {i : Nat} {o : MO} (h : st[i]? = some o) : st.set i o = st := by
  apply List.ext_getElem?
  intro k
  by_cases e : i = k
  · subst e; rw [List.getElem?_set_self (at_lt h), h]
  · rw [List.getElem?_set_ne e]
theorem range3 : rangeL 0 3 = [.pu (.int 0), .pu (.int 1), .pu (.int 2)] := rfl
theorem looks_ok {B : Int} {o : MO} {jd jh : Nat} {t : Tr} {k m : Int} (hd : st[jd]? = some o) (hk : Dk B o) (hh : st[jh]? = some (hO c g t k m)) (ne : jd ≠ jh) (hB : B < 2 ^ 37) (ha : Avl t) (hn : NN t.L) (hg : 1 ≤ g) (hm : m = (t.L.length : Nat)) (hkk : k = someN t.L) (hl : t.L.length ≤ 100) :
    ∃ o' : MO, f__law_looks_right c [.rf jd, .rf jh, .pu (.int g), .pu (.list (t.L.map hD))] st = .ok (.pu (.bool true)) (st.set jd o') ∧ Dk (B + 6) o' := by
  have lt := at_lt hd
  have ll := lenL t
  have dp := avl_depth ha (by omega)
  have nr := rows_nn t
  have tl := total_L g t
  have base : st ++ G10 = st.set jd o ++ G10 := by rw [set_self hd]
  obtain ⟨o1, q1, q2, e1, k1⟩ := look_ok hd hk hh ne (by omega) ha hn hg hm hl (some (.pu (.int (sumC g t.L)))) (some (.pu (.int (someN t.L)))) (some (.pu (.int 0))) none none none
  obtain ⟨o2, q3, q4, e2, k2⟩ := look_ok hd k1 hh ne (by omega) ha hn hg hm hl (some (.pu (.int (sumC g t.L)))) (some (.pu (.int (someN t.L)))) (some (.pu (.int 1))) q1 q2 none
  obtain ⟨o3, q5, q6, e3, k3⟩ := look_ok hd k2 hh ne (by omega) ha hn hg hm hl (some (.pu (.int (sumC g t.L)))) (some (.pu (.int (someN t.L)))) (some (.pu (.int 2))) q3 q4 none
  have loop : sFor (itR1 (aCons (eC (.int 3)) aNil)) (gdName 6) (n__law_looks_right_b1 c) ⟨[some (.rf jd), some (.rf jh), some (.pu (.int g)), some (.pu (.list (t.L.map hD))), some (.pu (.int (sumC g t.L))), some (.pu (.int (someN t.L))), none, none, none, none], st.set jd o ++ G10, st.length⟩ =
      .nx ⟨[some (.rf jd), some (.rf jh), some (.pu (.int g)), some (.pu (.list (t.L.map hD))), some (.pu (.int (sumC g t.L))), some (.pu (.int (someN t.L))), some (.pu (.int 2)), q5, q6, none], st.set jd o3 ++ G10, st.length⟩ := by
    rw [sFor_range (j := 3) (by simp) (by decide) (by decide), range3]
    simp [forD_cons, e1, e2, e3]
  have H : ∀ o, (st.set jd o ++ G10)[jh]? = some (hO c g t k m) := fun o => at_app (by rw [set_ne ne]; exact hh) _
  have ii := fun o => insAt_of (H o)
  have tm := fun o => total_m (H o)
  have km := fun o => known_m (H o)
  have lm := fun o => len_m (H o) (by omega) (by omega)
  have rb : 0 ≤ t.rows ∧ t.rows < 4611686018427387904 := ⟨nr, by omega⟩
  have bf := fun st => before_eq (c := c) (g := g) t.L (i := (t.L.length : Nat)) (by omega) (by omega) st
  rw [show ((t.L.length : Nat) : Int).toNat = t.L.length by omega, List.take_length, ll] at bf
  have l1 := fun q4 q5 q6 q7 q8 q9 st b => looks_l1 (c := c) (hs := t.L) (by omega) (some (.rf jd)) (some (.rf jh)) (some (.pu (.int g))) q4 q5 q6 q7 q8 q9 st b
  have ra' : ∀ o x, f_Heights_row_at c [SV.rf jh, SV.pu (PyData.int x)] (st.set jd o ++ G10) = FR.ok (SV.pu (covR g t x)) (st.set jd o ++ G10) := fun o x => row_at_m (H o) x (by omega)
  have cv1 : covR g t (-1) = .none := if_neg (by omega)
  have cv2 : covR g t (sumC g t.L) = .none := if_neg (by omega)
  have sm1 : ∀ st, f__law_same c 6 [.pu (.list [.int t.rows, .int (sumC g t.L), .int (someN t.L)]), .pu (.list [.int t.rows, .int (sumC g t.L), .int (someN t.L)])] st = .ok (.pu (.bool true)) st := fun st =>
    same_eq 5 _ st ((sh_list (n := 0) (shA_cons (sh_int _ _) (shA_cons (sh_int _ _) (shA_cons (sh_int _ _) (shA_nil _))))).mono (by decide)) (by decide) (by simp [small, smallA])
  have sm2 : ∀ st, f__law_same c 6 [.pu (.list [.none, .none]), .pu (.list [.none, .none])] st = .ok (.pu (.bool true)) st := fun st =>
    same_eq 5 _ st ((sh_list (n := 0) (shA_cons (sh_none _) (shA_cons (sh_none _) (shA_nil _)))).mono (by decide)) (by decide) (by simp [small, smallA])
  have sN : ((t.L.filter Option.isSome).length : Int) = someN t.L := rfl
  refine ⟨o3, ?_, by rw [show B + 6 = B + 2 + 2 + 2 by omega]; exact k3⟩
  unfold f__law_looks_right runF
  rw [runX_ap]
  have r0 : List.replicate 10 MO.gone = G10 := rfl
  rw [r0, base]
  simp [n__law_looks_right, perm, bf, l1, ii, tm, km, lm, lenRes, rb, ll, tl, hkk, sN, sm1, loop, ra', cv1, cv2, sm2]
end K45
namespace K45
open PySem PySem.Spec PyProof.Rows L2 Lw
variable {c : CA} {g : Int}
abbrev Sx (o h : MO) : List MO := [.gone, .gone, o, .gone, .gone, .gone, h, .gone, .gone, .gone, .gone, .gone, .gone]
theorem draw_x {B m : Int} {o : MO} (h : MO) (hk : Dk B o) (hB : B < 2 ^ 40) (h0 : 0 < m) (h1 : m < 1073741824) :
    ∃ (r : Int) (o' : MO), f__law_draw c [.rf 2, .pu (.int m)] (Sx o h) = .ok (.pu (.int r)) (Sx o' h) ∧ 0 ≤ r ∧ r < m ∧ Dk (B + 1) o' :=
  draw_ok (st := Sx o h) rfl hk hB h0 h1
theorem height_x {B : Int} {o : MO} (h : MO) (hk : Dk B o) (hB : B < 2 ^ 39) :
    ∃ (x : Ht) (o' : MO), f__law_height c [.rf 2] (Sx o h) = .ok (.pu (hD x)) (Sx o' h) ∧ (∀ y, x = some y → 0 ≤ y) ∧ Dk (B + 3) o' :=
  height_ok (st := Sx o h) rfl hk hB
structure Inv (g : Int) (t : Tr) (k m : Int) (n : Nat) : Prop where
  a : Avl t
  nn : NN t.L
  m : m = (t.L.length : Nat)
  k : k = someN t.L
  l : t.L.length ≤ n
theorem someN_app (xs ys : List Ht) : someN (xs ++ ys) = someN xs + someN ys := by simp [someN]
theorem someN_cons (h : Ht) (ys : List Ht) : someN (h :: ys) = hN h + someN ys := by
  cases h
  · simp [someN, hN]
  · simp [someN, hN]; omega
theorem split_at {xs : List Ht} {i : Nat} {h : Ht} (e : xs[i]? = some h) : xs = xs.take i ++ h :: xs.drop (i + 1) := by
  obtain ⟨hl, rfl⟩ := List.getElem?_eq_some_iff.mp e
  rw [List.getElem_cons_drop, List.take_append_drop]
abbrev St (o h : MO) (g : Int) (hs : List Ht) (q4 q5 q6 q7 q8 q9 : Option SV) : S := ⟨[some (.rf 2), some (.pu (.int g)), some (.pu (.list (hs.map hD))), some (.rf 6), q4, q5, q6, q7, q8, q9], Sx o h, 3⟩
theorem cat3 (xs : List Ht) (h : Ht) (ys : List Ht) (hx : xs.length ≤ 1000) (hy : ys.length ≤ 1000) (st : List MO) :
    gAdd st (.pu (.list (xs.map hD))) (.pu (.list [hD h])) = some (.list ((xs ++ [h]).map hD)) ∧ gAdd st (.pu (.list ((xs ++ [h]).map hD))) (.pu (.list (ys.map hD))) = some (.list ((xs ++ h :: ys).map hD)) := by
  constructor
  · rw [gAdd_lst st (by simp; omega)]; simp
  · rw [gAdd_lst st (by simp; omega)]; simp
theorem cat2 (xs ys : List Ht) (hx : xs.length ≤ 1000) (hy : ys.length ≤ 1000) (st : List MO) :
    gAdd st (.pu (.list (xs.map hD))) (.pu (.list (ys.map hD))) = some (.list ((xs ++ ys).map hD)) := by
  rw [gAdd_lst st (by simp; omega)]; simp
theorem step_ok {B : Int} {o : MO} {t : Tr} {k m : Int} {n : Nat} (hk : Dk B o) (hB : B < 2 ^ 36) (hg : 1 ≤ g) (I : Inv g t k m n) (hn : n ≤ 90) (q4 q5 q6 q7 q8 q9 : Option SV) :
    ∃ (o' : MO) (t' : Tr) (k' m' : Int) (q5' q6' q7' q8' : Option SV), n__law_right_b1 c (St o (hO c g t k m) g t.L q4 q5 q6 q7 q8 q9) = .nx (St o' (hO c g t' k' m') g t'.L q4 q5' q6' q7' q8' q9) ∧ Dk (B + 20) o' ∧ Inv g t' k' m' (n + 1) := by
  obtain ⟨ia, inn, im, ik, il⟩ := I
  have ll := lenL t
  obtain ⟨r1, o1, e1, a1, b1, k1⟩ := draw_x (c := c) (m := 6) (hO c g t k m) hk (by omega) (by decide) (by decide)
  obtain ⟨r2, o2, e2, a2, b2, k2⟩ := draw_x (c := c) (m := (t.L.length : Int) + 1) (hO c g t k m) k1 (by omega) (by omega) (by omega)
  obtain ⟨x, o3, e3, a3, k3⟩ := height_x (c := c) (hO c g t k m) k2 (by omega)
  have dp := avl_depth ia (by omega)
  obtain ⟨i, rfl⟩ := Int.eq_ofNat_of_zero_le a2
  have ct : cutD (t.L.map hD) none (some (i : Int)) = (t.L.take i).map hD := by rw [cutD_to, List.map_take]
  have cd : cutD (t.L.map hD) (some (i : Int)) none = (t.L.drop i).map hD := by rw [cutD_from, List.map_drop]
  have cd1 : cutD (t.L.map hD) (some ((i : Int) + 1)) none = (t.L.drop (i + 1)).map hD := by rw [show ((i : Int) + 1) = ((i + 1 : Nat) : Int) by omega, cutD_from, List.map_drop]
  have sp : ∀ {tk : Nat}, (t.L.take tk).length ≤ 1000 := by intro tk; simp; omega
  have sd : ∀ {tk : Nat}, (t.L.drop tk).length ≤ 1000 := by intro tk; simp; omega
  have ii : insAt (Sx o3 (hO c g t k m)) (.rf 6) = some (6, c.Heights, fs4 (.int g) (t.D g) (.int k) (.int m)) := rfl
  -- the last look
  have look : ∀ (t' : Tr) (k' m' : Int), Inv g t' k' m' (n + 1) → ∃ o', f__law_looks_right c [.rf 2, .rf 6, .pu (.int g), .pu (.list (t'.L.map hD))] (Sx o3 (hO c g t' k' m')) = .ok (.pu (.bool true)) (Sx o' (hO c g t' k' m')) ∧ Dk (B + 20) o' := by
    intro t' k' m' I'
    obtain ⟨o', h1, h2⟩ := looks_ok (c := c) (st := Sx o3 (hO c g t' k' m')) (jd := 2) (jh := 6) rfl k3 rfl (by decide) (by omega) I'.a I'.nn hg I'.m I'.k (by have := I'.l; omega)
    obtain ⟨a, b, d, z, z1, z2, z3, z4⟩ := h2
    exact ⟨o', h1, a, b, d, z, z1, z2, z3, by omega⟩
  by_cases c1 : r1 < 3 ∨ (i : Int) = (t.L.length : Nat)
  · obtain ⟨j1, j2, j3, j4⟩ := ins_ok x t i ia (by omega) (by omega)
    rw [Int.toNat_natCast] at j2
    have I' : Inv g (t.ins i x) (k + hN x) (m + 1) (n + 1) := by
      refine ⟨j1, ?_, ?_, ?_, ?_⟩
      · rw [j2]
        intro h hh
        rcases List.mem_append.mp hh with hh | hh
        · exact inn h (List.mem_of_mem_take hh)
        · rcases List.mem_cons.mp hh with rfl | hh
          · exact a3
          · exact inn h (List.mem_of_mem_drop hh)
      · rw [j2, im]; simp; omega
      · have : someN t.L = someN (t.L.take i) + someN (t.L.drop i) := by rw [← someN_app, List.take_append_drop]
        rw [j2, someN_app, someN_cons, ik, this]; omega
      · rw [j2]; simp; omega
    obtain ⟨o4, h4, k4⟩ := look _ _ _ I'
    have im1 : f_Heights_insert c [.rf 6, .pu (.int i), .pu (hD x)] (Sx o3 (hO c g t k m)) = .ok (.pu .none) (Sx o3 (hO c g (t.ins i x) (k + hN x) (m + 1))) := insert_m (st := Sx o3 (hO c g t k m)) (j := 6) rfl (by omega) (by omega) (by omega) a3
    have ca := fun st => cat3 (t.L.take i) x (t.L.drop i) sp sd st
    rw [← j2] at ca
    refine ⟨o4, _, _, _, some (.pu (.int r1)), some (.pu (.int i)), some (.pu (hD x)), some (.pu .none), ?_, k4, I'⟩
    by_cases c2 : r1 < 3
    · simp [n__law_right_b1, perm, e1, e2, e3, c2, ii, im1, ct, cd, (ca _).1, (ca _).2, h4, -List.map_take, -List.map_drop, -List.map_append]
    · obtain rfl : i = t.L.length := by omega
      simp [n__law_right_b1, perm, e1, e2, e3, c2, ii, im1, ct, cd, (ca _).1, (ca _).2, h4, -List.map_take, -List.map_drop, -List.map_append, -List.take_length, -List.drop_length]
  · have hi : (i : Int) < (t.L.length : Nat) := by omega
    have n1 : ¬ r1 < 3 := by omega
    have n2 : ¬ ((i : Int) = (t.L.length : Nat)) := by omega
    have n2' : ¬ (i = t.L.length) := by omega
    have at1 := at_ok t i (by omega) (by omega)
    rw [Int.toNat_natCast] at at1
    have spl := split_at at1
    have cntL : someN t.L = someN (t.L.take i) + (hN (t.at i) + someN (t.L.drop (i + 1))) := by
      conv => lhs; rw [spl]
      rw [someN_app, someN_cons]
    by_cases c3 : r1 < 5
    · obtain ⟨j1, j2, j3⟩ := put_ok x t i ia (by omega) (by omega)
      rw [Int.toNat_natCast, show ((i : Int) + 1).toNat = i + 1 by omega] at j2
      have I' : Inv g (t.put i x) (k + (hN x - hN (t.at i))) m (n + 1) := by
        refine ⟨j1, ?_, ?_, ?_, ?_⟩
        · rw [j2]
          intro h hh
          rcases List.mem_append.mp hh with hh | hh
          · exact inn h (List.mem_of_mem_take hh)
          · rcases List.mem_cons.mp hh with rfl | hh
            · exact a3
            · exact inn h (List.mem_of_mem_drop hh)
        · rw [j2, im]; simp; omega
        · rw [j2, someN_app, someN_cons, ik, cntL]; omega
        · rw [j2]; simp; omega
      obtain ⟨o4, h4, k4⟩ := look _ _ _ I'
      have lm1 : f_Heights_learn c [.rf 6, .pu (.int i), .pu (hD x)] (Sx o3 (hO c g t k m)) = .ok (.pu .none) (Sx o3 (hO c g (t.put i x) (k + (hN x - hN (t.at i))) m)) := learn_m (st := Sx o3 (hO c g t k m)) (j := 6) rfl (by omega) (by omega) (by omega) (by omega) a3
      have ca := fun st => cat3 (t.L.take i) x (t.L.drop (i + 1)) sp sd st
      rw [← j2] at ca
      refine ⟨o4, _, _, _, some (.pu (.int r1)), some (.pu (.int i)), some (.pu (hD x)), some (.pu .none), ?_, k4, I'⟩
      by_cases c4 : r1 = 3
      · simp [n__law_right_b1, perm, e1, e2, e3, n1, n2, n2', c3, c4, ii, lm1, ct, cd1, (ca _).1, (ca _).2, h4, -List.map_take, -List.map_drop, -List.map_append]
      · simp [n__law_right_b1, perm, e1, e2, e3, n1, n2, n2', c3, c4, ii, lm1, ct, cd1, (ca _).1, (ca _).2, h4, -List.map_take, -List.map_drop, -List.map_append]
    · obtain ⟨j1, j2, j3, j4⟩ := del_ok t i ia (by omega) (by omega)
      rw [Int.toNat_natCast, show ((i : Int) + 1).toNat = i + 1 by omega] at j2
      have I' : Inv g (t.del i) (k - hN (t.at i)) (m - 1) (n + 1) := by
        refine ⟨j1, ?_, ?_, ?_, ?_⟩
        · rw [j2]
          intro h hh
          rcases List.mem_append.mp hh with hh | hh
          · exact inn h (List.mem_of_mem_take hh)
          · exact inn h (List.mem_of_mem_drop hh)
        · rw [j2, im]; simp; omega
        · rw [j2, someN_app, ik, cntL]; omega
        · rw [j2]; simp; omega
      obtain ⟨o4, h4, k4⟩ := look _ _ _ I'
      have rm1 : f_Heights_remove c [.rf 6, .pu (.int i)] (Sx o3 (hO c g t k m)) = .ok (.pu .none) (Sx o3 (hO c g (t.del i) (k - hN (t.at i)) (m - 1))) := remove_m (st := Sx o3 (hO c g t k m)) (j := 6) rfl (by omega) (by omega) (by omega) (by omega)
      have ca := fun st => cat2 (t.L.take i) (t.L.drop (i + 1)) sp sd st
      rw [← j2] at ca
      refine ⟨o4, _, _, _, some (.pu (.int r1)), some (.pu (.int i)), some (.pu (hD x)), some (.pu .none), ?_, k4, I'⟩
      simp [n__law_right_b1, perm, e1, e2, e3, n1, n2, n2', c3, ii, rm1, ct, cd1, ca, h4, -List.map_take, -List.map_drop, -List.map_append]
end K45
namespace K45
open PySem PySem.Spec PyProof.Rows L2 Lw
variable {c : CA} {g : Int}
theorem init_x (o : MO) (hg : 1 ≤ g) : f_Heights___init__ c [.rf 13, .pu (.int g)] [.gone, .gone, o, .gone, .gone, .gone, .gone, .gone, .gone, .gone, .gone, .gone, .gone, .ins c.Heights []] = .ok (.pu .none) [.gone, .gone, o, .gone, .gone, .gone, .gone, .gone, .gone, .gone, .gone, .gone, .gone, hO c g .e 0 0] :=
  init_m (st := Sx o .gone ++ [.ins c.Heights []]) (j := 13) hg rfl
theorem loop_ok {B : Int} {o : MO} {N : Nat} (hk : Dk B o) (hB : B < 2 ^ 30) (hg : 1 ≤ g) (hN : N ≤ 90) (q4 q5 q6 q7 q8 q9 : Option SV) :
    ∃ (o' : MO) (t' : Tr) (k' m' : Int) (q4' q5' q6' q7' q8' : Option SV), forD (gdName 4) (n__law_right_b1 c) (rangeL 0 (N : Nat)) (St o (hO c g .e 0 0) g [] q4 q5 q6 q7 q8 q9) = .nx (St o' (hO c g t' k' m') g t'.L q4' q5' q6' q7' q8' q9) ∧ Dk (B + 20 * N) o' ∧ Inv g t' k' m' N := by
  let I : Nat → S → Prop := fun i s => ∃ (o' : MO) (t' : Tr) (k' m' : Int) (q4' q5' q6' q7' q8' : Option SV), s = St o' (hO c g t' k' m') g t'.L q4' q5' q6' q7' q8' q9 ∧ Dk (B + 20 * (i : Nat)) o' ∧ Inv g t' k' m' i
  have i0 : I 0 (St o (hO c g .e 0 0) g [] q4 q5 q6 q7 q8 q9) := ⟨o, .e, 0, 0, _, _, _, _, _, rfl, by simpa using hk, ⟨trivial, fun h hh => (by cases hh), rfl, rfl, Nat.le_refl _⟩⟩
  obtain ⟨s', e, o', t', k', m', q4', q5', q6', q7', q8', rfl, h1, h2⟩ := forD_inv (g := gdName 4) (b := n__law_right_b1 c) I (rangeL 0 (N : Nat)) 0 _ i0 (fun i x s hx hs => by
    obtain ⟨rfl, hi⟩ := rangeL_at hx
    rw [Nat.zero_add] at hs
    obtain ⟨o1, t1, k1, m1, p4, p5, p6, p7, p8, rfl, d1, v1⟩ := hs
    obtain ⟨o2, t2, k2, m2, r5, r6, r7, r8, e2, d2, v2⟩ := step_ok (c := c) d1 (by omega) hg v1 (by omega) (some (.pu (.int (0 + (i : Nat))))) p5 p6 p7 p8 q9
    refine ⟨_, _, rfl, e2, o2, t2, k2, m2, _, _, _, _, _, rfl, ?_, by rw [Nat.zero_add]; exact v2⟩
    rw [show B + 20 * ((0 + i + 1 : Nat) : Int) = B + 20 * (i : Nat) + 20 by omega]
    exact d2)
  have el : 0 + (rangeL 0 (N : Nat)).length = N := by rw [rangeL_len]; omega
  rw [el] at h1 h2
  exact ⟨o', t', k', m', q4', q5', q6', q7', q8', e, h1, h2⟩
theorem right_ok {B : Int} {o : MO} (hk : Dk B o) (hB : B < 2 ^ 20) : ∃ o', f__law_right c [.rf 2] [.gone, .gone, o] = .ok (.pu (.bool true)) [.gone, .gone, o'] := by
  obtain ⟨r1, o1, d1, a1, b1, k1⟩ := draw_x (c := c) (m := 40) .gone hk (by omega) (by decide) (by decide)
  obtain ⟨r2, o2, d2, a2, b2, k2⟩ := draw_x (c := c) (m := 2) .gone k1 (by omega) (by decide) (by decide)
  have hg : 1 ≤ 1 + r1 := by omega
  obtain ⟨r3, o3, d3, a3, b3, k3⟩ := draw_x (c := c) (m := 3) (hO c (1 + r1) .e 0 0) k2 (by omega) (by decide) (by decide)
  obtain ⟨N, hN, eN⟩ : ∃ N : Nat, N ≤ 90 ∧ atI [PyData.int 8, .int 30, .int 70] r3 = some (.int (N : Nat)) := by
    have : r3 = 0 ∨ r3 = 1 ∨ r3 = 2 := by omega
    rcases this with rfl | rfl | rfl
    · exact ⟨8, by decide, by simp⟩
    · exact ⟨30, by decide, by simp⟩
    · exact ⟨70, by decide, by simp⟩
  obtain ⟨o4, t, k, m, q4, q5, q6, q7, q8, e4, k4, I4⟩ := loop_ok (c := c) (g := 1 + r1) k3 (by omega) hg hN none none none none none none
  have ll := lenL t
  have il := I4.l
  have dp := avl_depth I4.a (by omega)
  have nr := rows_nn t
  have ini := fun o => init_x (c := c) o hg
  have tm : f_Heights_tree c [.rf 6] (Sx o4 (hO c (1 + r1) t k m)) = .ok (.pu (t.P (1 + r1))) (Sx o4 (hO c (1 + r1) t k m)) := tree_m (st := Sx o4 (hO c (1 + r1) t k m)) (j := 6) rfl (by omega)
  have ii : insAt (Sx o4 (hO c (1 + r1) t k m)) (.rf 6) = some (6, c.Heights, fs4 (.int (1 + r1)) (t.D (1 + r1)) (.int k) (.int m)) := rfl
  have td := fun st => told_eq (c := c) (g := 1 + r1) 20 t st (by omega) I4.a I4.nn
  have lr := fun st => lrows_eq (c := c) (g := 1 + r1) 20 t st (by omega) (by omega)
  have tr := fun st => tree_right_eq (c := c) (g := 1 + r1) (t := t) (by omega) I4.a I4.nn st
  have hi := fun st => heights_in_eq (c := c) (g := 1 + r1) (t := t) (by omega) (by omega) st
  have ne := fun st => gNe_refl st (sh_hs t.L) (by decide)
  have sm := fun st => same_eq (c := c) 5 (.list (t.L.map hD)) st ((sh_hs t.L).mono (by decide)) (by decide) (by
    rw [small, Bool.and_eq_true]
    refine ⟨decide_eq_true (by rw [List.length_map]; omega), ?_⟩
    have : ∀ hs : List Ht, smallA (hs.map hD) = true := by
      intro hs
      induction hs with
      | nil => rfl
      | cons h r ih => rw [List.map_cons, smallA, ih]; cases h <;> rfl
    exact this _)
  have loop : sFor (itR1 (aCons (e2 gIx (eP (lDis (aCons (eC (.int 8)) (aCons (eC (.int 30)) (aCons (eC (.int 70)) aNil))))) (eCall (f__law_draw c) (aArgs 2 0 [0, 1] (aCons (eVar 0) (aCons (eC (.int 3)) aNil)) aNil))) aNil)) (gdName 4) (n__law_right_b1 c) (St o2 (hO c (1 + r1) .e 0 0) (1 + r1) [] none none none none none none) =
      .nx (St o4 (hO c (1 + r1) t k m) (1 + r1) t.L q4 q5 q6 q7 q8 none) := by
    rw [sFor_of (itR1_of (s1 := St o3 (hO c (1 + r1) .e 0 0) (1 + r1) [] none none none none none none) (j := (N : Nat)) (by simp [perm, d3, eN]) (by omega) (by omega))]
    exact e4
  have loop' := loop
  simp only [St, Sx, List.map_nil] at loop'
  refine ⟨o4, ?_⟩
  unfold f__law_right runF
  rw [runX_ap]
  by_cases c2 : r2 = 0
  · simp [n__law_right, perm, d1, d2, c2, mkRes, ini, sStore, noRf, trimO, belowRf, loop', ii, tm, td, lr, tr, hi, ne, sm, tT]
  · simp [n__law_right, perm, d1, d2, c2, mkRes, ini, sStore, noRf, trimO, belowRf, loop', ii, tm, td, lr, tr, hi, ne, sm, tT]
theorem gIx_sc (st : List MO) (ns : List Int) (i : Int) : gIx st (.sc ns) (.pu (.int i)) = match atI ns i with
      | some n => some (.int n)
      | none => none := rfl
abbrev G7 : List MO := [.gone, .gone, .gone, .gone, .gone, .gone, .gone]
theorem deck_turn {ns : List Int} (k cell x : Int) {i : Nat} (hi : i < ns.length) (q4 : Option SV) :
    n__law_deck_b1 c ⟨[some (.sc ns), some (.pu (.int k)), some (.pu (.int cell)), some (.pu (.int x)), some (.pu (.int (i : Nat)))], G7, 2⟩ =
      .nx ⟨[some (.sc ns), some (.pu (.int k)), some (.pu (.int cell)), some (.pu (.int ((x * 8191 + ns[i] % 100000000000000000000117 + 3 * (i : Nat)) % 100000000000000000000000000319))), some (.pu (.int (i : Nat)))], G7, 2⟩ := by
  have e1 : atI ns (i : Int) = some ns[i] := by rw [atI_cast]; exact List.getElem?_eq_getElem hi
  have x1 : ∀ st x, gMulX st (.pu (.int x)) (.pu (.int 8191)) = some (.int (x * 8191)) := fun st x => gMulX_int st (.inl (.inr (by decide)))
  have x2 : ∀ st x, gMulX st (.pu (.int 3)) (.pu (.int x)) = some (.int (3 * x)) := fun st x => gMulX_int st (.inl (.inl (by decide)))
  have p2 : ∀ st, gPow st (.pu (.int 10)) (.pu (.int 23)) = some (.int (10 ^ 23)) := fun st => gPow_int st ⟨by decide, by decide, big (a := 4) (by decide) (by decide)⟩
  have p3 : ∀ st, gPow st (.pu (.int 10)) (.pu (.int 29)) = some (.int (10 ^ 29)) := fun st => gPow_int st ⟨by decide, by decide, big (a := 4) (by decide) (by decide)⟩
  have m3 := fun st i => gMod_int st (i := i) (j := 100000000000000000000117) (by decide)
  have m4 := fun st i => gMod_int st (i := i) (j := 100000000000000000000000000319) (by decide)
  simp [n__law_deck_b1, gIx_sc, e1, x1, x2, p2, p3, m3, m4]
theorem deck_loop {ns : List Int} (hl : ns.length ≤ 63) (k cell x : Int) (x0 : 0 ≤ x) (x1 : x < 100000000000000000000000000319) :
    ∃ (y : Int) (q : Option SV), forD (gdName 4) (n__law_deck_b1 c) (rangeL 0 (ns.length : Nat)) ⟨[some (.sc ns), some (.pu (.int k)), some (.pu (.int cell)), some (.pu (.int x)), none], G7, 2⟩ =
      .nx ⟨[some (.sc ns), some (.pu (.int k)), some (.pu (.int cell)), some (.pu (.int y)), q], G7, 2⟩ ∧ 0 ≤ y ∧ y < 100000000000000000000000000319 := by
  let I : Nat → S → Prop := fun _ s => ∃ (y : Int) (q : Option SV), s = ⟨[some (.sc ns), some (.pu (.int k)), some (.pu (.int cell)), some (.pu (.int y)), q], G7, 2⟩ ∧ 0 ≤ y ∧ y < 100000000000000000000000000319
  obtain ⟨s', e, y, q, rfl, h1, h2⟩ := forD_inv (g := gdName 4) (b := n__law_deck_b1 c) I (rangeL 0 (ns.length : Nat)) 0 _ ⟨x, none, rfl, x0, x1⟩ (fun i z s hx hs => by
    obtain ⟨rfl, hi⟩ := rangeL_at hx
    rw [Int.zero_add] at hi ⊢
    obtain ⟨y, q, rfl, h1, h2⟩ := hs
    refine ⟨_, _, rfl, deck_turn k cell y (by omega) q, _, _, rfl, Int.emod_nonneg _ (by decide), Int.emod_lt_of_pos _ (by decide)⟩)
  exact ⟨y, q, e, h1, h2⟩
theorem deck_ok {ns : List Int} (hl : ns.length ≤ 63) {k : Nat} (hk : k ≤ 100) : ∃ o, f__law_deck c [.sc ns, .pu (.int (k : Nat))] [.gone, .gone] = .ok (.rf 2) [.gone, .gone, o] ∧ Dk 0 o := by
  have x1 : ∀ st x, gMulX st (.pu (.int 17)) (.pu (.int x)) = some (.int (17 * x)) := fun st x => gMulX_int st (.inl (.inl (by decide)))
  have x2 : ∀ st x, gMulX st (.pu (.int x)) (.pu (.int 5)) = some (.int (x * 5)) := fun st x => gMulX_int st (.inl (.inr (by decide)))
  have p2 : ∀ st, gPow st (.pu (.int 10)) (.pu (.int 18)) = some (.int (10 ^ 18)) := fun st => gPow_int st ⟨by decide, by decide, big (a := 4) (by decide) (by decide)⟩
  have p3 : ∀ st, gPow st (.pu (.int 10)) (.pu (.int 21)) = some (.int (10 ^ 21)) := fun st => gPow_int st ⟨by decide, by decide, big (a := 4) (by decide) (by decide)⟩
  have m3 := fun st i => gMod_int st (i := i) (j := 1000000000000000000009) (by decide)
  by_cases c1 : k < ns.length
  · obtain ⟨y, q, e, h1, h2⟩ := deck_loop (c := c) hl (k : Nat) ns[k] (7 + (k : Nat)) (by omega) (by omega)
    have e1 : atI ns (k : Int) = some ns[k] := by rw [atI_cast]; exact List.getElem?_eq_getElem c1
    have e2 := e
    rw [← sFor_range (a := aCons (eCl gLen (aCons (eVar 0) aNil)) aNil) (j := (ns.length : Nat)) (by simp) (by omega) (by omega)] at e2
    have z0 := Int.emod_nonneg (if ns[k] < 0 then -(ns[k]) else ns[k]) (b := 1000000000000000000009) (by decide)
    have z1 := Int.emod_lt_of_pos (if ns[k] < 0 then -(ns[k]) else ns[k]) (b := 1000000000000000000009) (by decide)
    refine ⟨dO (if ns[k] - 1000000000000000000 > 0 then ns[k] - 1000000000000000000 else 0) (y * 5 + (if ns[k] < 0 then -(ns[k]) else ns[k]) % 1000000000000000000009) 0, ?_, _, _, _, rfl, by omega, by omega, Int.le_refl _, Int.le_refl _⟩
    simp [f__law_deck, n__law_deck, x1, x2, p2, p3, m3, c1, gIx_sc, e1, e2, exitF, dO]
  · obtain ⟨y, q, e, h1, h2⟩ := deck_loop (c := c) hl (k : Nat) (17 * (k : Nat) + 3) (7 + (k : Nat)) (by omega) (by omega)
    have e2 := e
    rw [← sFor_range (a := aCons (eCl gLen (aCons (eVar 0) aNil)) aNil) (j := (ns.length : Nat)) (by simp) (by omega) (by omega)] at e2
    have z0 := Int.emod_nonneg (if (17 * (k : Int) + 3) < 0 then -((17 * (k : Int) + 3)) else (17 * (k : Int) + 3)) (b := 1000000000000000000009) (by decide)
    have z1 := Int.emod_lt_of_pos (if (17 * (k : Int) + 3) < 0 then -((17 * (k : Int) + 3)) else (17 * (k : Int) + 3)) (b := 1000000000000000000009) (by decide)
    refine ⟨dO (if (17 * (k : Int) + 3) - 1000000000000000000 > 0 then (17 * (k : Int) + 3) - 1000000000000000000 else 0) (y * 5 + (if (17 * (k : Int) + 3) < 0 then -((17 * (k : Int) + 3)) else (17 * (k : Int) + 3)) % 1000000000000000000009) 0, ?_, _, _, _, rfl, by omega, by omega, Int.le_refl _, Int.le_refl _⟩
    simp [f__law_deck, n__law_deck, x1, x2, p2, p3, m3, c1, e2, exitF, dO]
theorem law_turn {ns : List Int} (hl : ns.length ≤ 63) {k : Nat} (hk : k ≤ 100) : n_law_b1 c ⟨[some (.sc ns), some (.pu (.int (k : Nat)))], [.gone, .gone], 0⟩ = .nx ⟨[some (.sc ns), some (.pu (.int (k : Nat)))], [.gone, .gone], 0⟩ := by
  obtain ⟨o, e1, d1⟩ := deck_ok (c := c) hl hk
  obtain ⟨o', e2⟩ := right_ok (c := c) d1 (by decide)
  simp [n_law_b1, perm, e1, e2, trimO, belowRf]
theorem lawD (c : CA) : LawD (f_law c) := by
  intro ns hl _
  let I : Nat → S → Prop := fun _ s => ∃ q, s = ⟨[some (.sc ns), q], [.gone, .gone], 0⟩
  let M : Int := if (if (ns.length : Int) < 2 then (ns.length : Int) else 2) > 1 then (if (ns.length : Int) < 2 then (ns.length : Int) else 2) else 1
  have hM : 1 ≤ M ∧ M ≤ 2 := by
    simp only [M]
    omega
  obtain ⟨s', e, q, rfl⟩ := forD_inv (g := gdName 1) (b := n_law_b1 c) I (rangeL 0 M) 0 ⟨[some (.sc ns), none], [.gone, .gone], 0⟩ ⟨none, rfl⟩ (fun i z s hx hs => by
    obtain ⟨rfl, hi⟩ := rangeL_at hx
    obtain ⟨q, rfl⟩ := hs
    rw [Int.zero_add] at hi ⊢
    exact ⟨_, _, rfl, law_turn hl (by omega), _, rfl⟩)
  rw [← sFor_range (a := aCons (eCl gMax2 (aCons (eC (.int 1)) (aCons (eCl gMin2 (aCons (eC (.int 2)) (aCons (eCl gLen (aCons (eVar 0) aNil)) aNil))) aNil))) aNil) (j := M) (by simp [M]) (by omega) (by omega)] at e
  refine ⟨[], ?_⟩
  simp [f_law, n_law, e]
end K45
namespace K45
open PySem PySem.Spec PyProof.Rows L2 Lw
structure Tx (K : PySem.W.Frag) (mg : Str → Option Value) where
  c : CA
  b_abs : mg "abs" = none
  b_all : mg "all" = none
  b_bool : mg "bool" = none
  b_int : mg "int" = none
  b_isinstance : mg "isinstance" = none
  b_len : mg "len" = none
  b_list : mg "list" = none
  b_max : mg "max" = none
  b_min : mg "min" = none
  b_range : mg "range" = none
  b_str : mg "str" = none
  b_sum : mg "sum" = none
  b_tuple : mg "tuple" = none
  cl_Heights : Cls K c.Heights
  mg_Heights : mg "Heights" = some (.ref c.Heights)
  na_Heights_guess : NoAttr K c.Heights "guess"
  na_Heights_known_ones : NoAttr K c.Heights "known_ones"
  na_Heights_many : NoAttr K c.Heights "many"
  na_Heights_root : NoAttr K c.Heights "root"
  mk_Heights_1 : PySem.W.makesIn K c.Heights = true
  mk_Heights_2 : PySem.W.keepIn K (.ref c.Heights) = true
section
variable {P : Program} {w : World} {K : PySem.W.Frag} {mg : Str → Option Value} {base : Heap}
theorem g__law_integer (T : Tx K mg) {a__law_integer : Addr} {d__law_integer : FuncData} (F__law_integer : Fun K "_law_integer" "_law_integer" s__law_integer a__law_integer d__law_integer) : FnG P w K mg base 1 a__law_integer d__law_integer ["value"] (SpD K 1 (f__law_integer T.c)) := by
  refine fng_mk (k := 0) F__law_integer sc__law_integer (by decide) fun cdv A outer s H E room grd => ?_
  have tk : Takes (cxOf (L2.CX P w) P w K mg base ["value"] "_law_integer" (defScope s__law_integer) a__law_integer cdv A outer s H E) (WE' E) := takes_of rfl rfl rfl rfl
  have pw := passW_of tk
  have room : Room 0 (cxOf (L2.CX P w) P w K mg base ["value"] "_law_integer" (defScope s__law_integer) a__law_integer cdv A outer s H E).A := room
  exact (dss_one (ds_ret (de_and (de_isi (T' := "int") (de_var 0) (by decide) (by decide +kernel) T.b_int T.b_isinstance) (de_one (de_not (de_isi (T' := "bool") (de_var 0) (by decide) (by decide +kernel) T.b_bool T.b_isinstance))))))
theorem g__law_counted (T : Tx K mg) {a__law_counted : Addr} {d__law_counted : FuncData} (F__law_counted : Fun K "_law_counted" "_law_counted" s__law_counted a__law_counted d__law_counted) : FnG P w K mg base 1 a__law_counted d__law_counted ["height", "guess"] (SpD K 2 (f__law_counted T.c)) := by
  refine fng_mk (k := 0) F__law_counted sc__law_counted (by decide) fun cdv A outer s H E room grd => ?_
  have tk : Takes (cxOf (L2.CX P w) P w K mg base ["height", "guess"] "_law_counted" (defScope s__law_counted) a__law_counted cdv A outer s H E) (WE' E) := takes_of rfl rfl rfl rfl
  have pw := passW_of tk
  have room : Room 0 (cxOf (L2.CX P w) P w K mg base ["height", "guess"] "_law_counted" (defScope s__law_counted) a__law_counted cdv A outer s H E).A := room
  exact (dss_one (ds_ret (de_if (dt_cmp op_isN o_isN (de_var 0) de_non (nomark _)) (de_var 1) (de_var 0))))
theorem g__law_tree_told (T : Tx K mg) {a__law_tree_told : Addr} {d__law_tree_told : FuncData} (F__law_tree_told : Fun K "_law_tree_told" "_law_tree_told" s__law_tree_told a__law_tree_told d__law_tree_told) (M__law_tree_told : mg "_law_tree_told" = some (.ref a__law_tree_told)) {a__law_integer : Addr} {d__law_integer : FuncData} (F__law_integer : Fun K "_law_integer" "_law_integer" s__law_integer a__law_integer d__law_integer) (M__law_integer : mg "_law_integer" = some (.ref a__law_integer)) (g__law_integer : FnG P w K mg base 1 a__law_integer d__law_integer ["value"] (SpD K 1 (f__law_integer T.c))) {a__law_counted : Addr} {d__law_counted : FuncData} (F__law_counted : Fun K "_law_counted" "_law_counted" s__law_counted a__law_counted d__law_counted) (M__law_counted : mg "_law_counted" = some (.ref a__law_counted)) (g__law_counted : FnG P w K mg base 1 a__law_counted d__law_counted ["height", "guess"] (SpD K 2 (f__law_counted T.c))) : ∀ n : Nat, FnG P w K mg base (2 + n) a__law_tree_told d__law_tree_told ["guess", "tree"] (SpD K 2 (f__law_tree_told T.c n))
  | 0 => fng_zero
  | n + 1 => by
    have ih := g__law_tree_told T F__law_tree_told M__law_tree_told F__law_integer M__law_integer g__law_integer F__law_counted M__law_counted g__law_counted n
    refine fng_mk (k := 2 + n) F__law_tree_told sc__law_tree_told (by decide) fun cdv A outer s H E room grd => ?_
    have tk : Takes (cxOf (L2.CX P w) P w K mg base ["guess", "tree", "one", "other", "told"] "_law_tree_told" (defScope s__law_tree_told) a__law_tree_told cdv A outer s H E) (WE' E) := takes_of rfl rfl rfl rfl
    have pw := passW_of tk
    have room : Room (2 + n) (cxOf (L2.CX P w) P w K mg base ["guess", "tree", "one", "other", "told"] "_law_tree_told" (defScope s__law_tree_told) a__law_tree_told cdv A outer s H E).A := room
    exact (dss_cons (ds_if (dt_cmp op_isN o_isN (de_var 1) de_non (nomark _))
      (dss_one (ds_ret (de_tup (da_cons de_int (da_cons de_int (da_cons de_int da_nil))))))
      dss_nil)
      (dss_cons (ds_if (dt_w (dw_or (dt_not (dt_val (de_isi (T' := "tuple") (de_var 1) (by decide) (by decide +kernel) T.b_tuple T.b_isinstance))) (dw_or1 (dt_cmp (op_neD room.units) o_ne (de_callB call_len o_len T.b_len (by decide +kernel) (da_cons (de_var 1) da_nil)) de_int (nomark _)))))
      (dss_one (ds_ret de_non))
      dss_nil)
      (dss_cons (ds_par2 2 3 rfl sc__law_tree_told.nd (da_cons (de_call (n := 2) (ks := []) (pr := [0, 1]) ih (room.mono (by omega)) grd pw M__law_tree_told F__law_tree_told.kp (cbind_of F__law_tree_told fun _ _ _ _ _ _ us ws h1 h2 => match us, ws, h1, h2 with | [_, _], [], _, _ => rfl) rfl (by decide) (da_cons (de_var 0) (da_cons (de_ix (de_var 1) de_int) da_nil)) dk_nil) (da_cons (de_call (n := 2) (ks := []) (pr := [0, 1]) ih (room.mono (by omega)) grd pw M__law_tree_told F__law_tree_told.kp (cbind_of F__law_tree_told fun _ _ _ _ _ _ us ws h1 h2 => match us, ws, h1, h2 with | [_, _], [], _, _ => rfl) rfl (by decide) (da_cons (de_var 0) (da_cons (de_ix (de_var 1) de_int) da_nil)) dk_nil) da_nil)))
      (dss_cons (ds_if (dt_w (dw_or (dt_cmp op_isN o_isN (de_var 2) de_non (nomark _)) (dw_or (dt_cmp op_isN o_isN (de_var 3) de_non (nomark _)) (dw_or1 (dt_cmp op_gt o_gt (de_callB call_abs o_abs T.b_abs (by decide +kernel) (da_cons (de_bin op_sub o_sub (de_ix (de_var 2) de_int) (de_ix (de_var 3) de_int)) da_nil)) de_int (nomark _))))))
      (dss_one (ds_ret de_non))
      dss_nil)
      (dss_cons (ds_if (dt_w (dw_and (dt_cmp op_notN o_notN (de_ix (de_var 1) de_int) de_non (nomark _)) (dw_and1 (dt_w (dw_or (dt_not (dt_val (de_call (n := 1) (ks := []) (pr := [0]) g__law_integer (room.mono (by omega)) grd pw M__law_integer F__law_integer.kp (cbind_of F__law_integer fun _ _ _ _ _ _ us ws h1 h2 => match us, ws, h1, h2 with | [_], [], _, _ => rfl) rfl (by decide) (da_cons (de_ix (de_var 1) de_int) da_nil) dk_nil))) (dw_or1 (dt_cmp op_lt o_lt (de_ix (de_var 1) de_int) de_int (nomark _))))))))
      (dss_one (ds_ret de_non))
      dss_nil)
      (dss_cons (ds_set 4 sc__law_tree_told.nd (de_tup (da_cons (de_bin op_add4 o_add (de_bin op_add4 o_add (de_ix (de_var 2) de_int) de_int) (de_ix (de_var 3) de_int)) (da_cons (de_bin op_add4 o_add (de_bin op_add4 o_add (de_ix (de_var 2) de_int) (de_call (n := 2) (ks := []) (pr := [0, 1]) g__law_counted (room.mono (by omega)) grd pw M__law_counted F__law_counted.kp (cbind_of F__law_counted fun _ _ _ _ _ _ us ws h1 h2 => match us, ws, h1, h2 with | [_, _], [], _, _ => rfl) rfl (by decide) (da_cons (de_ix (de_var 1) de_int) (da_cons (de_var 0) da_nil)) dk_nil)) (de_ix (de_var 3) de_int)) da_nil))))
      (dss_cons (ds_if (dt_w (dw_or (dt_not (dt_val (de_call (n := 1) (ks := []) (pr := [0]) g__law_integer (room.mono (by omega)) grd pw M__law_integer F__law_integer.kp (cbind_of F__law_integer fun _ _ _ _ _ _ us ws h1 h2 => match us, ws, h1, h2 with | [_], [], _, _ => rfl) rfl (by decide) (da_cons (de_ix (de_var 1) de_int) da_nil) dk_nil))) (dw_or (dt_not (dt_val (de_call (n := 1) (ks := []) (pr := [0]) g__law_integer (room.mono (by omega)) grd pw M__law_integer F__law_integer.kp (cbind_of F__law_integer fun _ _ _ _ _ _ us ws h1 h2 => match us, ws, h1, h2 with | [_], [], _, _ => rfl) rfl (by decide) (da_cons (de_ix (de_var 1) de_int) da_nil) dk_nil))) (dw_or1 (dt_cmp (op_neD room.units) o_ne (de_var 4) (de_slice (de_var 1) (do_some de_int) do_none) (nomark _))))))
      (dss_one (ds_ret de_non))
      dss_nil)
      (dss_one (ds_ret (de_bin op_add4 o_add (de_var 4) (de_tup (da_cons (de_bin op_add4 o_add de_int (de_callB (call_max2 rfl) o_max2 T.b_max (by decide +kernel) (da_cons (de_ix (de_var 2) de_int) (da_cons (de_ix (de_var 3) de_int) da_nil)))) da_nil))))))))))))
theorem g__law_same (T : Tx K mg) {a__law_same : Addr} {d__law_same : FuncData} (F__law_same : Fun K "_law_same" "_law_same" s__law_same a__law_same d__law_same) (M__law_same : mg "_law_same" = some (.ref a__law_same)) : ∀ n : Nat, FnG P w K mg base (1 + n) a__law_same d__law_same ["found", "due"] (SpD K 2 (f__law_same T.c n))
  | 0 => fng_zero
  | n + 1 => by
    have ih := g__law_same T F__law_same M__law_same n
    refine fng_mk (k := 1 + n) F__law_same sc__law_same (by decide) fun cdv A outer s H E room grd => ?_
    have tk : Takes (cxOf (L2.CX P w) P w K mg base ["found", "due", "at"] "_law_same" (defScope s__law_same) a__law_same cdv A outer s H E) (WE' E) := takes_of rfl rfl rfl rfl
    have pw := passW_of tk
    have room : Room (1 + n) (cxOf (L2.CX P w) P w K mg base ["found", "due", "at"] "_law_same" (defScope s__law_same) a__law_same cdv A outer s H E).A := room
    exact (dss_cons (ds_if (dt_w (dw_or (dt_val (de_isi (T' := "list") (de_var 1) (by decide) (by decide +kernel) T.b_list T.b_isinstance)) (dw_or1 (dt_val (de_isi (T' := "tuple") (de_var 1) (by decide) (by decide +kernel) T.b_tuple T.b_isinstance)))))
      (dss_cons (ds_if (dt_w (dw_or (dt_cmp (op_neD room.units) o_ne (de_isi (T' := "list") (de_var 0) (by decide) (by decide +kernel) T.b_list T.b_isinstance) (de_isi (T' := "list") (de_var 1) (by decide) (by decide +kernel) T.b_list T.b_isinstance) (nomark _)) (dw_or1 (dt_cmp (op_neD room.units) o_ne (de_isi (T' := "tuple") (de_var 0) (by decide) (by decide +kernel) T.b_tuple T.b_isinstance) (de_isi (T' := "tuple") (de_var 1) (by decide) (by decide +kernel) T.b_tuple T.b_isinstance) (nomark _)))))
      (dss_one (ds_ret de_bl))
      dss_nil)
      (dss_one (ds_ret (de_and (de_cmp (op_eqD room.units) o_eq (de_callB call_len o_len T.b_len (by decide +kernel) (da_cons (de_var 0) da_nil)) (de_callB call_len o_len T.b_len (by decide +kernel) (da_cons (de_var 1) da_nil)) (nomark _)) (de_one (de_callB (cr_all rfl) o_all T.b_all (by decide +kernel) (da_cons (de_p (dl_lc (own := [("at", 2)]) rfl sc__law_same.nd (di_range1 (da_cons (de_callB call_len o_len T.b_len (by decide +kernel) (da_cons (de_var 1) da_nil)) da_nil) T.b_range) (blkOk_by (by kernel_rfl)) (fun _ _ _ _ _ => (dg_name 2 sc__law_same.nd)) (fun _ _ _ _ _ => dts_nil) (fun _ _ _ _ _ => (de_call (n := 2) (ks := []) (pr := [0, 1]) ih (room.mono (by omega)) grd passW_0 M__law_same F__law_same.kp (cbind_of F__law_same fun _ _ _ _ _ _ us ws h1 h2 => match us, ws, h1, h2 with | [_, _], [], _, _ => rfl) rfl (by decide) (da_cons (de_ix (de_var 0) (de_var 2)) (da_cons (de_ix (de_var 1) (de_var 2)) da_nil)) dk_nil)))) da_nil)))))))
      dss_nil)
      (dss_cons (ds_if (dt_val (de_isi (T' := "bool") (de_var 1) (by decide) (by decide +kernel) T.b_bool T.b_isinstance))
      (dss_one (ds_ret (de_and (de_isi (T' := "bool") (de_var 0) (by decide) (by decide +kernel) T.b_bool T.b_isinstance) (de_one (de_cmp (op_eqD room.units) o_eq (de_var 0) (de_var 1) (nomark _))))))
      dss_nil)
      (dss_cons (ds_if (dt_val (de_isi (T' := "int") (de_var 1) (by decide) (by decide +kernel) T.b_int T.b_isinstance))
      (dss_one (ds_ret (de_and (de_isi (T' := "int") (de_var 0) (by decide) (by decide +kernel) T.b_int T.b_isinstance) (de_and (de_not (de_isi (T' := "bool") (de_var 0) (by decide) (by decide +kernel) T.b_bool T.b_isinstance)) (de_one (de_cmp (op_eqD room.units) o_eq (de_var 0) (de_var 1) (nomark _)))))))
      dss_nil)
      (dss_cons (ds_if (dt_val (de_isi (T' := "str") (de_var 1) (by decide) (by decide +kernel) T.b_str T.b_isinstance))
      (dss_one (ds_ret (de_and (de_isi (T' := "str") (de_var 0) (by decide) (by decide +kernel) T.b_str T.b_isinstance) (de_one (de_cmp (op_eqD room.units) o_eq (de_var 0) (de_var 1) (nomark _))))))
      dss_nil)
      (dss_one (ds_ret (de_and (de_cmp op_isN o_isN (de_var 0) de_non (nomark _)) (de_one (de_cmp op_isN o_isN (de_var 1) de_non (nomark _))))))))))
theorem g_need_guess (T : Tx K mg) {a_need_guess : Addr} {d_need_guess : FuncData} (F_need_guess : Fun K "need_guess" "need_guess" s_need_guess a_need_guess d_need_guess) : FnG P w K mg base 1 a_need_guess d_need_guess ["guess"] (SpD K 1 (f_need_guess T.c)) := by
  refine fng_mk (k := 0) F_need_guess sc_need_guess (by decide) fun cdv A outer s H E room grd => ?_
  have tk : Takes (cxOf (L2.CX P w) P w K mg base ["guess"] "need_guess" (defScope s_need_guess) a_need_guess cdv A outer s H E) (WE' E) := takes_of rfl rfl rfl rfl
  have pw := passW_of tk
  have room : Room 0 (cxOf (L2.CX P w) P w K mg base ["guess"] "need_guess" (defScope s_need_guess) a_need_guess cdv A outer s H E).A := room
  exact (dss_one (ds_if (dt_cmp op_lt o_lt (de_var 0) de_int (nomark _))
      (dss_one ds_no)
      dss_nil))
theorem g_Heights___init__ (T : Tx K mg) {a_Heights___init__ : Addr} {d_Heights___init__ : FuncData} (F_Heights___init__ : Fun K "__init__" "Heights.__init__" s_Heights___init__ a_Heights___init__ d_Heights___init__) {a_need_guess : Addr} {d_need_guess : FuncData} (F_need_guess : Fun K "need_guess" "need_guess" s_need_guess a_need_guess d_need_guess) (M_need_guess : mg "need_guess" = some (.ref a_need_guess)) (g_need_guess : FnG P w K mg base 1 a_need_guess d_need_guess ["guess"] (SpD K 1 (f_need_guess T.c))) : FnG P w K mg base 2 a_Heights___init__ d_Heights___init__ ["self", "guess"] (SpD K 2 (f_Heights___init__ T.c)) := by
  refine fng_mk (k := 1) F_Heights___init__ sc_Heights___init__ (by decide) fun cdv A outer s H E room grd => ?_
  have tk : Takes (cxOf (L2.CX P w) P w K mg base ["self", "guess"] "Heights.__init__" (defScope s_Heights___init__) a_Heights___init__ cdv A outer s H E) (WE' E) := takes_of rfl rfl rfl rfl
  have pw := passW_of tk
  have room : Room 1 (cxOf (L2.CX P w) P w K mg base ["self", "guess"] "Heights.__init__" (defScope s_Heights___init__) a_Heights___init__ cdv A outer s H E).A := room
  exact (dss_cons (ds_expr (de_call (n := 1) (ks := []) (pr := [0]) g_need_guess (room.mono (by decide)) grd pw M_need_guess F_need_guess.kp (cbind_of F_need_guess fun _ _ _ _ _ _ us ws h1 h2 => match us, ws, h1, h2 with | [_], [], _, _ => rfl) rfl (by decide) (da_cons (de_var 1) da_nil) dk_nil))
      (dss_cons (ds_fld T.cl_Heights T.na_Heights_guess (de_var 1) (de_var 0))
      (dss_cons (ds_fld T.cl_Heights T.na_Heights_root de_non (de_var 0))
      (dss_cons (ds_fld T.cl_Heights T.na_Heights_known_ones de_int (de_var 0))
      (dss_one (ds_fld T.cl_Heights T.na_Heights_many de_int (de_var 0)))))))
theorem g_plain_tree (T : Tx K mg) {a_plain_tree : Addr} {d_plain_tree : FuncData} (F_plain_tree : Fun K "plain_tree" "plain_tree" s_plain_tree a_plain_tree d_plain_tree) (M_plain_tree : mg "plain_tree" = some (.ref a_plain_tree)) : ∀ n : Nat, FnG P w K mg base (1 + n) a_plain_tree d_plain_tree ["node"] (SpD K 1 (f_plain_tree T.c n))
  | 0 => fng_zero
  | n + 1 => by
    have ih := g_plain_tree T F_plain_tree M_plain_tree n
    refine fng_mk (k := 1 + n) F_plain_tree sc_plain_tree (by decide) fun cdv A outer s H E room grd => ?_
    have tk : Takes (cxOf (L2.CX P w) P w K mg base ["node", "left", "height", "right", "rows", "total", "depth"] "plain_tree" (defScope s_plain_tree) a_plain_tree cdv A outer s H E) (WE' E) := takes_of rfl rfl rfl rfl
    have pw := passW_of tk
    have room : Room (1 + n) (cxOf (L2.CX P w) P w K mg base ["node", "left", "height", "right", "rows", "total", "depth"] "plain_tree" (defScope s_plain_tree) a_plain_tree cdv A outer s H E).A := room
    exact (dss_cons (ds_if (dt_cmp op_isN o_isN (de_var 0) de_non (nomark _))
      (dss_one (ds_ret de_non))
      dss_nil)
      (dss_cons (ds_asg (de_var 0) (dg_tup rfl (dgs_cons (dg_name 1 sc_plain_tree.nd) (dgs_cons (dg_name 2 sc_plain_tree.nd) (dgs_cons (dg_name 3 sc_plain_tree.nd) (dgs_cons (dg_name 4 sc_plain_tree.nd) (dgs_cons (dg_name 5 sc_plain_tree.nd) (dgs_cons (dg_name 6 sc_plain_tree.nd) dgs_nil))))))))
      (dss_one (ds_ret (de_tup (da_cons (de_call (n := 1) (ks := []) (pr := [0]) ih (room.mono (by omega)) grd pw M_plain_tree F_plain_tree.kp (cbind_of F_plain_tree fun _ _ _ _ _ _ us ws h1 h2 => match us, ws, h1, h2 with | [_], [], _, _ => rfl) rfl (by decide) (da_cons (de_var 1) da_nil) dk_nil) (da_cons (de_var 2) (da_cons (de_call (n := 1) (ks := []) (pr := [0]) ih (room.mono (by omega)) grd pw M_plain_tree F_plain_tree.kp (cbind_of F_plain_tree fun _ _ _ _ _ _ us ws h1 h2 => match us, ws, h1, h2 with | [_], [], _, _ => rfl) rfl (by decide) (da_cons (de_var 3) da_nil) dk_nil) (da_cons (de_var 4) (da_cons (de_var 5) da_nil))))))))))
theorem g_Heights_tree (T : Tx K mg) {a_Heights_tree : Addr} {d_Heights_tree : FuncData} (F_Heights_tree : Fun K "tree" "Heights.tree" s_Heights_tree a_Heights_tree d_Heights_tree) {a_plain_tree : Addr} {d_plain_tree : FuncData} (F_plain_tree : Fun K "plain_tree" "plain_tree" s_plain_tree a_plain_tree d_plain_tree) (M_plain_tree : mg "plain_tree" = some (.ref a_plain_tree)) (g_plain_tree : ∀ n : Nat, FnG P w K mg base (1 + n) a_plain_tree d_plain_tree ["node"] (SpD K 1 (f_plain_tree T.c n))) : FnG P w K mg base 22 a_Heights_tree d_Heights_tree ["self"] (SpD K 1 (f_Heights_tree T.c)) := by
  refine fng_mk (k := 21) F_Heights_tree sc_Heights_tree (by decide) fun cdv A outer s H E room grd => ?_
  have tk : Takes (cxOf (L2.CX P w) P w K mg base ["self"] "Heights.tree" (defScope s_Heights_tree) a_Heights_tree cdv A outer s H E) (WE' E) := takes_of rfl rfl rfl rfl
  have pw := passW_of tk
  have room : Room 21 (cxOf (L2.CX P w) P w K mg base ["self"] "Heights.tree" (defScope s_Heights_tree) a_Heights_tree cdv A outer s H E).A := room
  exact (dss_one (ds_ret (de_call (n := 1) (ks := []) (pr := [0]) (g_plain_tree 20) (room.mono (by decide)) grd pw M_plain_tree F_plain_tree.kp (cbind_of F_plain_tree fun _ _ _ _ _ _ us ws h1 h2 => match us, ws, h1, h2 with | [_], [], _, _ => rfl) rfl (by decide) (da_cons (de_fld T.cl_Heights T.na_Heights_root (de_var 0)) da_nil) dk_nil)))
theorem g_heights_of (T : Tx K mg) {a_heights_of : Addr} {d_heights_of : FuncData} (F_heights_of : Fun K "heights_of" "heights_of" s_heights_of a_heights_of d_heights_of) (M_heights_of : mg "heights_of" = some (.ref a_heights_of)) : ∀ n : Nat, FnG P w K mg base (1 + n) a_heights_of d_heights_of ["node"] (SpD K 1 (f_heights_of T.c n))
  | 0 => fng_zero
  | n + 1 => by
    have ih := g_heights_of T F_heights_of M_heights_of n
    refine fng_mk (k := 1 + n) F_heights_of sc_heights_of (by decide) fun cdv A outer s H E room grd => ?_
    have tk : Takes (cxOf (L2.CX P w) P w K mg base ["node"] "heights_of" (defScope s_heights_of) a_heights_of cdv A outer s H E) (WE' E) := takes_of rfl rfl rfl rfl
    have pw := passW_of tk
    have room : Room (1 + n) (cxOf (L2.CX P w) P w K mg base ["node"] "heights_of" (defScope s_heights_of) a_heights_of cdv A outer s H E).A := room
    exact (dss_cons (ds_if (dt_cmp op_isN o_isN (de_var 0) de_non (nomark _))
      (dss_one (ds_ret (de_p (dl_lst da_nil))))
      dss_nil)
      (dss_one (ds_ret (de_bin op_add4 o_add (de_bin op_add4 o_add (de_call (n := 1) (ks := []) (pr := [0]) ih (room.mono (by omega)) grd pw M_heights_of F_heights_of.kp (cbind_of F_heights_of fun _ _ _ _ _ _ us ws h1 h2 => match us, ws, h1, h2 with | [_], [], _, _ => rfl) rfl (by decide) (da_cons (de_ix (de_var 0) de_int) da_nil) dk_nil) (de_p (dl_lst (da_cons (de_ix (de_var 0) de_int) da_nil)))) (de_call (n := 1) (ks := []) (pr := [0]) ih (room.mono (by omega)) grd pw M_heights_of F_heights_of.kp (cbind_of F_heights_of fun _ _ _ _ _ _ us ws h1 h2 => match us, ws, h1, h2 with | [_], [], _, _ => rfl) rfl (by decide) (da_cons (de_ix (de_var 0) de_int) da_nil) dk_nil)))))
theorem g_heights_in (T : Tx K mg) {a_heights_in : Addr} {d_heights_in : FuncData} (F_heights_in : Fun K "heights_in" "heights_in" s_heights_in a_heights_in d_heights_in) {a_heights_of : Addr} {d_heights_of : FuncData} (F_heights_of : Fun K "heights_of" "heights_of" s_heights_of a_heights_of d_heights_of) (M_heights_of : mg "heights_of" = some (.ref a_heights_of)) (g_heights_of : ∀ n : Nat, FnG P w K mg base (1 + n) a_heights_of d_heights_of ["node"] (SpD K 1 (f_heights_of T.c n))) : FnG P w K mg base 22 a_heights_in d_heights_in ["tree"] (SpD K 1 (f_heights_in T.c)) := by
  refine fng_mk (k := 21) F_heights_in sc_heights_in (by decide) fun cdv A outer s H E room grd => ?_
  have tk : Takes (cxOf (L2.CX P w) P w K mg base ["tree"] "heights_in" (defScope s_heights_in) a_heights_in cdv A outer s H E) (WE' E) := takes_of rfl rfl rfl rfl
  have pw := passW_of tk
  have room : Room 21 (cxOf (L2.CX P w) P w K mg base ["tree"] "heights_in" (defScope s_heights_in) a_heights_in cdv A outer s H E).A := room
  exact (dss_one (ds_ret (de_call (n := 1) (ks := []) (pr := [0]) (g_heights_of 20) (room.mono (by decide)) grd pw M_heights_of F_heights_of.kp (cbind_of F_heights_of fun _ _ _ _ _ _ us ws h1 h2 => match us, ws, h1, h2 with | [_], [], _, _ => rfl) rfl (by decide) (da_cons (de_var 0) da_nil) dk_nil)))
theorem g__law_draw (T : Tx K mg) {a__law_draw : Addr} {d__law_draw : FuncData} (F__law_draw : Fun K "_law_draw" "_law_draw" s__law_draw a__law_draw d__law_draw) : FnG P w K mg base 1 a__law_draw d__law_draw ["deck", "many"] (SpD K 2 (f__law_draw T.c)) := by
  refine fng_mk (k := 0) F__law_draw sc__law_draw (by decide) fun cdv A outer s H E room grd => ?_
  have tk : Takes (cxOf (L2.CX P w) P w K mg base ["deck", "many", "found", "mixed"] "_law_draw" (defScope s__law_draw) a__law_draw cdv A outer s H E) (WE' E) := takes_of rfl rfl rfl rfl
  have pw := passW_of tk
  have room : Room 0 (cxOf (L2.CX P w) P w K mg base ["deck", "many", "found", "mixed"] "_law_draw" (defScope s__law_draw) a__law_draw cdv A outer s H E).A := room
  exact (dss_cons (ds_if (dt_cmp op_gt o_gt (de_ix (de_var 0) de_int) de_int (nomark _))
      (dss_cons (ds_set 2 sc__law_draw.nd (de_bin op_mod o_mod (de_callT call_int1 o_int T.b_int (by decide +kernel) (da_cons (de_ix (de_var 0) de_int) da_nil)) (de_var 1)))
      (dss_cons (ds_ixset (de_bin op_fdiv o_fdiv (de_ix (de_var 0) de_int) (de_var 1)) (de_var 0) de_int)
      (dss_one (ds_ret (de_var 2)))))
      dss_nil)
      (dss_cons (ds_ixset (de_bin op_add4 o_add (de_ix (de_var 0) de_int) de_int) (de_var 0) de_int)
      (dss_cons (ds_set 3 sc__law_draw.nd (de_bin op_mod o_mod (de_callT call_int1 o_int T.b_int (by decide +kernel) (da_cons (de_bin op_add4 o_add (de_bin op_powW o_pow (de_bin op_add4 o_add (de_ix (de_var 0) de_int) (de_bin op_mulX o_mulX de_int (de_ix (de_var 0) de_int))) de_int) (de_bin op_mulX o_mulX de_int (de_ix (de_var 0) de_int))) da_nil)) (de_bin op_add4 o_add (de_bin op_powW o_pow de_int de_int) de_int)))
      (dss_cons (ds_set 3 sc__law_draw.nd (de_bin op_mod o_mod (de_callT call_int1 o_int T.b_int (by decide +kernel) (da_cons (de_bin op_add4 o_add (de_bin op_add4 o_add (de_bin op_mulX o_mulX (de_var 3) (de_var 3)) (de_ix (de_var 0) de_int)) de_int) da_nil)) (de_bin op_add4 o_add (de_bin op_powW o_pow de_int de_int) de_int)))
      (dss_one (ds_ret (de_bin op_mod o_mod (de_callT call_int1 o_int T.b_int (by decide +kernel) (da_cons (de_bin op_fdiv o_fdiv (de_var 3) de_int) da_nil)) (de_var 1))))))))
theorem g__law_height (T : Tx K mg) {a__law_height : Addr} {d__law_height : FuncData} (F__law_height : Fun K "_law_height" "_law_height" s__law_height a__law_height d__law_height) {a__law_draw : Addr} {d__law_draw : FuncData} (F__law_draw : Fun K "_law_draw" "_law_draw" s__law_draw a__law_draw d__law_draw) (M__law_draw : mg "_law_draw" = some (.ref a__law_draw)) (g__law_draw : FnG P w K mg base 1 a__law_draw d__law_draw ["deck", "many"] (SpD K 2 (f__law_draw T.c))) : FnG P w K mg base 2 a__law_height d__law_height ["deck"] (SpD K 1 (f__law_height T.c)) := by
  refine fng_mk (k := 1) F__law_height sc__law_height (by decide) fun cdv A outer s H E room grd => ?_
  have tk : Takes (cxOf (L2.CX P w) P w K mg base ["deck"] "_law_height" (defScope s__law_height) a__law_height cdv A outer s H E) (WE' E) := takes_of rfl rfl rfl rfl
  have pw := passW_of tk
  have room : Room 1 (cxOf (L2.CX P w) P w K mg base ["deck"] "_law_height" (defScope s__law_height) a__law_height cdv A outer s H E).A := room
  exact (dss_one (ds_ret (de_ix (de_p (dl_lst (da_cons de_non (da_cons de_int (da_cons de_int (da_cons (de_call (n := 2) (ks := []) (pr := [0, 1]) g__law_draw (room.mono (by decide)) grd pw M__law_draw F__law_draw.kp (cbind_of F__law_draw fun _ _ _ _ _ _ us ws h1 h2 => match us, ws, h1, h2 with | [_, _], [], _, _ => rfl) rfl (by decide) (da_cons (de_var 0) (da_cons de_int da_nil)) dk_nil) (da_cons (de_call (n := 2) (ks := []) (pr := [0, 1]) g__law_draw (room.mono (by decide)) grd pw M__law_draw F__law_draw.kp (cbind_of F__law_draw fun _ _ _ _ _ _ us ws h1 h2 => match us, ws, h1, h2 with | [_, _], [], _, _ => rfl) rfl (by decide) (da_cons (de_var 0) (da_cons de_int da_nil)) dk_nil) (da_cons (de_bin op_powW o_pow de_int de_int) (da_cons de_non da_nil))))))))) (de_call (n := 2) (ks := []) (pr := [0, 1]) g__law_draw (room.mono (by decide)) grd pw M__law_draw F__law_draw.kp (cbind_of F__law_draw fun _ _ _ _ _ _ us ws h1 h2 => match us, ws, h1, h2 with | [_, _], [], _, _ => rfl) rfl (by decide) (da_cons (de_var 0) (da_cons de_int da_nil)) dk_nil))))
theorem g_Heights_need_index (T : Tx K mg) {a_Heights_need_index : Addr} {d_Heights_need_index : FuncData} (F_Heights_need_index : Fun K "need_index" "Heights.need_index" s_Heights_need_index a_Heights_need_index d_Heights_need_index) : FnG P w K mg base 1 a_Heights_need_index d_Heights_need_index ["self", "index", "many"] (SpD K 3 (f_Heights_need_index T.c)) := by
  refine fng_mk (k := 0) F_Heights_need_index sc_Heights_need_index (by decide) fun cdv A outer s H E room grd => ?_
  have tk : Takes (cxOf (L2.CX P w) P w K mg base ["self", "index", "many"] "Heights.need_index" (defScope s_Heights_need_index) a_Heights_need_index cdv A outer s H E) (WE' E) := takes_of rfl rfl rfl rfl
  have pw := passW_of tk
  have room : Room 0 (cxOf (L2.CX P w) P w K mg base ["self", "index", "many"] "Heights.need_index" (defScope s_Heights_need_index) a_Heights_need_index cdv A outer s H E).A := room
  exact (dss_one (ds_if (dt_not (dt_chain op_le op_lt o_le o_lt de_int (de_var 1) (de_var 2)))
      (dss_one ds_no)
      dss_nil))
theorem g_need_height (T : Tx K mg) {a_need_height : Addr} {d_need_height : FuncData} (F_need_height : Fun K "need_height" "need_height" s_need_height a_need_height d_need_height) : FnG P w K mg base 1 a_need_height d_need_height ["height"] (SpD K 1 (f_need_height T.c)) := by
  refine fng_mk (k := 0) F_need_height sc_need_height (by decide) fun cdv A outer s H E room grd => ?_
  have tk : Takes (cxOf (L2.CX P w) P w K mg base ["height"] "need_height" (defScope s_need_height) a_need_height cdv A outer s H E) (WE' E) := takes_of rfl rfl rfl rfl
  have pw := passW_of tk
  have room : Room 0 (cxOf (L2.CX P w) P w K mg base ["height"] "need_height" (defScope s_need_height) a_need_height cdv A outer s H E).A := room
  exact (dss_one (ds_if (dt_w (dw_and (dt_cmp op_notN o_notN (de_var 0) de_non (nomark _)) (dw_and1 (dt_cmp op_lt o_lt (de_var 0) de_int (nomark _)))))
      (dss_one ds_no)
      dss_nil))
theorem g_rows_of (T : Tx K mg) {a_rows_of : Addr} {d_rows_of : FuncData} (F_rows_of : Fun K "rows_of" "rows_of" s_rows_of a_rows_of d_rows_of) : FnG P w K mg base 1 a_rows_of d_rows_of ["node"] (SpD K 1 (f_rows_of T.c)) := by
  refine fng_mk (k := 0) F_rows_of sc_rows_of (by decide) fun cdv A outer s H E room grd => ?_
  have tk : Takes (cxOf (L2.CX P w) P w K mg base ["node"] "rows_of" (defScope s_rows_of) a_rows_of cdv A outer s H E) (WE' E) := takes_of rfl rfl rfl rfl
  have pw := passW_of tk
  have room : Room 0 (cxOf (L2.CX P w) P w K mg base ["node"] "rows_of" (defScope s_rows_of) a_rows_of cdv A outer s H E).A := room
  exact (dss_one (ds_ret (de_if (dt_cmp op_isN o_isN (de_var 0) de_non (nomark _)) de_int (de_ix (de_var 0) de_int))))
theorem g_total_of (T : Tx K mg) {a_total_of : Addr} {d_total_of : FuncData} (F_total_of : Fun K "total_of" "total_of" s_total_of a_total_of d_total_of) : FnG P w K mg base 1 a_total_of d_total_of ["node"] (SpD K 1 (f_total_of T.c)) := by
  refine fng_mk (k := 0) F_total_of sc_total_of (by decide) fun cdv A outer s H E room grd => ?_
  have tk : Takes (cxOf (L2.CX P w) P w K mg base ["node"] "total_of" (defScope s_total_of) a_total_of cdv A outer s H E) (WE' E) := takes_of rfl rfl rfl rfl
  have pw := passW_of tk
  have room : Room 0 (cxOf (L2.CX P w) P w K mg base ["node"] "total_of" (defScope s_total_of) a_total_of cdv A outer s H E).A := room
  exact (dss_one (ds_ret (de_if (dt_cmp op_isN o_isN (de_var 0) de_non (nomark _)) de_int (de_ix (de_var 0) de_int))))
theorem g_counted (T : Tx K mg) {a_counted : Addr} {d_counted : FuncData} (F_counted : Fun K "counted" "counted" s_counted a_counted d_counted) : FnG P w K mg base 1 a_counted d_counted ["height", "guess"] (SpD K 2 (f_counted T.c)) := by
  refine fng_mk (k := 0) F_counted sc_counted (by decide) fun cdv A outer s H E room grd => ?_
  have tk : Takes (cxOf (L2.CX P w) P w K mg base ["height", "guess"] "counted" (defScope s_counted) a_counted cdv A outer s H E) (WE' E) := takes_of rfl rfl rfl rfl
  have pw := passW_of tk
  have room : Room 0 (cxOf (L2.CX P w) P w K mg base ["height", "guess"] "counted" (defScope s_counted) a_counted cdv A outer s H E).A := room
  exact (dss_one (ds_ret (de_if (dt_cmp op_isN o_isN (de_var 0) de_non (nomark _)) (de_var 1) (de_var 0))))
theorem g_depth_of (T : Tx K mg) {a_depth_of : Addr} {d_depth_of : FuncData} (F_depth_of : Fun K "depth_of" "depth_of" s_depth_of a_depth_of d_depth_of) : FnG P w K mg base 1 a_depth_of d_depth_of ["node"] (SpD K 1 (f_depth_of T.c)) := by
  refine fng_mk (k := 0) F_depth_of sc_depth_of (by decide) fun cdv A outer s H E room grd => ?_
  have tk : Takes (cxOf (L2.CX P w) P w K mg base ["node"] "depth_of" (defScope s_depth_of) a_depth_of cdv A outer s H E) (WE' E) := takes_of rfl rfl rfl rfl
  have pw := passW_of tk
  have room : Room 0 (cxOf (L2.CX P w) P w K mg base ["node"] "depth_of" (defScope s_depth_of) a_depth_of cdv A outer s H E).A := room
  exact (dss_one (ds_ret (de_if (dt_cmp op_isN o_isN (de_var 0) de_non (nomark _)) de_int (de_ix (de_var 0) de_int))))
theorem g_joined (T : Tx K mg) {a_joined : Addr} {d_joined : FuncData} (F_joined : Fun K "joined" "joined" s_joined a_joined d_joined) {a_rows_of : Addr} {d_rows_of : FuncData} (F_rows_of : Fun K "rows_of" "rows_of" s_rows_of a_rows_of d_rows_of) (M_rows_of : mg "rows_of" = some (.ref a_rows_of)) (g_rows_of : FnG P w K mg base 1 a_rows_of d_rows_of ["node"] (SpD K 1 (f_rows_of T.c))) {a_total_of : Addr} {d_total_of : FuncData} (F_total_of : Fun K "total_of" "total_of" s_total_of a_total_of d_total_of) (M_total_of : mg "total_of" = some (.ref a_total_of)) (g_total_of : FnG P w K mg base 1 a_total_of d_total_of ["node"] (SpD K 1 (f_total_of T.c))) {a_counted : Addr} {d_counted : FuncData} (F_counted : Fun K "counted" "counted" s_counted a_counted d_counted) (M_counted : mg "counted" = some (.ref a_counted)) (g_counted : FnG P w K mg base 1 a_counted d_counted ["height", "guess"] (SpD K 2 (f_counted T.c))) {a_depth_of : Addr} {d_depth_of : FuncData} (F_depth_of : Fun K "depth_of" "depth_of" s_depth_of a_depth_of d_depth_of) (M_depth_of : mg "depth_of" = some (.ref a_depth_of)) (g_depth_of : FnG P w K mg base 1 a_depth_of d_depth_of ["node"] (SpD K 1 (f_depth_of T.c))) : FnG P w K mg base 2 a_joined d_joined ["left", "height", "right", "guess"] (SpD K 4 (f_joined T.c)) := by
  refine fng_mk (k := 1) F_joined sc_joined (by decide) fun cdv A outer s H E room grd => ?_
  have tk : Takes (cxOf (L2.CX P w) P w K mg base ["left", "height", "right", "guess", "rows", "total"] "joined" (defScope s_joined) a_joined cdv A outer s H E) (WE' E) := takes_of rfl rfl rfl rfl
  have pw := passW_of tk
  have room : Room 1 (cxOf (L2.CX P w) P w K mg base ["left", "height", "right", "guess", "rows", "total"] "joined" (defScope s_joined) a_joined cdv A outer s H E).A := room
  exact (dss_cons (ds_set 4 sc_joined.nd (de_bin op_add4 o_add (de_bin op_add4 o_add (de_call (n := 1) (ks := []) (pr := [0]) g_rows_of (room.mono (by decide)) grd pw M_rows_of F_rows_of.kp (cbind_of F_rows_of fun _ _ _ _ _ _ us ws h1 h2 => match us, ws, h1, h2 with | [_], [], _, _ => rfl) rfl (by decide) (da_cons (de_var 0) da_nil) dk_nil) de_int) (de_call (n := 1) (ks := []) (pr := [0]) g_rows_of (room.mono (by decide)) grd pw M_rows_of F_rows_of.kp (cbind_of F_rows_of fun _ _ _ _ _ _ us ws h1 h2 => match us, ws, h1, h2 with | [_], [], _, _ => rfl) rfl (by decide) (da_cons (de_var 2) da_nil) dk_nil)))
      (dss_cons (ds_set 5 sc_joined.nd (de_bin op_add4 o_add (de_bin op_add4 o_add (de_call (n := 1) (ks := []) (pr := [0]) g_total_of (room.mono (by decide)) grd pw M_total_of F_total_of.kp (cbind_of F_total_of fun _ _ _ _ _ _ us ws h1 h2 => match us, ws, h1, h2 with | [_], [], _, _ => rfl) rfl (by decide) (da_cons (de_var 0) da_nil) dk_nil) (de_call (n := 2) (ks := []) (pr := [0, 1]) g_counted (room.mono (by decide)) grd pw M_counted F_counted.kp (cbind_of F_counted fun _ _ _ _ _ _ us ws h1 h2 => match us, ws, h1, h2 with | [_, _], [], _, _ => rfl) rfl (by decide) (da_cons (de_var 1) (da_cons (de_var 3) da_nil)) dk_nil)) (de_call (n := 1) (ks := []) (pr := [0]) g_total_of (room.mono (by decide)) grd pw M_total_of F_total_of.kp (cbind_of F_total_of fun _ _ _ _ _ _ us ws h1 h2 => match us, ws, h1, h2 with | [_], [], _, _ => rfl) rfl (by decide) (da_cons (de_var 2) da_nil) dk_nil)))
      (dss_one (ds_ret (de_tup (da_cons (de_var 0) (da_cons (de_var 1) (da_cons (de_var 2) (da_cons (de_var 4) (da_cons (de_var 5) (da_cons (de_bin op_add4 o_add de_int (de_callB (call_max2 rfl) o_max2 T.b_max (by decide +kernel) (da_cons (de_call (n := 1) (ks := []) (pr := [0]) g_depth_of (room.mono (by decide)) grd pw M_depth_of F_depth_of.kp (cbind_of F_depth_of fun _ _ _ _ _ _ us ws h1 h2 => match us, ws, h1, h2 with | [_], [], _, _ => rfl) rfl (by decide) (da_cons (de_var 0) da_nil) dk_nil) (da_cons (de_call (n := 1) (ks := []) (pr := [0]) g_depth_of (room.mono (by decide)) grd pw M_depth_of F_depth_of.kp (cbind_of F_depth_of fun _ _ _ _ _ _ us ws h1 h2 => match us, ws, h1, h2 with | [_], [], _, _ => rfl) rfl (by decide) (da_cons (de_var 2) da_nil) dk_nil) da_nil)))) da_nil)))))))))))
theorem g_balanced (T : Tx K mg) {a_balanced : Addr} {d_balanced : FuncData} (F_balanced : Fun K "balanced" "balanced" s_balanced a_balanced d_balanced) {a_joined : Addr} {d_joined : FuncData} (F_joined : Fun K "joined" "joined" s_joined a_joined d_joined) (M_joined : mg "joined" = some (.ref a_joined)) (g_joined : FnG P w K mg base 2 a_joined d_joined ["left", "height", "right", "guess"] (SpD K 4 (f_joined T.c))) {a_depth_of : Addr} {d_depth_of : FuncData} (F_depth_of : Fun K "depth_of" "depth_of" s_depth_of a_depth_of d_depth_of) (M_depth_of : mg "depth_of" = some (.ref a_depth_of)) (g_depth_of : FnG P w K mg base 1 a_depth_of d_depth_of ["node"] (SpD K 1 (f_depth_of T.c))) : FnG P w K mg base 3 a_balanced d_balanced ["left", "height", "right", "guess"] (SpD K 4 (f_balanced T.c)) := by
  refine fng_mk (k := 2) F_balanced sc_balanced (by decide) fun cdv A outer s H E room grd => ?_
  have tk : Takes (cxOf (L2.CX P w) P w K mg base ["left", "height", "right", "guess", "first", "own", "second", "one", "middle", "other"] "balanced" (defScope s_balanced) a_balanced cdv A outer s H E) (WE' E) := takes_of rfl rfl rfl rfl
  have pw := passW_of tk
  have room : Room 2 (cxOf (L2.CX P w) P w K mg base ["left", "height", "right", "guess", "first", "own", "second", "one", "middle", "other"] "balanced" (defScope s_balanced) a_balanced cdv A outer s H E).A := room
  exact (dss_cons (ds_if (dt_cmp op_gt o_gt (de_call (n := 1) (ks := []) (pr := [0]) g_depth_of (room.mono (by decide)) grd pw M_depth_of F_depth_of.kp (cbind_of F_depth_of fun _ _ _ _ _ _ us ws h1 h2 => match us, ws, h1, h2 with | [_], [], _, _ => rfl) rfl (by decide) (da_cons (de_var 0) da_nil) dk_nil) (de_bin op_add4 o_add (de_call (n := 1) (ks := []) (pr := [0]) g_depth_of (room.mono (by decide)) grd pw M_depth_of F_depth_of.kp (cbind_of F_depth_of fun _ _ _ _ _ _ us ws h1 h2 => match us, ws, h1, h2 with | [_], [], _, _ => rfl) rfl (by decide) (da_cons (de_var 2) da_nil) dk_nil) de_int) (nomark _))
      (dss_cons (ds_asg (de_slice (de_var 0) do_none (do_some de_int)) (dg_tup rfl (dgs_cons (dg_name 4 sc_balanced.nd) (dgs_cons (dg_name 5 sc_balanced.nd) (dgs_cons (dg_name 6 sc_balanced.nd) dgs_nil)))))
      (dss_cons (ds_if (dt_cmp op_ge o_ge (de_call (n := 1) (ks := []) (pr := [0]) g_depth_of (room.mono (by decide)) grd pw M_depth_of F_depth_of.kp (cbind_of F_depth_of fun _ _ _ _ _ _ us ws h1 h2 => match us, ws, h1, h2 with | [_], [], _, _ => rfl) rfl (by decide) (da_cons (de_var 4) da_nil) dk_nil) (de_call (n := 1) (ks := []) (pr := [0]) g_depth_of (room.mono (by decide)) grd pw M_depth_of F_depth_of.kp (cbind_of F_depth_of fun _ _ _ _ _ _ us ws h1 h2 => match us, ws, h1, h2 with | [_], [], _, _ => rfl) rfl (by decide) (da_cons (de_var 6) da_nil) dk_nil) (nomark _))
      (dss_one (ds_ret (de_call (n := 4) (ks := []) (pr := [0, 1, 2, 3]) g_joined (room.mono (by decide)) grd pw M_joined F_joined.kp (cbind_of F_joined fun _ _ _ _ _ _ us ws h1 h2 => match us, ws, h1, h2 with | [_, _, _, _], [], _, _ => rfl) rfl (by decide) (da_cons (de_var 4) (da_cons (de_var 5) (da_cons (de_call (n := 4) (ks := []) (pr := [0, 1, 2, 3]) g_joined (room.mono (by decide)) grd pw M_joined F_joined.kp (cbind_of F_joined fun _ _ _ _ _ _ us ws h1 h2 => match us, ws, h1, h2 with | [_, _, _, _], [], _, _ => rfl) rfl (by decide) (da_cons (de_var 6) (da_cons (de_var 1) (da_cons (de_var 2) (da_cons (de_var 3) da_nil)))) dk_nil) (da_cons (de_var 3) da_nil)))) dk_nil)))
      dss_nil)
      (dss_cons (ds_asg (de_slice (de_var 6) do_none (do_some de_int)) (dg_tup rfl (dgs_cons (dg_name 7 sc_balanced.nd) (dgs_cons (dg_name 8 sc_balanced.nd) (dgs_cons (dg_name 9 sc_balanced.nd) dgs_nil)))))
      (dss_one (ds_ret (de_call (n := 4) (ks := []) (pr := [0, 1, 2, 3]) g_joined (room.mono (by decide)) grd pw M_joined F_joined.kp (cbind_of F_joined fun _ _ _ _ _ _ us ws h1 h2 => match us, ws, h1, h2 with | [_, _, _, _], [], _, _ => rfl) rfl (by decide) (da_cons (de_call (n := 4) (ks := []) (pr := [0, 1, 2, 3]) g_joined (room.mono (by decide)) grd pw M_joined F_joined.kp (cbind_of F_joined fun _ _ _ _ _ _ us ws h1 h2 => match us, ws, h1, h2 with | [_, _, _, _], [], _, _ => rfl) rfl (by decide) (da_cons (de_var 4) (da_cons (de_var 5) (da_cons (de_var 7) (da_cons (de_var 3) da_nil)))) dk_nil) (da_cons (de_var 8) (da_cons (de_call (n := 4) (ks := []) (pr := [0, 1, 2, 3]) g_joined (room.mono (by decide)) grd pw M_joined F_joined.kp (cbind_of F_joined fun _ _ _ _ _ _ us ws h1 h2 => match us, ws, h1, h2 with | [_, _, _, _], [], _, _ => rfl) rfl (by decide) (da_cons (de_var 9) (da_cons (de_var 1) (da_cons (de_var 2) (da_cons (de_var 3) da_nil)))) dk_nil) (da_cons (de_var 3) da_nil)))) dk_nil))))))
      dss_nil)
      (dss_cons (ds_if (dt_cmp op_gt o_gt (de_call (n := 1) (ks := []) (pr := [0]) g_depth_of (room.mono (by decide)) grd pw M_depth_of F_depth_of.kp (cbind_of F_depth_of fun _ _ _ _ _ _ us ws h1 h2 => match us, ws, h1, h2 with | [_], [], _, _ => rfl) rfl (by decide) (da_cons (de_var 2) da_nil) dk_nil) (de_bin op_add4 o_add (de_call (n := 1) (ks := []) (pr := [0]) g_depth_of (room.mono (by decide)) grd pw M_depth_of F_depth_of.kp (cbind_of F_depth_of fun _ _ _ _ _ _ us ws h1 h2 => match us, ws, h1, h2 with | [_], [], _, _ => rfl) rfl (by decide) (da_cons (de_var 0) da_nil) dk_nil) de_int) (nomark _))
      (dss_cons (ds_asg (de_slice (de_var 2) do_none (do_some de_int)) (dg_tup rfl (dgs_cons (dg_name 4 sc_balanced.nd) (dgs_cons (dg_name 5 sc_balanced.nd) (dgs_cons (dg_name 6 sc_balanced.nd) dgs_nil)))))
      (dss_cons (ds_if (dt_cmp op_ge o_ge (de_call (n := 1) (ks := []) (pr := [0]) g_depth_of (room.mono (by decide)) grd pw M_depth_of F_depth_of.kp (cbind_of F_depth_of fun _ _ _ _ _ _ us ws h1 h2 => match us, ws, h1, h2 with | [_], [], _, _ => rfl) rfl (by decide) (da_cons (de_var 6) da_nil) dk_nil) (de_call (n := 1) (ks := []) (pr := [0]) g_depth_of (room.mono (by decide)) grd pw M_depth_of F_depth_of.kp (cbind_of F_depth_of fun _ _ _ _ _ _ us ws h1 h2 => match us, ws, h1, h2 with | [_], [], _, _ => rfl) rfl (by decide) (da_cons (de_var 4) da_nil) dk_nil) (nomark _))
      (dss_one (ds_ret (de_call (n := 4) (ks := []) (pr := [0, 1, 2, 3]) g_joined (room.mono (by decide)) grd pw M_joined F_joined.kp (cbind_of F_joined fun _ _ _ _ _ _ us ws h1 h2 => match us, ws, h1, h2 with | [_, _, _, _], [], _, _ => rfl) rfl (by decide) (da_cons (de_call (n := 4) (ks := []) (pr := [0, 1, 2, 3]) g_joined (room.mono (by decide)) grd pw M_joined F_joined.kp (cbind_of F_joined fun _ _ _ _ _ _ us ws h1 h2 => match us, ws, h1, h2 with | [_, _, _, _], [], _, _ => rfl) rfl (by decide) (da_cons (de_var 0) (da_cons (de_var 1) (da_cons (de_var 4) (da_cons (de_var 3) da_nil)))) dk_nil) (da_cons (de_var 5) (da_cons (de_var 6) (da_cons (de_var 3) da_nil)))) dk_nil)))
      dss_nil)
      (dss_cons (ds_asg (de_slice (de_var 4) do_none (do_some de_int)) (dg_tup rfl (dgs_cons (dg_name 7 sc_balanced.nd) (dgs_cons (dg_name 8 sc_balanced.nd) (dgs_cons (dg_name 9 sc_balanced.nd) dgs_nil)))))
      (dss_one (ds_ret (de_call (n := 4) (ks := []) (pr := [0, 1, 2, 3]) g_joined (room.mono (by decide)) grd pw M_joined F_joined.kp (cbind_of F_joined fun _ _ _ _ _ _ us ws h1 h2 => match us, ws, h1, h2 with | [_, _, _, _], [], _, _ => rfl) rfl (by decide) (da_cons (de_call (n := 4) (ks := []) (pr := [0, 1, 2, 3]) g_joined (room.mono (by decide)) grd pw M_joined F_joined.kp (cbind_of F_joined fun _ _ _ _ _ _ us ws h1 h2 => match us, ws, h1, h2 with | [_, _, _, _], [], _, _ => rfl) rfl (by decide) (da_cons (de_var 0) (da_cons (de_var 1) (da_cons (de_var 7) (da_cons (de_var 3) da_nil)))) dk_nil) (da_cons (de_var 8) (da_cons (de_call (n := 4) (ks := []) (pr := [0, 1, 2, 3]) g_joined (room.mono (by decide)) grd pw M_joined F_joined.kp (cbind_of F_joined fun _ _ _ _ _ _ us ws h1 h2 => match us, ws, h1, h2 with | [_, _, _, _], [], _, _ => rfl) rfl (by decide) (da_cons (de_var 9) (da_cons (de_var 5) (da_cons (de_var 6) (da_cons (de_var 3) da_nil)))) dk_nil) (da_cons (de_var 3) da_nil)))) dk_nil))))))
      dss_nil)
      (dss_one (ds_ret (de_call (n := 4) (ks := []) (pr := [0, 1, 2, 3]) g_joined (room.mono (by decide)) grd pw M_joined F_joined.kp (cbind_of F_joined fun _ _ _ _ _ _ us ws h1 h2 => match us, ws, h1, h2 with | [_, _, _, _], [], _, _ => rfl) rfl (by decide) (da_cons (de_var 0) (da_cons (de_var 1) (da_cons (de_var 2) (da_cons (de_var 3) da_nil)))) dk_nil)))))
theorem g_with_row (T : Tx K mg) {a_balanced : Addr} {d_balanced : FuncData} (F_balanced : Fun K "balanced" "balanced" s_balanced a_balanced d_balanced) (M_balanced : mg "balanced" = some (.ref a_balanced)) (g_balanced : FnG P w K mg base 3 a_balanced d_balanced ["left", "height", "right", "guess"] (SpD K 4 (f_balanced T.c))) {a_joined : Addr} {d_joined : FuncData} (F_joined : Fun K "joined" "joined" s_joined a_joined d_joined) (M_joined : mg "joined" = some (.ref a_joined)) (g_joined : FnG P w K mg base 2 a_joined d_joined ["left", "height", "right", "guess"] (SpD K 4 (f_joined T.c))) {a_rows_of : Addr} {d_rows_of : FuncData} (F_rows_of : Fun K "rows_of" "rows_of" s_rows_of a_rows_of d_rows_of) (M_rows_of : mg "rows_of" = some (.ref a_rows_of)) (g_rows_of : FnG P w K mg base 1 a_rows_of d_rows_of ["node"] (SpD K 1 (f_rows_of T.c))) {a_with_row : Addr} {d_with_row : FuncData} (F_with_row : Fun K "with_row" "with_row" s_with_row a_with_row d_with_row) (M_with_row : mg "with_row" = some (.ref a_with_row)) : ∀ n : Nat, FnG P w K mg base (4 + n) a_with_row d_with_row ["node", "index", "height", "guess"] (SpD K 4 (f_with_row T.c n))
  | 0 => fng_zero
  | n + 1 => by
    have ih := g_with_row T F_balanced M_balanced g_balanced F_joined M_joined g_joined F_rows_of M_rows_of g_rows_of F_with_row M_with_row n
    refine fng_mk (k := 4 + n) F_with_row sc_with_row (by decide) fun cdv A outer s H E room grd => ?_
    have tk : Takes (cxOf (L2.CX P w) P w K mg base ["node", "index", "height", "guess", "left", "own", "right"] "with_row" (defScope s_with_row) a_with_row cdv A outer s H E) (WE' E) := takes_of rfl rfl rfl rfl
    have pw := passW_of tk
    have room : Room (4 + n) (cxOf (L2.CX P w) P w K mg base ["node", "index", "height", "guess", "left", "own", "right"] "with_row" (defScope s_with_row) a_with_row cdv A outer s H E).A := room
    exact (dss_cons (ds_if (dt_cmp op_isN o_isN (de_var 0) de_non (nomark _))
      (dss_one (ds_ret (de_call (n := 4) (ks := []) (pr := [0, 1, 2, 3]) g_joined (room.mono (by omega)) grd pw M_joined F_joined.kp (cbind_of F_joined fun _ _ _ _ _ _ us ws h1 h2 => match us, ws, h1, h2 with | [_, _, _, _], [], _, _ => rfl) rfl (by decide) (da_cons de_non (da_cons (de_var 2) (da_cons de_non (da_cons (de_var 3) da_nil)))) dk_nil)))
      dss_nil)
      (dss_cons (ds_asg (de_slice (de_var 0) do_none (do_some de_int)) (dg_tup rfl (dgs_cons (dg_name 4 sc_with_row.nd) (dgs_cons (dg_name 5 sc_with_row.nd) (dgs_cons (dg_name 6 sc_with_row.nd) dgs_nil)))))
      (dss_cons (ds_if (dt_cmp op_le o_le (de_var 1) (de_call (n := 1) (ks := []) (pr := [0]) g_rows_of (room.mono (by omega)) grd pw M_rows_of F_rows_of.kp (cbind_of F_rows_of fun _ _ _ _ _ _ us ws h1 h2 => match us, ws, h1, h2 with | [_], [], _, _ => rfl) rfl (by decide) (da_cons (de_var 4) da_nil) dk_nil) (nomark _))
      (dss_one (ds_ret (de_call (n := 4) (ks := []) (pr := [0, 1, 2, 3]) g_balanced (room.mono (by omega)) grd pw M_balanced F_balanced.kp (cbind_of F_balanced fun _ _ _ _ _ _ us ws h1 h2 => match us, ws, h1, h2 with | [_, _, _, _], [], _, _ => rfl) rfl (by decide) (da_cons (de_call (n := 4) (ks := []) (pr := [0, 1, 2, 3]) ih (room.mono (by omega)) grd pw M_with_row F_with_row.kp (cbind_of F_with_row fun _ _ _ _ _ _ us ws h1 h2 => match us, ws, h1, h2 with | [_, _, _, _], [], _, _ => rfl) rfl (by decide) (da_cons (de_var 4) (da_cons (de_var 1) (da_cons (de_var 2) (da_cons (de_var 3) da_nil)))) dk_nil) (da_cons (de_var 5) (da_cons (de_var 6) (da_cons (de_var 3) da_nil)))) dk_nil)))
      dss_nil)
      (dss_one (ds_ret (de_call (n := 4) (ks := []) (pr := [0, 1, 2, 3]) g_balanced (room.mono (by omega)) grd pw M_balanced F_balanced.kp (cbind_of F_balanced fun _ _ _ _ _ _ us ws h1 h2 => match us, ws, h1, h2 with | [_, _, _, _], [], _, _ => rfl) rfl (by decide) (da_cons (de_var 4) (da_cons (de_var 5) (da_cons (de_call (n := 4) (ks := []) (pr := [0, 1, 2, 3]) ih (room.mono (by omega)) grd pw M_with_row F_with_row.kp (cbind_of F_with_row fun _ _ _ _ _ _ us ws h1 h2 => match us, ws, h1, h2 with | [_, _, _, _], [], _, _ => rfl) rfl (by decide) (da_cons (de_var 6) (da_cons (de_bin op_sub o_sub (de_bin op_sub o_sub (de_var 1) (de_call (n := 1) (ks := []) (pr := [0]) g_rows_of (room.mono (by omega)) grd pw M_rows_of F_rows_of.kp (cbind_of F_rows_of fun _ _ _ _ _ _ us ws h1 h2 => match us, ws, h1, h2 with | [_], [], _, _ => rfl) rfl (by decide) (da_cons (de_var 4) da_nil) dk_nil)) de_int) (da_cons (de_var 2) (da_cons (de_var 3) da_nil)))) dk_nil) (da_cons (de_var 3) da_nil)))) dk_nil))))))
theorem g_Heights_insert (T : Tx K mg) {a_Heights_insert : Addr} {d_Heights_insert : FuncData} (F_Heights_insert : Fun K "insert" "Heights.insert" s_Heights_insert a_Heights_insert d_Heights_insert) {a_Heights_need_index : Addr} {d_Heights_need_index : FuncData} (F_Heights_need_index : Fun K "need_index" "Heights.need_index" s_Heights_need_index a_Heights_need_index d_Heights_need_index) (M_Heights_need_index : Meth K T.c.Heights "need_index" a_Heights_need_index) (g_Heights_need_index : FnG P w K mg base 1 a_Heights_need_index d_Heights_need_index ["self", "index", "many"] (SpD K 3 (f_Heights_need_index T.c))) {a_need_height : Addr} {d_need_height : FuncData} (F_need_height : Fun K "need_height" "need_height" s_need_height a_need_height d_need_height) (M_need_height : mg "need_height" = some (.ref a_need_height)) (g_need_height : FnG P w K mg base 1 a_need_height d_need_height ["height"] (SpD K 1 (f_need_height T.c))) {a_with_row : Addr} {d_with_row : FuncData} (F_with_row : Fun K "with_row" "with_row" s_with_row a_with_row d_with_row) (M_with_row : mg "with_row" = some (.ref a_with_row)) (g_with_row : ∀ n : Nat, FnG P w K mg base (4 + n) a_with_row d_with_row ["node", "index", "height", "guess"] (SpD K 4 (f_with_row T.c n))) : FnG P w K mg base 25 a_Heights_insert d_Heights_insert ["self", "index", "height"] (SpD K 3 (f_Heights_insert T.c)) := by
  refine fng_mk (k := 24) F_Heights_insert sc_Heights_insert (by decide) fun cdv A outer s H E room grd => ?_
  have tk : Takes (cxOf (L2.CX P w) P w K mg base ["self", "index", "height"] "Heights.insert" (defScope s_Heights_insert) a_Heights_insert cdv A outer s H E) (WE' E) := takes_of rfl rfl rfl rfl
  have pw := passW_of tk
  have room : Room 24 (cxOf (L2.CX P w) P w K mg base ["self", "index", "height"] "Heights.insert" (defScope s_Heights_insert) a_Heights_insert cdv A outer s H E).A := room
  exact (dss_cons (ds_expr (de_meth (n := 2) (ks := []) (pr := [0, 1]) (de_var 0) T.cl_Heights M_Heights_need_index g_Heights_need_index (room.mono (by decide)) grd pw (cbind_of F_Heights_need_index fun _ _ _ _ _ _ us ws h1 h2 => match us, ws, h1, h2 with | [_, _, _], [], _, _ => rfl) rfl (by decide) (da_cons (de_var 1) (da_cons (de_bin op_add4 o_add (de_fld T.cl_Heights T.na_Heights_many (de_var 0)) de_int) da_nil)) dk_nil))
      (dss_cons (ds_expr (de_call (n := 1) (ks := []) (pr := [0]) g_need_height (room.mono (by decide)) grd pw M_need_height F_need_height.kp (cbind_of F_need_height fun _ _ _ _ _ _ us ws h1 h2 => match us, ws, h1, h2 with | [_], [], _, _ => rfl) rfl (by decide) (da_cons (de_var 2) da_nil) dk_nil))
      (dss_cons (ds_fld T.cl_Heights T.na_Heights_root (de_call (n := 4) (ks := []) (pr := [0, 1, 2, 3]) (g_with_row 20) (room.mono (by decide)) grd pw M_with_row F_with_row.kp (cbind_of F_with_row fun _ _ _ _ _ _ us ws h1 h2 => match us, ws, h1, h2 with | [_, _, _, _], [], _, _ => rfl) rfl (by decide) (da_cons (de_fld T.cl_Heights T.na_Heights_root (de_var 0)) (da_cons (de_var 1) (da_cons (de_var 2) (da_cons (de_fld T.cl_Heights T.na_Heights_guess (de_var 0)) da_nil)))) dk_nil) (de_var 0))
      (dss_cons (ds_fldaug o_addI iop_add T.cl_Heights T.na_Heights_known_ones (de_callT call_int1 o_int T.b_int (by decide +kernel) (da_cons (de_cmp op_notN o_notN (de_var 2) de_non (nomark _)) da_nil)) (de_var 0))
      (dss_one (ds_fldaug o_addI iop_add T.cl_Heights T.na_Heights_many de_int (de_var 0)))))))
theorem g__law_tree_rows (T : Tx K mg) {a__law_tree_rows : Addr} {d__law_tree_rows : FuncData} (F__law_tree_rows : Fun K "_law_tree_rows" "_law_tree_rows" s__law_tree_rows a__law_tree_rows d__law_tree_rows) (M__law_tree_rows : mg "_law_tree_rows" = some (.ref a__law_tree_rows)) : ∀ n : Nat, FnG P w K mg base (1 + n) a__law_tree_rows d__law_tree_rows ["tree"] (SpD K 1 (f__law_tree_rows T.c n))
  | 0 => fng_zero
  | n + 1 => by
    have ih := g__law_tree_rows T F__law_tree_rows M__law_tree_rows n
    refine fng_mk (k := 1 + n) F__law_tree_rows sc__law_tree_rows (by decide) fun cdv A outer s H E room grd => ?_
    have tk : Takes (cxOf (L2.CX P w) P w K mg base ["tree"] "_law_tree_rows" (defScope s__law_tree_rows) a__law_tree_rows cdv A outer s H E) (WE' E) := takes_of rfl rfl rfl rfl
    have pw := passW_of tk
    have room : Room (1 + n) (cxOf (L2.CX P w) P w K mg base ["tree"] "_law_tree_rows" (defScope s__law_tree_rows) a__law_tree_rows cdv A outer s H E).A := room
    exact (dss_one (ds_ret (de_if (dt_cmp op_isN o_isN (de_var 0) de_non (nomark _)) (de_p (dl_lst da_nil)) (de_bin op_add4 o_add (de_bin op_add4 o_add (de_call (n := 1) (ks := []) (pr := [0]) ih (room.mono (by omega)) grd pw M__law_tree_rows F__law_tree_rows.kp (cbind_of F__law_tree_rows fun _ _ _ _ _ _ us ws h1 h2 => match us, ws, h1, h2 with | [_], [], _, _ => rfl) rfl (by decide) (da_cons (de_ix (de_var 0) de_int) da_nil) dk_nil) (de_p (dl_lst (da_cons (de_ix (de_var 0) de_int) da_nil)))) (de_call (n := 1) (ks := []) (pr := [0]) ih (room.mono (by omega)) grd pw M__law_tree_rows F__law_tree_rows.kp (cbind_of F__law_tree_rows fun _ _ _ _ _ _ us ws h1 h2 => match us, ws, h1, h2 with | [_], [], _, _ => rfl) rfl (by decide) (da_cons (de_ix (de_var 0) de_int) da_nil) dk_nil)))))
theorem g_is_integer (T : Tx K mg) {a_is_integer : Addr} {d_is_integer : FuncData} (F_is_integer : Fun K "is_integer" "is_integer" s_is_integer a_is_integer d_is_integer) : FnG P w K mg base 1 a_is_integer d_is_integer ["value"] (SpD K 1 (f_is_integer T.c)) := by
  refine fng_mk (k := 0) F_is_integer sc_is_integer (by decide) fun cdv A outer s H E room grd => ?_
  have tk : Takes (cxOf (L2.CX P w) P w K mg base ["value"] "is_integer" (defScope s_is_integer) a_is_integer cdv A outer s H E) (WE' E) := takes_of rfl rfl rfl rfl
  have pw := passW_of tk
  have room : Room 0 (cxOf (L2.CX P w) P w K mg base ["value"] "is_integer" (defScope s_is_integer) a_is_integer cdv A outer s H E).A := room
  exact (dss_one (ds_ret (de_and (de_isi (T' := "int") (de_var 0) (by decide) (by decide +kernel) T.b_int T.b_isinstance) (de_one (de_not (de_isi (T' := "bool") (de_var 0) (by decide) (by decide +kernel) T.b_bool T.b_isinstance))))))
theorem g_measured (T : Tx K mg) {a_measured : Addr} {d_measured : FuncData} (F_measured : Fun K "measured" "measured" s_measured a_measured d_measured) (M_measured : mg "measured" = some (.ref a_measured)) {a_is_integer : Addr} {d_is_integer : FuncData} (F_is_integer : Fun K "is_integer" "is_integer" s_is_integer a_is_integer d_is_integer) (M_is_integer : mg "is_integer" = some (.ref a_is_integer)) (g_is_integer : FnG P w K mg base 1 a_is_integer d_is_integer ["value"] (SpD K 1 (f_is_integer T.c))) {a_counted : Addr} {d_counted : FuncData} (F_counted : Fun K "counted" "counted" s_counted a_counted d_counted) (M_counted : mg "counted" = some (.ref a_counted)) (g_counted : FnG P w K mg base 1 a_counted d_counted ["height", "guess"] (SpD K 2 (f_counted T.c))) : ∀ n : Nat, FnG P w K mg base (2 + n) a_measured d_measured ["guess", "tree"] (SpD K 2 (f_measured T.c n))
  | 0 => fng_zero
  | n + 1 => by
    have ih := g_measured T F_measured M_measured F_is_integer M_is_integer g_is_integer F_counted M_counted g_counted n
    refine fng_mk (k := 2 + n) F_measured sc_measured (by decide) fun cdv A outer s H E room grd => ?_
    have tk : Takes (cxOf (L2.CX P w) P w K mg base ["guess", "tree", "left", "height", "right", "rows", "total", "one", "other"] "measured" (defScope s_measured) a_measured cdv A outer s H E) (WE' E) := takes_of rfl rfl rfl rfl
    have pw := passW_of tk
    have room : Room (2 + n) (cxOf (L2.CX P w) P w K mg base ["guess", "tree", "left", "height", "right", "rows", "total", "one", "other"] "measured" (defScope s_measured) a_measured cdv A outer s H E).A := room
    exact (dss_cons (ds_if (dt_cmp op_isN o_isN (de_var 1) de_non (nomark _))
      (dss_one (ds_ret (de_tup (da_cons de_int (da_cons de_int (da_cons de_int da_nil))))))
      dss_nil)
      (dss_cons (ds_if (dt_w (dw_or (dt_not (dt_val (de_isi (T' := "tuple") (de_var 1) (by decide) (by decide +kernel) T.b_tuple T.b_isinstance))) (dw_or1 (dt_cmp (op_neD room.units) o_ne (de_callB call_len o_len T.b_len (by decide +kernel) (da_cons (de_var 1) da_nil)) de_int (nomark _)))))
      (dss_one (ds_ret de_non))
      dss_nil)
      (dss_cons (ds_asg (de_var 1) (dg_tup rfl (dgs_cons (dg_name 2 sc_measured.nd) (dgs_cons (dg_name 3 sc_measured.nd) (dgs_cons (dg_name 4 sc_measured.nd) (dgs_cons (dg_name 5 sc_measured.nd) (dgs_cons (dg_name 6 sc_measured.nd) dgs_nil)))))))
      (dss_cons (ds_if (dt_w (dw_and (dt_cmp op_notN o_notN (de_var 3) de_non (nomark _)) (dw_and1 (dt_w (dw_or (dt_not (dt_val (de_call (n := 1) (ks := []) (pr := [0]) g_is_integer (room.mono (by omega)) grd pw M_is_integer F_is_integer.kp (cbind_of F_is_integer fun _ _ _ _ _ _ us ws h1 h2 => match us, ws, h1, h2 with | [_], [], _, _ => rfl) rfl (by decide) (da_cons (de_var 3) da_nil) dk_nil))) (dw_or1 (dt_cmp op_lt o_lt (de_var 3) de_int (nomark _))))))))
      (dss_one (ds_ret de_non))
      dss_nil)
      (dss_cons (ds_set 7 sc_measured.nd (de_call (n := 2) (ks := []) (pr := [0, 1]) ih (room.mono (by omega)) grd pw M_measured F_measured.kp (cbind_of F_measured fun _ _ _ _ _ _ us ws h1 h2 => match us, ws, h1, h2 with | [_, _], [], _, _ => rfl) rfl (by decide) (da_cons (de_var 0) (da_cons (de_var 2) da_nil)) dk_nil))
      (dss_cons (ds_set 8 sc_measured.nd (de_if (dt_cmp op_isN o_isN (de_var 7) de_non (nomark _)) de_non (de_call (n := 2) (ks := []) (pr := [0, 1]) ih (room.mono (by omega)) grd pw M_measured F_measured.kp (cbind_of F_measured fun _ _ _ _ _ _ us ws h1 h2 => match us, ws, h1, h2 with | [_, _], [], _, _ => rfl) rfl (by decide) (da_cons (de_var 0) (da_cons (de_var 4) da_nil)) dk_nil)))
      (dss_cons (ds_if (dt_w (dw_or (dt_cmp op_isN o_isN (de_var 8) de_non (nomark _)) (dw_or (dt_cmp op_gt o_gt (de_callB call_abs o_abs T.b_abs (by decide +kernel) (da_cons (de_bin op_sub o_sub (de_ix (de_var 7) de_int) (de_ix (de_var 8) de_int)) da_nil)) de_int (nomark _)) (dw_or (dt_not (dt_val (de_call (n := 1) (ks := []) (pr := [0]) g_is_integer (room.mono (by omega)) grd pw M_is_integer F_is_integer.kp (cbind_of F_is_integer fun _ _ _ _ _ _ us ws h1 h2 => match us, ws, h1, h2 with | [_], [], _, _ => rfl) rfl (by decide) (da_cons (de_var 5) da_nil) dk_nil))) (dw_or1 (dt_not (dt_val (de_call (n := 1) (ks := []) (pr := [0]) g_is_integer (room.mono (by omega)) grd pw M_is_integer F_is_integer.kp (cbind_of F_is_integer fun _ _ _ _ _ _ us ws h1 h2 => match us, ws, h1, h2 with | [_], [], _, _ => rfl) rfl (by decide) (da_cons (de_var 6) da_nil) dk_nil))))))))
      (dss_one (ds_ret de_non))
      dss_nil)
      (dss_cons (ds_if (dt_w (dw_or (dt_cmp (op_neD room.units) o_ne (de_var 5) (de_bin op_add4 o_add (de_bin op_add4 o_add (de_ix (de_var 7) de_int) de_int) (de_ix (de_var 8) de_int)) (nomark _)) (dw_or1 (dt_cmp (op_neD room.units) o_ne (de_var 6) (de_bin op_add4 o_add (de_bin op_add4 o_add (de_ix (de_var 7) de_int) (de_call (n := 2) (ks := []) (pr := [0, 1]) g_counted (room.mono (by omega)) grd pw M_counted F_counted.kp (cbind_of F_counted fun _ _ _ _ _ _ us ws h1 h2 => match us, ws, h1, h2 with | [_, _], [], _, _ => rfl) rfl (by decide) (da_cons (de_var 3) (da_cons (de_var 0) da_nil)) dk_nil)) (de_ix (de_var 8) de_int)) (nomark _)))))
      (dss_one (ds_ret de_non))
      dss_nil)
      (dss_one (ds_ret (de_tup (da_cons (de_var 5) (da_cons (de_var 6) (da_cons (de_bin op_add4 o_add de_int (de_callB (call_max2 rfl) o_max2 T.b_max (by decide +kernel) (da_cons (de_ix (de_var 7) de_int) (da_cons (de_ix (de_var 8) de_int) da_nil)))) da_nil))))))))))))))
theorem g_tree_right (T : Tx K mg) {a_tree_right : Addr} {d_tree_right : FuncData} (F_tree_right : Fun K "tree_right" "tree_right" s_tree_right a_tree_right d_tree_right) {a_measured : Addr} {d_measured : FuncData} (F_measured : Fun K "measured" "measured" s_measured a_measured d_measured) (M_measured : mg "measured" = some (.ref a_measured)) (g_measured : ∀ n : Nat, FnG P w K mg base (2 + n) a_measured d_measured ["guess", "tree"] (SpD K 2 (f_measured T.c n))) : FnG P w K mg base 23 a_tree_right d_tree_right ["guess", "tree"] (SpD K 2 (f_tree_right T.c)) := by
  refine fng_mk (k := 22) F_tree_right sc_tree_right (by decide) fun cdv A outer s H E room grd => ?_
  have tk : Takes (cxOf (L2.CX P w) P w K mg base ["guess", "tree"] "tree_right" (defScope s_tree_right) a_tree_right cdv A outer s H E) (WE' E) := takes_of rfl rfl rfl rfl
  have pw := passW_of tk
  have room : Room 22 (cxOf (L2.CX P w) P w K mg base ["guess", "tree"] "tree_right" (defScope s_tree_right) a_tree_right cdv A outer s H E).A := room
  exact (dss_one (ds_ret (de_cmp op_notN o_notN (de_call (n := 2) (ks := []) (pr := [0, 1]) (g_measured 20) (room.mono (by decide)) grd pw M_measured F_measured.kp (cbind_of F_measured fun _ _ _ _ _ _ us ws h1 h2 => match us, ws, h1, h2 with | [_, _], [], _, _ => rfl) rfl (by decide) (da_cons (de_var 0) (da_cons (de_var 1) da_nil)) dk_nil) de_non (nomark _))))
theorem g_height_at (T : Tx K mg) {a_rows_of : Addr} {d_rows_of : FuncData} (F_rows_of : Fun K "rows_of" "rows_of" s_rows_of a_rows_of d_rows_of) (M_rows_of : mg "rows_of" = some (.ref a_rows_of)) (g_rows_of : FnG P w K mg base 1 a_rows_of d_rows_of ["node"] (SpD K 1 (f_rows_of T.c))) {a_height_at : Addr} {d_height_at : FuncData} (F_height_at : Fun K "height_at" "height_at" s_height_at a_height_at d_height_at) (M_height_at : mg "height_at" = some (.ref a_height_at)) : ∀ n : Nat, FnG P w K mg base (2 + n) a_height_at d_height_at ["node", "index"] (SpD K 2 (f_height_at T.c n))
  | 0 => fng_zero
  | n + 1 => by
    have ih := g_height_at T F_rows_of M_rows_of g_rows_of F_height_at M_height_at n
    refine fng_mk (k := 2 + n) F_height_at sc_height_at (by decide) fun cdv A outer s H E room grd => ?_
    have tk : Takes (cxOf (L2.CX P w) P w K mg base ["node", "index", "place"] "height_at" (defScope s_height_at) a_height_at cdv A outer s H E) (WE' E) := takes_of rfl rfl rfl rfl
    have pw := passW_of tk
    have room : Room (2 + n) (cxOf (L2.CX P w) P w K mg base ["node", "index", "place"] "height_at" (defScope s_height_at) a_height_at cdv A outer s H E).A := room
    exact (dss_cons (ds_set 2 sc_height_at.nd (de_call (n := 1) (ks := []) (pr := [0]) g_rows_of (room.mono (by omega)) grd pw M_rows_of F_rows_of.kp (cbind_of F_rows_of fun _ _ _ _ _ _ us ws h1 h2 => match us, ws, h1, h2 with | [_], [], _, _ => rfl) rfl (by decide) (da_cons (de_ix (de_var 0) de_int) da_nil) dk_nil))
      (dss_cons (ds_if (dt_cmp op_lt o_lt (de_var 1) (de_var 2) (nomark _))
      (dss_one (ds_ret (de_call (n := 2) (ks := []) (pr := [0, 1]) ih (room.mono (by omega)) grd pw M_height_at F_height_at.kp (cbind_of F_height_at fun _ _ _ _ _ _ us ws h1 h2 => match us, ws, h1, h2 with | [_, _], [], _, _ => rfl) rfl (by decide) (da_cons (de_ix (de_var 0) de_int) (da_cons (de_var 1) da_nil)) dk_nil)))
      dss_nil)
      (dss_one (ds_ret (de_if (dt_cmp (op_eqD room.units) o_eq (de_var 1) (de_var 2) (nomark _)) (de_ix (de_var 0) de_int) (de_call (n := 2) (ks := []) (pr := [0, 1]) ih (room.mono (by omega)) grd pw M_height_at F_height_at.kp (cbind_of F_height_at fun _ _ _ _ _ _ us ws h1 h2 => match us, ws, h1, h2 with | [_, _], [], _, _ => rfl) rfl (by decide) (da_cons (de_ix (de_var 0) de_int) (da_cons (de_bin op_sub o_sub (de_bin op_sub o_sub (de_var 1) (de_var 2)) de_int) da_nil)) dk_nil))))))
theorem g_without_row (T : Tx K mg) {a_rows_of : Addr} {d_rows_of : FuncData} (F_rows_of : Fun K "rows_of" "rows_of" s_rows_of a_rows_of d_rows_of) (M_rows_of : mg "rows_of" = some (.ref a_rows_of)) (g_rows_of : FnG P w K mg base 1 a_rows_of d_rows_of ["node"] (SpD K 1 (f_rows_of T.c))) {a_balanced : Addr} {d_balanced : FuncData} (F_balanced : Fun K "balanced" "balanced" s_balanced a_balanced d_balanced) (M_balanced : mg "balanced" = some (.ref a_balanced)) (g_balanced : FnG P w K mg base 3 a_balanced d_balanced ["left", "height", "right", "guess"] (SpD K 4 (f_balanced T.c))) {a_height_at : Addr} {d_height_at : FuncData} (F_height_at : Fun K "height_at" "height_at" s_height_at a_height_at d_height_at) (M_height_at : mg "height_at" = some (.ref a_height_at)) (g_height_at : ∀ n : Nat, FnG P w K mg base (2 + n) a_height_at d_height_at ["node", "index"] (SpD K 2 (f_height_at T.c n))) {a_without_row : Addr} {d_without_row : FuncData} (F_without_row : Fun K "without_row" "without_row" s_without_row a_without_row d_without_row) (M_without_row : mg "without_row" = some (.ref a_without_row)) : ∀ n : Nat, FnG P w K mg base (23 + n) a_without_row d_without_row ["node", "index", "guess"] (SpD K 3 (f_without_row T.c n))
  | 0 => fng_zero
  | n + 1 => by
    have ih := g_without_row T F_rows_of M_rows_of g_rows_of F_balanced M_balanced g_balanced F_height_at M_height_at g_height_at F_without_row M_without_row n
    refine fng_mk (k := 23 + n) F_without_row sc_without_row (by decide) fun cdv A outer s H E room grd => ?_
    have tk : Takes (cxOf (L2.CX P w) P w K mg base ["node", "index", "guess", "left", "own", "right", "place"] "without_row" (defScope s_without_row) a_without_row cdv A outer s H E) (WE' E) := takes_of rfl rfl rfl rfl
    have pw := passW_of tk
    have room : Room (23 + n) (cxOf (L2.CX P w) P w K mg base ["node", "index", "guess", "left", "own", "right", "place"] "without_row" (defScope s_without_row) a_without_row cdv A outer s H E).A := room
    exact (dss_cons (ds_asg (de_slice (de_var 0) do_none (do_some de_int)) (dg_tup rfl (dgs_cons (dg_name 3 sc_without_row.nd) (dgs_cons (dg_name 4 sc_without_row.nd) (dgs_cons (dg_name 5 sc_without_row.nd) dgs_nil)))))
      (dss_cons (ds_set 6 sc_without_row.nd (de_call (n := 1) (ks := []) (pr := [0]) g_rows_of (room.mono (by omega)) grd pw M_rows_of F_rows_of.kp (cbind_of F_rows_of fun _ _ _ _ _ _ us ws h1 h2 => match us, ws, h1, h2 with | [_], [], _, _ => rfl) rfl (by decide) (da_cons (de_var 3) da_nil) dk_nil))
      (dss_cons (ds_if (dt_cmp op_lt o_lt (de_var 1) (de_var 6) (nomark _))
      (dss_one (ds_ret (de_call (n := 4) (ks := []) (pr := [0, 1, 2, 3]) g_balanced (room.mono (by omega)) grd pw M_balanced F_balanced.kp (cbind_of F_balanced fun _ _ _ _ _ _ us ws h1 h2 => match us, ws, h1, h2 with | [_, _, _, _], [], _, _ => rfl) rfl (by decide) (da_cons (de_call (n := 3) (ks := []) (pr := [0, 1, 2]) ih (room.mono (by omega)) grd pw M_without_row F_without_row.kp (cbind_of F_without_row fun _ _ _ _ _ _ us ws h1 h2 => match us, ws, h1, h2 with | [_, _, _], [], _, _ => rfl) rfl (by decide) (da_cons (de_var 3) (da_cons (de_var 1) (da_cons (de_var 2) da_nil))) dk_nil) (da_cons (de_var 4) (da_cons (de_var 5) (da_cons (de_var 2) da_nil)))) dk_nil)))
      dss_nil)
      (dss_cons (ds_if (dt_cmp op_gt o_gt (de_var 1) (de_var 6) (nomark _))
      (dss_one (ds_ret (de_call (n := 4) (ks := []) (pr := [0, 1, 2, 3]) g_balanced (room.mono (by omega)) grd pw M_balanced F_balanced.kp (cbind_of F_balanced fun _ _ _ _ _ _ us ws h1 h2 => match us, ws, h1, h2 with | [_, _, _, _], [], _, _ => rfl) rfl (by decide) (da_cons (de_var 3) (da_cons (de_var 4) (da_cons (de_call (n := 3) (ks := []) (pr := [0, 1, 2]) ih (room.mono (by omega)) grd pw M_without_row F_without_row.kp (cbind_of F_without_row fun _ _ _ _ _ _ us ws h1 h2 => match us, ws, h1, h2 with | [_, _, _], [], _, _ => rfl) rfl (by decide) (da_cons (de_var 5) (da_cons (de_bin op_sub o_sub (de_bin op_sub o_sub (de_var 1) (de_var 6)) de_int) (da_cons (de_var 2) da_nil))) dk_nil) (da_cons (de_var 2) da_nil)))) dk_nil)))
      dss_nil)
      (dss_cons (ds_if (dt_cmp op_isN o_isN (de_var 5) de_non (nomark _))
      (dss_one (ds_ret (de_var 3)))
      dss_nil)
      (dss_one (ds_ret (de_call (n := 4) (ks := []) (pr := [0, 1, 2, 3]) g_balanced (room.mono (by omega)) grd pw M_balanced F_balanced.kp (cbind_of F_balanced fun _ _ _ _ _ _ us ws h1 h2 => match us, ws, h1, h2 with | [_, _, _, _], [], _, _ => rfl) rfl (by decide) (da_cons (de_var 3) (da_cons (de_call (n := 2) (ks := []) (pr := [0, 1]) (g_height_at 20) (room.mono (by omega)) grd pw M_height_at F_height_at.kp (cbind_of F_height_at fun _ _ _ _ _ _ us ws h1 h2 => match us, ws, h1, h2 with | [_, _], [], _, _ => rfl) rfl (by decide) (da_cons (de_var 5) (da_cons de_int da_nil)) dk_nil) (da_cons (de_call (n := 3) (ks := []) (pr := [0, 1, 2]) ih (room.mono (by omega)) grd pw M_without_row F_without_row.kp (cbind_of F_without_row fun _ _ _ _ _ _ us ws h1 h2 => match us, ws, h1, h2 with | [_, _, _], [], _, _ => rfl) rfl (by decide) (da_cons (de_var 5) (da_cons de_int (da_cons (de_var 2) da_nil))) dk_nil) (da_cons (de_var 2) da_nil)))) dk_nil))))))))
theorem g_Heights_height (T : Tx K mg) {a_Heights_height : Addr} {d_Heights_height : FuncData} (F_Heights_height : Fun K "height" "Heights.height" s_Heights_height a_Heights_height d_Heights_height) {a_Heights_need_index : Addr} {d_Heights_need_index : FuncData} (F_Heights_need_index : Fun K "need_index" "Heights.need_index" s_Heights_need_index a_Heights_need_index d_Heights_need_index) (M_Heights_need_index : Meth K T.c.Heights "need_index" a_Heights_need_index) (g_Heights_need_index : FnG P w K mg base 1 a_Heights_need_index d_Heights_need_index ["self", "index", "many"] (SpD K 3 (f_Heights_need_index T.c))) {a_height_at : Addr} {d_height_at : FuncData} (F_height_at : Fun K "height_at" "height_at" s_height_at a_height_at d_height_at) (M_height_at : mg "height_at" = some (.ref a_height_at)) (g_height_at : ∀ n : Nat, FnG P w K mg base (2 + n) a_height_at d_height_at ["node", "index"] (SpD K 2 (f_height_at T.c n))) : FnG P w K mg base 23 a_Heights_height d_Heights_height ["self", "index"] (SpD K 2 (f_Heights_height T.c)) := by
  refine fng_mk (k := 22) F_Heights_height sc_Heights_height (by decide) fun cdv A outer s H E room grd => ?_
  have tk : Takes (cxOf (L2.CX P w) P w K mg base ["self", "index"] "Heights.height" (defScope s_Heights_height) a_Heights_height cdv A outer s H E) (WE' E) := takes_of rfl rfl rfl rfl
  have pw := passW_of tk
  have room : Room 22 (cxOf (L2.CX P w) P w K mg base ["self", "index"] "Heights.height" (defScope s_Heights_height) a_Heights_height cdv A outer s H E).A := room
  exact (dss_cons (ds_expr (de_meth (n := 2) (ks := []) (pr := [0, 1]) (de_var 0) T.cl_Heights M_Heights_need_index g_Heights_need_index (room.mono (by decide)) grd pw (cbind_of F_Heights_need_index fun _ _ _ _ _ _ us ws h1 h2 => match us, ws, h1, h2 with | [_, _, _], [], _, _ => rfl) rfl (by decide) (da_cons (de_var 1) (da_cons (de_fld T.cl_Heights T.na_Heights_many (de_var 0)) da_nil)) dk_nil))
      (dss_one (ds_ret (de_call (n := 2) (ks := []) (pr := [0, 1]) (g_height_at 20) (room.mono (by decide)) grd pw M_height_at F_height_at.kp (cbind_of F_height_at fun _ _ _ _ _ _ us ws h1 h2 => match us, ws, h1, h2 with | [_, _], [], _, _ => rfl) rfl (by decide) (da_cons (de_fld T.cl_Heights T.na_Heights_root (de_var 0)) (da_cons (de_var 1) da_nil)) dk_nil))))
theorem g_Heights_remove (T : Tx K mg) {a_Heights_remove : Addr} {d_Heights_remove : FuncData} (F_Heights_remove : Fun K "remove" "Heights.remove" s_Heights_remove a_Heights_remove d_Heights_remove) {a_Heights_need_index : Addr} {d_Heights_need_index : FuncData} (F_Heights_need_index : Fun K "need_index" "Heights.need_index" s_Heights_need_index a_Heights_need_index d_Heights_need_index) (M_Heights_need_index : Meth K T.c.Heights "need_index" a_Heights_need_index) (g_Heights_need_index : FnG P w K mg base 1 a_Heights_need_index d_Heights_need_index ["self", "index", "many"] (SpD K 3 (f_Heights_need_index T.c))) {a_without_row : Addr} {d_without_row : FuncData} (F_without_row : Fun K "without_row" "without_row" s_without_row a_without_row d_without_row) (M_without_row : mg "without_row" = some (.ref a_without_row)) (g_without_row : ∀ n : Nat, FnG P w K mg base (23 + n) a_without_row d_without_row ["node", "index", "guess"] (SpD K 3 (f_without_row T.c n))) {a_Heights_height : Addr} {d_Heights_height : FuncData} (F_Heights_height : Fun K "height" "Heights.height" s_Heights_height a_Heights_height d_Heights_height) (M_Heights_height : Meth K T.c.Heights "height" a_Heights_height) (g_Heights_height : FnG P w K mg base 23 a_Heights_height d_Heights_height ["self", "index"] (SpD K 2 (f_Heights_height T.c))) : FnG P w K mg base 44 a_Heights_remove d_Heights_remove ["self", "index"] (SpD K 2 (f_Heights_remove T.c)) := by
  refine fng_mk (k := 43) F_Heights_remove sc_Heights_remove (by decide) fun cdv A outer s H E room grd => ?_
  have tk : Takes (cxOf (L2.CX P w) P w K mg base ["self", "index"] "Heights.remove" (defScope s_Heights_remove) a_Heights_remove cdv A outer s H E) (WE' E) := takes_of rfl rfl rfl rfl
  have pw := passW_of tk
  have room : Room 43 (cxOf (L2.CX P w) P w K mg base ["self", "index"] "Heights.remove" (defScope s_Heights_remove) a_Heights_remove cdv A outer s H E).A := room
  exact (dss_cons (ds_expr (de_meth (n := 2) (ks := []) (pr := [0, 1]) (de_var 0) T.cl_Heights M_Heights_need_index g_Heights_need_index (room.mono (by decide)) grd pw (cbind_of F_Heights_need_index fun _ _ _ _ _ _ us ws h1 h2 => match us, ws, h1, h2 with | [_, _, _], [], _, _ => rfl) rfl (by decide) (da_cons (de_var 1) (da_cons (de_fld T.cl_Heights T.na_Heights_many (de_var 0)) da_nil)) dk_nil))
      (dss_cons (ds_fldaug o_sub iop_sub T.cl_Heights T.na_Heights_known_ones (de_callT call_int1 o_int T.b_int (by decide +kernel) (da_cons (de_cmp op_notN o_notN (de_meth (n := 1) (ks := []) (pr := [0]) (de_var 0) T.cl_Heights M_Heights_height g_Heights_height (room.mono (by decide)) grd pw (cbind_of F_Heights_height fun _ _ _ _ _ _ us ws h1 h2 => match us, ws, h1, h2 with | [_, _], [], _, _ => rfl) rfl (by decide) (da_cons (de_var 1) da_nil) dk_nil) de_non (nomark _)) da_nil)) (de_var 0))
      (dss_cons (ds_fld T.cl_Heights T.na_Heights_root (de_call (n := 3) (ks := []) (pr := [0, 1, 2]) (g_without_row 20) (room.mono (by decide)) grd pw M_without_row F_without_row.kp (cbind_of F_without_row fun _ _ _ _ _ _ us ws h1 h2 => match us, ws, h1, h2 with | [_, _, _], [], _, _ => rfl) rfl (by decide) (da_cons (de_fld T.cl_Heights T.na_Heights_root (de_var 0)) (da_cons (de_var 1) (da_cons (de_fld T.cl_Heights T.na_Heights_guess (de_var 0)) da_nil))) dk_nil) (de_var 0))
      (dss_one (ds_fldaug o_sub iop_sub T.cl_Heights T.na_Heights_many de_int (de_var 0))))))
theorem g__law_before (T : Tx K mg) {a__law_before : Addr} {d__law_before : FuncData} (F__law_before : Fun K "_law_before" "_law_before" s__law_before a__law_before d__law_before) {a__law_counted : Addr} {d__law_counted : FuncData} (F__law_counted : Fun K "_law_counted" "_law_counted" s__law_counted a__law_counted d__law_counted) (M__law_counted : mg "_law_counted" = some (.ref a__law_counted)) (g__law_counted : FnG P w K mg base 1 a__law_counted d__law_counted ["height", "guess"] (SpD K 2 (f__law_counted T.c))) : FnG P w K mg base 2 a__law_before d__law_before ["heights", "guess", "index"] (SpD K 3 (f__law_before T.c)) := by
  refine fng_mk (k := 1) F__law_before sc__law_before (by decide) fun cdv A outer s H E room grd => ?_
  have tk : Takes (cxOf (L2.CX P w) P w K mg base ["heights", "guess", "index", "height"] "_law_before" (defScope s__law_before) a__law_before cdv A outer s H E) (WE' E) := takes_of rfl rfl rfl rfl
  have pw := passW_of tk
  have room : Room 1 (cxOf (L2.CX P w) P w K mg base ["heights", "guess", "index", "height"] "_law_before" (defScope s__law_before) a__law_before cdv A outer s H E).A := room
  exact (dss_one (ds_ret (de_callB (cr_sum rfl) o_sum T.b_sum (by decide +kernel) (da_cons (de_p (dl_lc (own := [("height", 3)]) rfl sc__law_before.nd (di_list (de_slice (de_var 0) do_none (do_some (de_var 2)))) (blkOk_by (by kernel_rfl)) (fun _ _ _ _ _ => (dg_name 3 sc__law_before.nd)) (fun _ _ _ _ _ => dts_nil) (fun _ _ _ _ _ => (de_call (n := 2) (ks := []) (pr := [0, 1]) g__law_counted (room.mono (by decide)) grd passW_0 M__law_counted F__law_counted.kp (cbind_of F__law_counted fun _ _ _ _ _ _ us ws h1 h2 => match us, ws, h1, h2 with | [_, _], [], _, _ => rfl) rfl (by decide) (da_cons (de_var 3) (da_cons (de_var 1) da_nil)) dk_nil)))) da_nil))))
theorem g_covering (T : Tx K mg) {a_total_of : Addr} {d_total_of : FuncData} (F_total_of : Fun K "total_of" "total_of" s_total_of a_total_of d_total_of) (M_total_of : mg "total_of" = some (.ref a_total_of)) (g_total_of : FnG P w K mg base 1 a_total_of d_total_of ["node"] (SpD K 1 (f_total_of T.c))) {a_covering : Addr} {d_covering : FuncData} (F_covering : Fun K "covering" "covering" s_covering a_covering d_covering) (M_covering : mg "covering" = some (.ref a_covering)) {a_counted : Addr} {d_counted : FuncData} (F_counted : Fun K "counted" "counted" s_counted a_counted d_counted) (M_counted : mg "counted" = some (.ref a_counted)) (g_counted : FnG P w K mg base 1 a_counted d_counted ["height", "guess"] (SpD K 2 (f_counted T.c))) {a_rows_of : Addr} {d_rows_of : FuncData} (F_rows_of : Fun K "rows_of" "rows_of" s_rows_of a_rows_of d_rows_of) (M_rows_of : mg "rows_of" = some (.ref a_rows_of)) (g_rows_of : FnG P w K mg base 1 a_rows_of d_rows_of ["node"] (SpD K 1 (f_rows_of T.c))) : ∀ n : Nat, FnG P w K mg base (2 + n) a_covering d_covering ["node", "offset", "guess"] (SpD K 3 (f_covering T.c n))
  | 0 => fng_zero
  | n + 1 => by
    have ih := g_covering T F_total_of M_total_of g_total_of F_covering M_covering F_counted M_counted g_counted F_rows_of M_rows_of g_rows_of n
    refine fng_mk (k := 2 + n) F_covering sc_covering (by decide) fun cdv A outer s H E room grd => ?_
    have tk : Takes (cxOf (L2.CX P w) P w K mg base ["node", "offset", "guess", "left", "own", "right", "behind"] "covering" (defScope s_covering) a_covering cdv A outer s H E) (WE' E) := takes_of rfl rfl rfl rfl
    have pw := passW_of tk
    have room : Room (2 + n) (cxOf (L2.CX P w) P w K mg base ["node", "offset", "guess", "left", "own", "right", "behind"] "covering" (defScope s_covering) a_covering cdv A outer s H E).A := room
    exact (dss_cons (ds_asg (de_slice (de_var 0) do_none (do_some de_int)) (dg_tup rfl (dgs_cons (dg_name 3 sc_covering.nd) (dgs_cons (dg_name 4 sc_covering.nd) (dgs_cons (dg_name 5 sc_covering.nd) dgs_nil)))))
      (dss_cons (ds_if (dt_cmp op_lt o_lt (de_var 1) (de_call (n := 1) (ks := []) (pr := [0]) g_total_of (room.mono (by omega)) grd pw M_total_of F_total_of.kp (cbind_of F_total_of fun _ _ _ _ _ _ us ws h1 h2 => match us, ws, h1, h2 with | [_], [], _, _ => rfl) rfl (by decide) (da_cons (de_var 3) da_nil) dk_nil) (nomark _))
      (dss_one (ds_ret (de_call (n := 3) (ks := []) (pr := [0, 1, 2]) ih (room.mono (by omega)) grd pw M_covering F_covering.kp (cbind_of F_covering fun _ _ _ _ _ _ us ws h1 h2 => match us, ws, h1, h2 with | [_, _, _], [], _, _ => rfl) rfl (by decide) (da_cons (de_var 3) (da_cons (de_var 1) (da_cons (de_var 2) da_nil))) dk_nil)))
      dss_nil)
      (dss_cons (ds_set 6 sc_covering.nd (de_bin op_add4 o_add (de_call (n := 1) (ks := []) (pr := [0]) g_total_of (room.mono (by omega)) grd pw M_total_of F_total_of.kp (cbind_of F_total_of fun _ _ _ _ _ _ us ws h1 h2 => match us, ws, h1, h2 with | [_], [], _, _ => rfl) rfl (by decide) (da_cons (de_var 3) da_nil) dk_nil) (de_call (n := 2) (ks := []) (pr := [0, 1]) g_counted (room.mono (by omega)) grd pw M_counted F_counted.kp (cbind_of F_counted fun _ _ _ _ _ _ us ws h1 h2 => match us, ws, h1, h2 with | [_, _], [], _, _ => rfl) rfl (by decide) (da_cons (de_var 4) (da_cons (de_var 2) da_nil)) dk_nil)))
      (dss_cons (ds_if (dt_cmp op_lt o_lt (de_var 1) (de_var 6) (nomark _))
      (dss_one (ds_ret (de_call (n := 1) (ks := []) (pr := [0]) g_rows_of (room.mono (by omega)) grd pw M_rows_of F_rows_of.kp (cbind_of F_rows_of fun _ _ _ _ _ _ us ws h1 h2 => match us, ws, h1, h2 with | [_], [], _, _ => rfl) rfl (by decide) (da_cons (de_var 3) da_nil) dk_nil)))
      dss_nil)
      (dss_one (ds_ret (de_bin op_add4 o_add (de_bin op_add4 o_add (de_call (n := 1) (ks := []) (pr := [0]) g_rows_of (room.mono (by omega)) grd pw M_rows_of F_rows_of.kp (cbind_of F_rows_of fun _ _ _ _ _ _ us ws h1 h2 => match us, ws, h1, h2 with | [_], [], _, _ => rfl) rfl (by decide) (da_cons (de_var 3) da_nil) dk_nil) de_int) (de_call (n := 3) (ks := []) (pr := [0, 1, 2]) ih (room.mono (by omega)) grd pw M_covering F_covering.kp (cbind_of F_covering fun _ _ _ _ _ _ us ws h1 h2 => match us, ws, h1, h2 with | [_, _, _], [], _, _ => rfl) rfl (by decide) (da_cons (de_var 5) (da_cons (de_bin op_sub o_sub (de_var 1) (de_var 6)) (da_cons (de_var 2) da_nil))) dk_nil))))))))
theorem g_Heights_total (T : Tx K mg) {a_Heights_total : Addr} {d_Heights_total : FuncData} (F_Heights_total : Fun K "total" "Heights.total" s_Heights_total a_Heights_total d_Heights_total) {a_total_of : Addr} {d_total_of : FuncData} (F_total_of : Fun K "total_of" "total_of" s_total_of a_total_of d_total_of) (M_total_of : mg "total_of" = some (.ref a_total_of)) (g_total_of : FnG P w K mg base 1 a_total_of d_total_of ["node"] (SpD K 1 (f_total_of T.c))) : FnG P w K mg base 2 a_Heights_total d_Heights_total ["self"] (SpD K 1 (f_Heights_total T.c)) := by
  refine fng_mk (k := 1) F_Heights_total sc_Heights_total (by decide) fun cdv A outer s H E room grd => ?_
  have tk : Takes (cxOf (L2.CX P w) P w K mg base ["self"] "Heights.total" (defScope s_Heights_total) a_Heights_total cdv A outer s H E) (WE' E) := takes_of rfl rfl rfl rfl
  have pw := passW_of tk
  have room : Room 1 (cxOf (L2.CX P w) P w K mg base ["self"] "Heights.total" (defScope s_Heights_total) a_Heights_total cdv A outer s H E).A := room
  exact (dss_one (ds_ret (de_call (n := 1) (ks := []) (pr := [0]) g_total_of (room.mono (by decide)) grd pw M_total_of F_total_of.kp (cbind_of F_total_of fun _ _ _ _ _ _ us ws h1 h2 => match us, ws, h1, h2 with | [_], [], _, _ => rfl) rfl (by decide) (da_cons (de_fld T.cl_Heights T.na_Heights_root (de_var 0)) da_nil) dk_nil)))
theorem g_Heights_row_at (T : Tx K mg) {a_Heights_row_at : Addr} {d_Heights_row_at : FuncData} (F_Heights_row_at : Fun K "row_at" "Heights.row_at" s_Heights_row_at a_Heights_row_at d_Heights_row_at) {a_covering : Addr} {d_covering : FuncData} (F_covering : Fun K "covering" "covering" s_covering a_covering d_covering) (M_covering : mg "covering" = some (.ref a_covering)) (g_covering : ∀ n : Nat, FnG P w K mg base (2 + n) a_covering d_covering ["node", "offset", "guess"] (SpD K 3 (f_covering T.c n))) {a_Heights_total : Addr} {d_Heights_total : FuncData} (F_Heights_total : Fun K "total" "Heights.total" s_Heights_total a_Heights_total d_Heights_total) (M_Heights_total : Meth K T.c.Heights "total" a_Heights_total) (g_Heights_total : FnG P w K mg base 2 a_Heights_total d_Heights_total ["self"] (SpD K 1 (f_Heights_total T.c))) : FnG P w K mg base 23 a_Heights_row_at d_Heights_row_at ["self", "offset"] (SpD K 2 (f_Heights_row_at T.c)) := by
  refine fng_mk (k := 22) F_Heights_row_at sc_Heights_row_at (by decide) fun cdv A outer s H E room grd => ?_
  have tk : Takes (cxOf (L2.CX P w) P w K mg base ["self", "offset"] "Heights.row_at" (defScope s_Heights_row_at) a_Heights_row_at cdv A outer s H E) (WE' E) := takes_of rfl rfl rfl rfl
  have pw := passW_of tk
  have room : Room 22 (cxOf (L2.CX P w) P w K mg base ["self", "offset"] "Heights.row_at" (defScope s_Heights_row_at) a_Heights_row_at cdv A outer s H E).A := room
  exact (dss_one (ds_ret (de_if (dt_chain op_le op_lt o_le o_lt de_int (de_var 1) (de_methK (ks := []) (pr := []) (de_var 0) T.cl_Heights M_Heights_total g_Heights_total (room.mono (by decide)) grd pw (cbind_of F_Heights_total fun _ _ _ _ _ _ us ws h1 h2 => match us, ws, h1, h2 with | [_], [], _, _ => rfl) rfl (by decide) dk_nil)) (de_call (n := 3) (ks := []) (pr := [0, 1, 2]) (g_covering 20) (room.mono (by decide)) grd pw M_covering F_covering.kp (cbind_of F_covering fun _ _ _ _ _ _ us ws h1 h2 => match us, ws, h1, h2 with | [_, _, _], [], _, _ => rfl) rfl (by decide) (da_cons (de_fld T.cl_Heights T.na_Heights_root (de_var 0)) (da_cons (de_var 1) (da_cons (de_fld T.cl_Heights T.na_Heights_guess (de_var 0)) da_nil))) dk_nil) de_non)))
theorem g_Heights_all_heights (T : Tx K mg) {a_Heights_all_heights : Addr} {d_Heights_all_heights : FuncData} (F_Heights_all_heights : Fun K "all_heights" "Heights.all_heights" s_Heights_all_heights a_Heights_all_heights d_Heights_all_heights) {a_heights_of : Addr} {d_heights_of : FuncData} (F_heights_of : Fun K "heights_of" "heights_of" s_heights_of a_heights_of d_heights_of) (M_heights_of : mg "heights_of" = some (.ref a_heights_of)) (g_heights_of : ∀ n : Nat, FnG P w K mg base (1 + n) a_heights_of d_heights_of ["node"] (SpD K 1 (f_heights_of T.c n))) : FnG P w K mg base 22 a_Heights_all_heights d_Heights_all_heights ["self"] (SpD K 1 (f_Heights_all_heights T.c)) := by
  refine fng_mk (k := 21) F_Heights_all_heights sc_Heights_all_heights (by decide) fun cdv A outer s H E room grd => ?_
  have tk : Takes (cxOf (L2.CX P w) P w K mg base ["self"] "Heights.all_heights" (defScope s_Heights_all_heights) a_Heights_all_heights cdv A outer s H E) (WE' E) := takes_of rfl rfl rfl rfl
  have pw := passW_of tk
  have room : Room 21 (cxOf (L2.CX P w) P w K mg base ["self"] "Heights.all_heights" (defScope s_Heights_all_heights) a_Heights_all_heights cdv A outer s H E).A := room
  exact (dss_one (ds_ret (de_call (n := 1) (ks := []) (pr := [0]) (g_heights_of 20) (room.mono (by decide)) grd pw M_heights_of F_heights_of.kp (cbind_of F_heights_of fun _ _ _ _ _ _ us ws h1 h2 => match us, ws, h1, h2 with | [_], [], _, _ => rfl) rfl (by decide) (da_cons (de_fld T.cl_Heights T.na_Heights_root (de_var 0)) da_nil) dk_nil)))
theorem g_Heights___len__ (T : Tx K mg) {a_Heights___len__ : Addr} {d_Heights___len__ : FuncData} (F_Heights___len__ : Fun K "__len__" "Heights.__len__" s_Heights___len__ a_Heights___len__ d_Heights___len__) {a_Heights_all_heights : Addr} {d_Heights_all_heights : FuncData} (F_Heights_all_heights : Fun K "all_heights" "Heights.all_heights" s_Heights_all_heights a_Heights_all_heights d_Heights_all_heights) (M_Heights_all_heights : Meth K T.c.Heights "all_heights" a_Heights_all_heights) (g_Heights_all_heights : FnG P w K mg base 22 a_Heights_all_heights d_Heights_all_heights ["self"] (SpD K 1 (f_Heights_all_heights T.c))) : FnG P w K mg base 23 a_Heights___len__ d_Heights___len__ ["self"] (SpD K 1 (f_Heights___len__ T.c)) := by
  refine fng_mk (k := 22) F_Heights___len__ sc_Heights___len__ (by decide) fun cdv A outer s H E room grd => ?_
  have tk : Takes (cxOf (L2.CX P w) P w K mg base ["self"] "Heights.__len__" (defScope s_Heights___len__) a_Heights___len__ cdv A outer s H E) (WE' E) := takes_of rfl rfl rfl rfl
  have pw := passW_of tk
  have room : Room 22 (cxOf (L2.CX P w) P w K mg base ["self"] "Heights.__len__" (defScope s_Heights___len__) a_Heights___len__ cdv A outer s H E).A := room
  exact (dss_one (ds_ret (de_callB call_len o_len T.b_len (by decide +kernel) (da_cons (de_methK (ks := []) (pr := []) (de_var 0) T.cl_Heights M_Heights_all_heights g_Heights_all_heights (room.mono (by decide)) grd pw (cbind_of F_Heights_all_heights fun _ _ _ _ _ _ us ws h1 h2 => match us, ws, h1, h2 with | [_], [], _, _ => rfl) rfl (by decide) dk_nil) da_nil))))
theorem g_Heights_known (T : Tx K mg) {a_Heights_known : Addr} {d_Heights_known : FuncData} (F_Heights_known : Fun K "known" "Heights.known" s_Heights_known a_Heights_known d_Heights_known) : FnG P w K mg base 1 a_Heights_known d_Heights_known ["self"] (SpD K 1 (f_Heights_known T.c)) := by
  refine fng_mk (k := 0) F_Heights_known sc_Heights_known (by decide) fun cdv A outer s H E room grd => ?_
  have tk : Takes (cxOf (L2.CX P w) P w K mg base ["self"] "Heights.known" (defScope s_Heights_known) a_Heights_known cdv A outer s H E) (WE' E) := takes_of rfl rfl rfl rfl
  have pw := passW_of tk
  have room : Room 0 (cxOf (L2.CX P w) P w K mg base ["self"] "Heights.known" (defScope s_Heights_known) a_Heights_known cdv A outer s H E).A := room
  exact (dss_one (ds_ret (de_fld T.cl_Heights T.na_Heights_known_ones (de_var 0))))
theorem g_offset_of (T : Tx K mg) {a_offset_of : Addr} {d_offset_of : FuncData} (F_offset_of : Fun K "offset_of" "offset_of" s_offset_of a_offset_of d_offset_of) (M_offset_of : mg "offset_of" = some (.ref a_offset_of)) {a_rows_of : Addr} {d_rows_of : FuncData} (F_rows_of : Fun K "rows_of" "rows_of" s_rows_of a_rows_of d_rows_of) (M_rows_of : mg "rows_of" = some (.ref a_rows_of)) (g_rows_of : FnG P w K mg base 1 a_rows_of d_rows_of ["node"] (SpD K 1 (f_rows_of T.c))) {a_total_of : Addr} {d_total_of : FuncData} (F_total_of : Fun K "total_of" "total_of" s_total_of a_total_of d_total_of) (M_total_of : mg "total_of" = some (.ref a_total_of)) (g_total_of : FnG P w K mg base 1 a_total_of d_total_of ["node"] (SpD K 1 (f_total_of T.c))) {a_counted : Addr} {d_counted : FuncData} (F_counted : Fun K "counted" "counted" s_counted a_counted d_counted) (M_counted : mg "counted" = some (.ref a_counted)) (g_counted : FnG P w K mg base 1 a_counted d_counted ["height", "guess"] (SpD K 2 (f_counted T.c))) : ∀ n : Nat, FnG P w K mg base (2 + n) a_offset_of d_offset_of ["node", "index", "guess"] (SpD K 3 (f_offset_of T.c n))
  | 0 => fng_zero
  | n + 1 => by
    have ih := g_offset_of T F_offset_of M_offset_of F_rows_of M_rows_of g_rows_of F_total_of M_total_of g_total_of F_counted M_counted g_counted n
    refine fng_mk (k := 2 + n) F_offset_of sc_offset_of (by decide) fun cdv A outer s H E room grd => ?_
    have tk : Takes (cxOf (L2.CX P w) P w K mg base ["node", "index", "guess", "left", "own", "right", "behind"] "offset_of" (defScope s_offset_of) a_offset_of cdv A outer s H E) (WE' E) := takes_of rfl rfl rfl rfl
    have pw := passW_of tk
    have room : Room (2 + n) (cxOf (L2.CX P w) P w K mg base ["node", "index", "guess", "left", "own", "right", "behind"] "offset_of" (defScope s_offset_of) a_offset_of cdv A outer s H E).A := room
    exact (dss_cons (ds_if (dt_cmp op_isN o_isN (de_var 0) de_non (nomark _))
      (dss_one (ds_ret de_int))
      dss_nil)
      (dss_cons (ds_asg (de_slice (de_var 0) do_none (do_some de_int)) (dg_tup rfl (dgs_cons (dg_name 3 sc_offset_of.nd) (dgs_cons (dg_name 4 sc_offset_of.nd) (dgs_cons (dg_name 5 sc_offset_of.nd) dgs_nil)))))
      (dss_cons (ds_if (dt_cmp op_le o_le (de_var 1) (de_call (n := 1) (ks := []) (pr := [0]) g_rows_of (room.mono (by omega)) grd pw M_rows_of F_rows_of.kp (cbind_of F_rows_of fun _ _ _ _ _ _ us ws h1 h2 => match us, ws, h1, h2 with | [_], [], _, _ => rfl) rfl (by decide) (da_cons (de_var 3) da_nil) dk_nil) (nomark _))
      (dss_one (ds_ret (de_call (n := 3) (ks := []) (pr := [0, 1, 2]) ih (room.mono (by omega)) grd pw M_offset_of F_offset_of.kp (cbind_of F_offset_of fun _ _ _ _ _ _ us ws h1 h2 => match us, ws, h1, h2 with | [_, _, _], [], _, _ => rfl) rfl (by decide) (da_cons (de_var 3) (da_cons (de_var 1) (da_cons (de_var 2) da_nil))) dk_nil)))
      dss_nil)
      (dss_cons (ds_set 6 sc_offset_of.nd (de_call (n := 3) (ks := []) (pr := [0, 1, 2]) ih (room.mono (by omega)) grd pw M_offset_of F_offset_of.kp (cbind_of F_offset_of fun _ _ _ _ _ _ us ws h1 h2 => match us, ws, h1, h2 with | [_, _, _], [], _, _ => rfl) rfl (by decide) (da_cons (de_var 5) (da_cons (de_bin op_sub o_sub (de_bin op_sub o_sub (de_var 1) (de_call (n := 1) (ks := []) (pr := [0]) g_rows_of (room.mono (by omega)) grd pw M_rows_of F_rows_of.kp (cbind_of F_rows_of fun _ _ _ _ _ _ us ws h1 h2 => match us, ws, h1, h2 with | [_], [], _, _ => rfl) rfl (by decide) (da_cons (de_var 3) da_nil) dk_nil)) de_int) (da_cons (de_var 2) da_nil))) dk_nil))
      (dss_one (ds_ret (de_bin op_add4 o_add (de_bin op_add4 o_add (de_call (n := 1) (ks := []) (pr := [0]) g_total_of (room.mono (by omega)) grd pw M_total_of F_total_of.kp (cbind_of F_total_of fun _ _ _ _ _ _ us ws h1 h2 => match us, ws, h1, h2 with | [_], [], _, _ => rfl) rfl (by decide) (da_cons (de_var 3) da_nil) dk_nil) (de_call (n := 2) (ks := []) (pr := [0, 1]) g_counted (room.mono (by omega)) grd pw M_counted F_counted.kp (cbind_of F_counted fun _ _ _ _ _ _ us ws h1 h2 => match us, ws, h1, h2 with | [_, _], [], _, _ => rfl) rfl (by decide) (da_cons (de_var 4) (da_cons (de_var 2) da_nil)) dk_nil)) (de_var 6))))))))
theorem g_Heights_offset (T : Tx K mg) {a_Heights_offset : Addr} {d_Heights_offset : FuncData} (F_Heights_offset : Fun K "offset" "Heights.offset" s_Heights_offset a_Heights_offset d_Heights_offset) {a_Heights_need_index : Addr} {d_Heights_need_index : FuncData} (F_Heights_need_index : Fun K "need_index" "Heights.need_index" s_Heights_need_index a_Heights_need_index d_Heights_need_index) (M_Heights_need_index : Meth K T.c.Heights "need_index" a_Heights_need_index) (g_Heights_need_index : FnG P w K mg base 1 a_Heights_need_index d_Heights_need_index ["self", "index", "many"] (SpD K 3 (f_Heights_need_index T.c))) {a_offset_of : Addr} {d_offset_of : FuncData} (F_offset_of : Fun K "offset_of" "offset_of" s_offset_of a_offset_of d_offset_of) (M_offset_of : mg "offset_of" = some (.ref a_offset_of)) (g_offset_of : ∀ n : Nat, FnG P w K mg base (2 + n) a_offset_of d_offset_of ["node", "index", "guess"] (SpD K 3 (f_offset_of T.c n))) : FnG P w K mg base 23 a_Heights_offset d_Heights_offset ["self", "index"] (SpD K 2 (f_Heights_offset T.c)) := by
  refine fng_mk (k := 22) F_Heights_offset sc_Heights_offset (by decide) fun cdv A outer s H E room grd => ?_
  have tk : Takes (cxOf (L2.CX P w) P w K mg base ["self", "index"] "Heights.offset" (defScope s_Heights_offset) a_Heights_offset cdv A outer s H E) (WE' E) := takes_of rfl rfl rfl rfl
  have pw := passW_of tk
  have room : Room 22 (cxOf (L2.CX P w) P w K mg base ["self", "index"] "Heights.offset" (defScope s_Heights_offset) a_Heights_offset cdv A outer s H E).A := room
  exact (dss_cons (ds_expr (de_meth (n := 2) (ks := []) (pr := [0, 1]) (de_var 0) T.cl_Heights M_Heights_need_index g_Heights_need_index (room.mono (by decide)) grd pw (cbind_of F_Heights_need_index fun _ _ _ _ _ _ us ws h1 h2 => match us, ws, h1, h2 with | [_, _, _], [], _, _ => rfl) rfl (by decide) (da_cons (de_var 1) (da_cons (de_bin op_add4 o_add (de_fld T.cl_Heights T.na_Heights_many (de_var 0)) de_int) da_nil)) dk_nil))
      (dss_one (ds_ret (de_call (n := 3) (ks := []) (pr := [0, 1, 2]) (g_offset_of 20) (room.mono (by decide)) grd pw M_offset_of F_offset_of.kp (cbind_of F_offset_of fun _ _ _ _ _ _ us ws h1 h2 => match us, ws, h1, h2 with | [_, _, _], [], _, _ => rfl) rfl (by decide) (da_cons (de_fld T.cl_Heights T.na_Heights_root (de_var 0)) (da_cons (de_var 1) (da_cons (de_fld T.cl_Heights T.na_Heights_guess (de_var 0)) da_nil))) dk_nil))))
theorem g__law_covering (T : Tx K mg) {a__law_covering : Addr} {d__law_covering : FuncData} (F__law_covering : Fun K "_law_covering" "_law_covering" s__law_covering a__law_covering d__law_covering) {a__law_before : Addr} {d__law_before : FuncData} (F__law_before : Fun K "_law_before" "_law_before" s__law_before a__law_before d__law_before) (M__law_before : mg "_law_before" = some (.ref a__law_before)) (g__law_before : FnG P w K mg base 2 a__law_before d__law_before ["heights", "guess", "index"] (SpD K 3 (f__law_before T.c))) {a__law_counted : Addr} {d__law_counted : FuncData} (F__law_counted : Fun K "_law_counted" "_law_counted" s__law_counted a__law_counted d__law_counted) (M__law_counted : mg "_law_counted" = some (.ref a__law_counted)) (g__law_counted : FnG P w K mg base 1 a__law_counted d__law_counted ["height", "guess"] (SpD K 2 (f__law_counted T.c))) : FnG P w K mg base 3 a__law_covering d__law_covering ["heights", "guess", "offset"] (SpD K 3 (f__law_covering T.c)) := by
  refine fng_mk (k := 2) F__law_covering sc__law_covering (by decide) fun cdv A outer s H E room grd => ?_
  have tk : Takes (cxOf (L2.CX P w) P w K mg base ["heights", "guess", "offset", "index", "begin"] "_law_covering" (defScope s__law_covering) a__law_covering cdv A outer s H E) (WE' E) := takes_of rfl rfl rfl rfl
  have pw := passW_of tk
  have room : Room 2 (cxOf (L2.CX P w) P w K mg base ["heights", "guess", "offset", "index", "begin"] "_law_covering" (defScope s__law_covering) a__law_covering cdv A outer s H E).A := room
  exact (dss_cons (ds_for (passes_of rfl) rfl (di_range1 (da_cons (de_callB call_len o_len T.b_len (by decide +kernel) (da_cons (de_var 0) da_nil)) da_nil) T.b_range) (dg_name 3 sc__law_covering.nd)
      (dss_cons (ds_set 4 sc__law_covering.nd (de_call (n := 3) (ks := []) (pr := [0, 1, 2]) g__law_before (room.mono (by decide)) grd pw M__law_before F__law_before.kp (cbind_of F__law_before fun _ _ _ _ _ _ us ws h1 h2 => match us, ws, h1, h2 with | [_, _, _], [], _, _ => rfl) rfl (by decide) (da_cons (de_var 0) (da_cons (de_var 1) (da_cons (de_var 3) da_nil))) dk_nil))
      (dss_one (ds_if (dt_chain op_le op_lt o_le o_lt (de_var 4) (de_var 2) (de_bin op_add4 o_add (de_var 4) (de_call (n := 2) (ks := []) (pr := [0, 1]) g__law_counted (room.mono (by decide)) grd pw M__law_counted F__law_counted.kp (cbind_of F__law_counted fun _ _ _ _ _ _ us ws h1 h2 => match us, ws, h1, h2 with | [_, _], [], _, _ => rfl) rfl (by decide) (da_cons (de_ix (de_var 0) (de_var 3)) (da_cons (de_var 1) da_nil)) dk_nil)))
      (dss_one (ds_ret (de_var 3)))
      dss_nil))))
      (dss_one (ds_ret de_non)))
theorem g__law_looks_right (T : Tx K mg) {a__law_looks_right : Addr} {d__law_looks_right : FuncData} (F__law_looks_right : Fun K "_law_looks_right" "_law_looks_right" s__law_looks_right a__law_looks_right d__law_looks_right) {a__law_before : Addr} {d__law_before : FuncData} (F__law_before : Fun K "_law_before" "_law_before" s__law_before a__law_before d__law_before) (M__law_before : mg "_law_before" = some (.ref a__law_before)) (g__law_before : FnG P w K mg base 2 a__law_before d__law_before ["heights", "guess", "index"] (SpD K 3 (f__law_before T.c))) {a__law_same : Addr} {d__law_same : FuncData} (F__law_same : Fun K "_law_same" "_law_same" s__law_same a__law_same d__law_same) (M__law_same : mg "_law_same" = some (.ref a__law_same)) (g__law_same : ∀ n : Nat, FnG P w K mg base (1 + n) a__law_same d__law_same ["found", "due"] (SpD K 2 (f__law_same T.c n))) {a__law_draw : Addr} {d__law_draw : FuncData} (F__law_draw : Fun K "_law_draw" "_law_draw" s__law_draw a__law_draw d__law_draw) (M__law_draw : mg "_law_draw" = some (.ref a__law_draw)) (g__law_draw : FnG P w K mg base 1 a__law_draw d__law_draw ["deck", "many"] (SpD K 2 (f__law_draw T.c))) {a_Heights_row_at : Addr} {d_Heights_row_at : FuncData} (F_Heights_row_at : Fun K "row_at" "Heights.row_at" s_Heights_row_at a_Heights_row_at d_Heights_row_at) (M_Heights_row_at : Meth K T.c.Heights "row_at" a_Heights_row_at) (g_Heights_row_at : FnG P w K mg base 23 a_Heights_row_at d_Heights_row_at ["self", "offset"] (SpD K 2 (f_Heights_row_at T.c))) {a_Heights___len__ : Addr} {d_Heights___len__ : FuncData} (F_Heights___len__ : Fun K "__len__" "Heights.__len__" s_Heights___len__ a_Heights___len__ d_Heights___len__) (M_Heights___len__ : Meth K T.c.Heights "__len__" a_Heights___len__) (g_Heights___len__ : FnG P w K mg base 23 a_Heights___len__ d_Heights___len__ ["self"] (SpD K 1 (f_Heights___len__ T.c))) {a_Heights_total : Addr} {d_Heights_total : FuncData} (F_Heights_total : Fun K "total" "Heights.total" s_Heights_total a_Heights_total d_Heights_total) (M_Heights_total : Meth K T.c.Heights "total" a_Heights_total) (g_Heights_total : FnG P w K mg base 2 a_Heights_total d_Heights_total ["self"] (SpD K 1 (f_Heights_total T.c))) {a_Heights_known : Addr} {d_Heights_known : FuncData} (F_Heights_known : Fun K "known" "Heights.known" s_Heights_known a_Heights_known d_Heights_known) (M_Heights_known : Meth K T.c.Heights "known" a_Heights_known) (g_Heights_known : FnG P w K mg base 1 a_Heights_known d_Heights_known ["self"] (SpD K 1 (f_Heights_known T.c))) {a_Heights_offset : Addr} {d_Heights_offset : FuncData} (F_Heights_offset : Fun K "offset" "Heights.offset" s_Heights_offset a_Heights_offset d_Heights_offset) (M_Heights_offset : Meth K T.c.Heights "offset" a_Heights_offset) (g_Heights_offset : FnG P w K mg base 23 a_Heights_offset d_Heights_offset ["self", "index"] (SpD K 2 (f_Heights_offset T.c))) {a__law_covering : Addr} {d__law_covering : FuncData} (F__law_covering : Fun K "_law_covering" "_law_covering" s__law_covering a__law_covering d__law_covering) (M__law_covering : mg "_law_covering" = some (.ref a__law_covering)) (g__law_covering : FnG P w K mg base 3 a__law_covering d__law_covering ["heights", "guess", "offset"] (SpD K 3 (f__law_covering T.c))) {a_Heights_height : Addr} {d_Heights_height : FuncData} (F_Heights_height : Fun K "height" "Heights.height" s_Heights_height a_Heights_height d_Heights_height) (M_Heights_height : Meth K T.c.Heights "height" a_Heights_height) (g_Heights_height : FnG P w K mg base 23 a_Heights_height d_Heights_height ["self", "index"] (SpD K 2 (f_Heights_height T.c))) : FnG P w K mg base 25 a__law_looks_right d__law_looks_right ["deck", "rows", "guess", "heights"] (SpD K 4 (f__law_looks_right T.c)) := by
  refine fng_mk (k := 24) F__law_looks_right sc__law_looks_right (by decide) fun cdv A outer s H E room grd => ?_
  have tk : Takes (cxOf (L2.CX P w) P w K mg base ["deck", "rows", "guess", "heights", "total", "known", "turn", "index", "offset", "height"] "_law_looks_right" (defScope s__law_looks_right) a__law_looks_right cdv A outer s H E) (WE' E) := takes_of rfl rfl rfl rfl
  have pw := passW_of tk
  have room : Room 24 (cxOf (L2.CX P w) P w K mg base ["deck", "rows", "guess", "heights", "total", "known", "turn", "index", "offset", "height"] "_law_looks_right" (defScope s__law_looks_right) a__law_looks_right cdv A outer s H E).A := room
  exact (dss_cons (ds_set 4 sc__law_looks_right.nd (de_call (n := 3) (ks := []) (pr := [0, 1, 2]) g__law_before (room.mono (by decide)) grd pw M__law_before F__law_before.kp (cbind_of F__law_before fun _ _ _ _ _ _ us ws h1 h2 => match us, ws, h1, h2 with | [_, _, _], [], _, _ => rfl) rfl (by decide) (da_cons (de_var 3) (da_cons (de_var 2) (da_cons (de_callB call_len o_len T.b_len (by decide +kernel) (da_cons (de_var 3) da_nil)) da_nil))) dk_nil))
      (dss_cons (ds_set 5 sc__law_looks_right.nd (de_callB call_len o_len T.b_len (by decide +kernel) (da_cons (de_p (dl_lc (own := [("height", 9)]) rfl sc__law_looks_right.nd (di_list (de_var 3)) (blkOk_by (by kernel_rfl)) (fun _ _ _ _ _ => (dg_name 9 sc__law_looks_right.nd)) (fun _ _ _ _ _ => (dts_one (dt_cmp op_notN o_notN (de_var 9) de_non (nomark _)))) (fun _ _ _ _ _ => (de_var 9)))) da_nil)))
      (dss_cons (ds_if (dt_not (dt_val (de_call (n := 2) (ks := []) (pr := [0, 1]) (g__law_same 6) (room.mono (by decide)) grd pw M__law_same F__law_same.kp (cbind_of F__law_same fun _ _ _ _ _ _ us ws h1 h2 => match us, ws, h1, h2 with | [_, _], [], _, _ => rfl) rfl (by decide) (da_cons (de_p (dl_lst (da_cons (de_lenO (de_var 1) M_Heights___len__ g_Heights___len__ (room.mono (by decide)) grd pw (cbind_of F_Heights___len__ fun _ _ _ _ _ _ us ws h1 h2 => match us, ws, h1, h2 with | [_], [], _, _ => rfl) rfl T.b_len) (da_cons (de_methK (ks := []) (pr := []) (de_var 1) T.cl_Heights M_Heights_total g_Heights_total (room.mono (by decide)) grd pw (cbind_of F_Heights_total fun _ _ _ _ _ _ us ws h1 h2 => match us, ws, h1, h2 with | [_], [], _, _ => rfl) rfl (by decide) dk_nil) (da_cons (de_methK (ks := []) (pr := []) (de_var 1) T.cl_Heights M_Heights_known g_Heights_known (room.mono (by decide)) grd pw (cbind_of F_Heights_known fun _ _ _ _ _ _ us ws h1 h2 => match us, ws, h1, h2 with | [_], [], _, _ => rfl) rfl (by decide) dk_nil) da_nil))))) (da_cons (de_p (dl_lst (da_cons (de_callB call_len o_len T.b_len (by decide +kernel) (da_cons (de_var 3) da_nil)) (da_cons (de_var 4) (da_cons (de_var 5) da_nil))))) da_nil)) dk_nil)))
      (dss_one (ds_ret de_bl))
      dss_nil)
      (dss_cons (ds_for (passes_of rfl) rfl (di_range1 (da_cons de_int da_nil) T.b_range) (dg_name 6 sc__law_looks_right.nd)
      (dss_cons (ds_set 7 sc__law_looks_right.nd (de_call (n := 2) (ks := []) (pr := [0, 1]) g__law_draw (room.mono (by decide)) grd pw M__law_draw F__law_draw.kp (cbind_of F__law_draw fun _ _ _ _ _ _ us ws h1 h2 => match us, ws, h1, h2 with | [_, _], [], _, _ => rfl) rfl (by decide) (da_cons (de_var 0) (da_cons (de_bin op_add4 o_add (de_callB call_len o_len T.b_len (by decide +kernel) (da_cons (de_var 3) da_nil)) de_int) da_nil)) dk_nil))
      (dss_cons (ds_if (dt_not (dt_val (de_call (n := 2) (ks := []) (pr := [0, 1]) (g__law_same 6) (room.mono (by decide)) grd pw M__law_same F__law_same.kp (cbind_of F__law_same fun _ _ _ _ _ _ us ws h1 h2 => match us, ws, h1, h2 with | [_, _], [], _, _ => rfl) rfl (by decide) (da_cons (de_meth (n := 1) (ks := []) (pr := [0]) (de_var 1) T.cl_Heights M_Heights_offset g_Heights_offset (room.mono (by decide)) grd pw (cbind_of F_Heights_offset fun _ _ _ _ _ _ us ws h1 h2 => match us, ws, h1, h2 with | [_, _], [], _, _ => rfl) rfl (by decide) (da_cons (de_var 7) da_nil) dk_nil) (da_cons (de_call (n := 3) (ks := []) (pr := [0, 1, 2]) g__law_before (room.mono (by decide)) grd pw M__law_before F__law_before.kp (cbind_of F__law_before fun _ _ _ _ _ _ us ws h1 h2 => match us, ws, h1, h2 with | [_, _, _], [], _, _ => rfl) rfl (by decide) (da_cons (de_var 3) (da_cons (de_var 2) (da_cons (de_var 7) da_nil))) dk_nil) da_nil)) dk_nil)))
      (dss_one (ds_ret de_bl))
      dss_nil)
      (dss_cons (ds_if (dt_w (dw_and (dt_cmp op_lt o_lt (de_var 7) (de_callB call_len o_len T.b_len (by decide +kernel) (da_cons (de_var 3) da_nil)) (nomark _)) (dw_and1 (dt_not (dt_val (de_call (n := 2) (ks := []) (pr := [0, 1]) (g__law_same 6) (room.mono (by decide)) grd pw M__law_same F__law_same.kp (cbind_of F__law_same fun _ _ _ _ _ _ us ws h1 h2 => match us, ws, h1, h2 with | [_, _], [], _, _ => rfl) rfl (by decide) (da_cons (de_meth (n := 1) (ks := []) (pr := [0]) (de_var 1) T.cl_Heights M_Heights_height g_Heights_height (room.mono (by decide)) grd pw (cbind_of F_Heights_height fun _ _ _ _ _ _ us ws h1 h2 => match us, ws, h1, h2 with | [_, _], [], _, _ => rfl) rfl (by decide) (da_cons (de_var 7) da_nil) dk_nil) (da_cons (de_ix (de_var 3) (de_var 7)) da_nil)) dk_nil))))))
      (dss_one (ds_ret de_bl))
      dss_nil)
      (dss_cons (ds_set 8 sc__law_looks_right.nd (de_bin op_sub o_sub (de_bin op_add4 o_add (de_call (n := 3) (ks := []) (pr := [0, 1, 2]) g__law_before (room.mono (by decide)) grd pw M__law_before F__law_before.kp (cbind_of F__law_before fun _ _ _ _ _ _ us ws h1 h2 => match us, ws, h1, h2 with | [_, _, _], [], _, _ => rfl) rfl (by decide) (da_cons (de_var 3) (da_cons (de_var 2) (da_cons (de_var 7) da_nil))) dk_nil) (de_call (n := 2) (ks := []) (pr := [0, 1]) g__law_draw (room.mono (by decide)) grd pw M__law_draw F__law_draw.kp (cbind_of F__law_draw fun _ _ _ _ _ _ us ws h1 h2 => match us, ws, h1, h2 with | [_, _], [], _, _ => rfl) rfl (by decide) (da_cons (de_var 0) (da_cons de_int da_nil)) dk_nil)) de_int))
      (dss_one (ds_if (dt_not (dt_val (de_call (n := 2) (ks := []) (pr := [0, 1]) (g__law_same 6) (room.mono (by decide)) grd pw M__law_same F__law_same.kp (cbind_of F__law_same fun _ _ _ _ _ _ us ws h1 h2 => match us, ws, h1, h2 with | [_, _], [], _, _ => rfl) rfl (by decide) (da_cons (de_meth (n := 1) (ks := []) (pr := [0]) (de_var 1) T.cl_Heights M_Heights_row_at g_Heights_row_at (room.mono (by decide)) grd pw (cbind_of F_Heights_row_at fun _ _ _ _ _ _ us ws h1 h2 => match us, ws, h1, h2 with | [_, _], [], _, _ => rfl) rfl (by decide) (da_cons (de_var 8) da_nil) dk_nil) (da_cons (de_call (n := 3) (ks := []) (pr := [0, 1, 2]) g__law_covering (room.mono (by decide)) grd pw M__law_covering F__law_covering.kp (cbind_of F__law_covering fun _ _ _ _ _ _ us ws h1 h2 => match us, ws, h1, h2 with | [_, _, _], [], _, _ => rfl) rfl (by decide) (da_cons (de_var 3) (da_cons (de_var 2) (da_cons (de_var 8) da_nil))) dk_nil) da_nil)) dk_nil)))
      (dss_one (ds_ret de_bl))
      dss_nil)))))))
      (dss_one (ds_ret (de_call (n := 2) (ks := []) (pr := [0, 1]) (g__law_same 6) (room.mono (by decide)) grd pw M__law_same F__law_same.kp (cbind_of F__law_same fun _ _ _ _ _ _ us ws h1 h2 => match us, ws, h1, h2 with | [_, _], [], _, _ => rfl) rfl (by decide) (da_cons (de_p (dl_lst (da_cons (de_meth (n := 1) (ks := []) (pr := [0]) (de_var 1) T.cl_Heights M_Heights_row_at g_Heights_row_at (room.mono (by decide)) grd pw (cbind_of F_Heights_row_at fun _ _ _ _ _ _ us ws h1 h2 => match us, ws, h1, h2 with | [_, _], [], _, _ => rfl) rfl (by decide) (da_cons (de_un un_neg o_neg de_int) da_nil) dk_nil) (da_cons (de_meth (n := 1) (ks := []) (pr := [0]) (de_var 1) T.cl_Heights M_Heights_row_at g_Heights_row_at (room.mono (by decide)) grd pw (cbind_of F_Heights_row_at fun _ _ _ _ _ _ us ws h1 h2 => match us, ws, h1, h2 with | [_, _], [], _, _ => rfl) rfl (by decide) (da_cons (de_var 4) da_nil) dk_nil) da_nil)))) (da_cons (de_p (dl_lst (da_cons de_non (da_cons de_non da_nil)))) da_nil)) dk_nil)))))))
theorem g_with_height (T : Tx K mg) {a_rows_of : Addr} {d_rows_of : FuncData} (F_rows_of : Fun K "rows_of" "rows_of" s_rows_of a_rows_of d_rows_of) (M_rows_of : mg "rows_of" = some (.ref a_rows_of)) (g_rows_of : FnG P w K mg base 1 a_rows_of d_rows_of ["node"] (SpD K 1 (f_rows_of T.c))) {a_joined : Addr} {d_joined : FuncData} (F_joined : Fun K "joined" "joined" s_joined a_joined d_joined) (M_joined : mg "joined" = some (.ref a_joined)) (g_joined : FnG P w K mg base 2 a_joined d_joined ["left", "height", "right", "guess"] (SpD K 4 (f_joined T.c))) {a_with_height : Addr} {d_with_height : FuncData} (F_with_height : Fun K "with_height" "with_height" s_with_height a_with_height d_with_height) (M_with_height : mg "with_height" = some (.ref a_with_height)) : ∀ n : Nat, FnG P w K mg base (3 + n) a_with_height d_with_height ["node", "index", "height", "guess"] (SpD K 4 (f_with_height T.c n))
  | 0 => fng_zero
  | n + 1 => by
    have ih := g_with_height T F_rows_of M_rows_of g_rows_of F_joined M_joined g_joined F_with_height M_with_height n
    refine fng_mk (k := 3 + n) F_with_height sc_with_height (by decide) fun cdv A outer s H E room grd => ?_
    have tk : Takes (cxOf (L2.CX P w) P w K mg base ["node", "index", "height", "guess", "left", "own", "right", "place"] "with_height" (defScope s_with_height) a_with_height cdv A outer s H E) (WE' E) := takes_of rfl rfl rfl rfl
    have pw := passW_of tk
    have room : Room (3 + n) (cxOf (L2.CX P w) P w K mg base ["node", "index", "height", "guess", "left", "own", "right", "place"] "with_height" (defScope s_with_height) a_with_height cdv A outer s H E).A := room
    exact (dss_cons (ds_asg (de_slice (de_var 0) do_none (do_some de_int)) (dg_tup rfl (dgs_cons (dg_name 4 sc_with_height.nd) (dgs_cons (dg_name 5 sc_with_height.nd) (dgs_cons (dg_name 6 sc_with_height.nd) dgs_nil)))))
      (dss_cons (ds_set 7 sc_with_height.nd (de_call (n := 1) (ks := []) (pr := [0]) g_rows_of (room.mono (by omega)) grd pw M_rows_of F_rows_of.kp (cbind_of F_rows_of fun _ _ _ _ _ _ us ws h1 h2 => match us, ws, h1, h2 with | [_], [], _, _ => rfl) rfl (by decide) (da_cons (de_var 4) da_nil) dk_nil))
      (dss_cons (ds_if (dt_cmp op_lt o_lt (de_var 1) (de_var 7) (nomark _))
      (dss_one (ds_ret (de_call (n := 4) (ks := []) (pr := [0, 1, 2, 3]) g_joined (room.mono (by omega)) grd pw M_joined F_joined.kp (cbind_of F_joined fun _ _ _ _ _ _ us ws h1 h2 => match us, ws, h1, h2 with | [_, _, _, _], [], _, _ => rfl) rfl (by decide) (da_cons (de_call (n := 4) (ks := []) (pr := [0, 1, 2, 3]) ih (room.mono (by omega)) grd pw M_with_height F_with_height.kp (cbind_of F_with_height fun _ _ _ _ _ _ us ws h1 h2 => match us, ws, h1, h2 with | [_, _, _, _], [], _, _ => rfl) rfl (by decide) (da_cons (de_var 4) (da_cons (de_var 1) (da_cons (de_var 2) (da_cons (de_var 3) da_nil)))) dk_nil) (da_cons (de_var 5) (da_cons (de_var 6) (da_cons (de_var 3) da_nil)))) dk_nil)))
      dss_nil)
      (dss_cons (ds_if (dt_cmp op_gt o_gt (de_var 1) (de_var 7) (nomark _))
      (dss_one (ds_ret (de_call (n := 4) (ks := []) (pr := [0, 1, 2, 3]) g_joined (room.mono (by omega)) grd pw M_joined F_joined.kp (cbind_of F_joined fun _ _ _ _ _ _ us ws h1 h2 => match us, ws, h1, h2 with | [_, _, _, _], [], _, _ => rfl) rfl (by decide) (da_cons (de_var 4) (da_cons (de_var 5) (da_cons (de_call (n := 4) (ks := []) (pr := [0, 1, 2, 3]) ih (room.mono (by omega)) grd pw M_with_height F_with_height.kp (cbind_of F_with_height fun _ _ _ _ _ _ us ws h1 h2 => match us, ws, h1, h2 with | [_, _, _, _], [], _, _ => rfl) rfl (by decide) (da_cons (de_var 6) (da_cons (de_bin op_sub o_sub (de_bin op_sub o_sub (de_var 1) (de_var 7)) de_int) (da_cons (de_var 2) (da_cons (de_var 3) da_nil)))) dk_nil) (da_cons (de_var 3) da_nil)))) dk_nil)))
      dss_nil)
      (dss_one (ds_ret (de_call (n := 4) (ks := []) (pr := [0, 1, 2, 3]) g_joined (room.mono (by omega)) grd pw M_joined F_joined.kp (cbind_of F_joined fun _ _ _ _ _ _ us ws h1 h2 => match us, ws, h1, h2 with | [_, _, _, _], [], _, _ => rfl) rfl (by decide) (da_cons (de_var 4) (da_cons (de_var 2) (da_cons (de_var 6) (da_cons (de_var 3) da_nil)))) dk_nil)))))))
theorem g_Heights_learn (T : Tx K mg) {a_Heights_learn : Addr} {d_Heights_learn : FuncData} (F_Heights_learn : Fun K "learn" "Heights.learn" s_Heights_learn a_Heights_learn d_Heights_learn) {a_Heights_need_index : Addr} {d_Heights_need_index : FuncData} (F_Heights_need_index : Fun K "need_index" "Heights.need_index" s_Heights_need_index a_Heights_need_index d_Heights_need_index) (M_Heights_need_index : Meth K T.c.Heights "need_index" a_Heights_need_index) (g_Heights_need_index : FnG P w K mg base 1 a_Heights_need_index d_Heights_need_index ["self", "index", "many"] (SpD K 3 (f_Heights_need_index T.c))) {a_need_height : Addr} {d_need_height : FuncData} (F_need_height : Fun K "need_height" "need_height" s_need_height a_need_height d_need_height) (M_need_height : mg "need_height" = some (.ref a_need_height)) (g_need_height : FnG P w K mg base 1 a_need_height d_need_height ["height"] (SpD K 1 (f_need_height T.c))) {a_with_height : Addr} {d_with_height : FuncData} (F_with_height : Fun K "with_height" "with_height" s_with_height a_with_height d_with_height) (M_with_height : mg "with_height" = some (.ref a_with_height)) (g_with_height : ∀ n : Nat, FnG P w K mg base (3 + n) a_with_height d_with_height ["node", "index", "height", "guess"] (SpD K 4 (f_with_height T.c n))) {a_Heights_height : Addr} {d_Heights_height : FuncData} (F_Heights_height : Fun K "height" "Heights.height" s_Heights_height a_Heights_height d_Heights_height) (M_Heights_height : Meth K T.c.Heights "height" a_Heights_height) (g_Heights_height : FnG P w K mg base 23 a_Heights_height d_Heights_height ["self", "index"] (SpD K 2 (f_Heights_height T.c))) : FnG P w K mg base 24 a_Heights_learn d_Heights_learn ["self", "index", "height"] (SpD K 3 (f_Heights_learn T.c)) := by
  refine fng_mk (k := 23) F_Heights_learn sc_Heights_learn (by decide) fun cdv A outer s H E room grd => ?_
  have tk : Takes (cxOf (L2.CX P w) P w K mg base ["self", "index", "height"] "Heights.learn" (defScope s_Heights_learn) a_Heights_learn cdv A outer s H E) (WE' E) := takes_of rfl rfl rfl rfl
  have pw := passW_of tk
  have room : Room 23 (cxOf (L2.CX P w) P w K mg base ["self", "index", "height"] "Heights.learn" (defScope s_Heights_learn) a_Heights_learn cdv A outer s H E).A := room
  exact (dss_cons (ds_expr (de_meth (n := 2) (ks := []) (pr := [0, 1]) (de_var 0) T.cl_Heights M_Heights_need_index g_Heights_need_index (room.mono (by decide)) grd pw (cbind_of F_Heights_need_index fun _ _ _ _ _ _ us ws h1 h2 => match us, ws, h1, h2 with | [_, _, _], [], _, _ => rfl) rfl (by decide) (da_cons (de_var 1) (da_cons (de_fld T.cl_Heights T.na_Heights_many (de_var 0)) da_nil)) dk_nil))
      (dss_cons (ds_expr (de_call (n := 1) (ks := []) (pr := [0]) g_need_height (room.mono (by decide)) grd pw M_need_height F_need_height.kp (cbind_of F_need_height fun _ _ _ _ _ _ us ws h1 h2 => match us, ws, h1, h2 with | [_], [], _, _ => rfl) rfl (by decide) (da_cons (de_var 2) da_nil) dk_nil))
      (dss_cons (ds_fldaug o_addI iop_add T.cl_Heights T.na_Heights_known_ones (de_bin op_sub o_sub (de_callT call_int1 o_int T.b_int (by decide +kernel) (da_cons (de_cmp op_notN o_notN (de_var 2) de_non (nomark _)) da_nil)) (de_callT call_int1 o_int T.b_int (by decide +kernel) (da_cons (de_cmp op_notN o_notN (de_meth (n := 1) (ks := []) (pr := [0]) (de_var 0) T.cl_Heights M_Heights_height g_Heights_height (room.mono (by decide)) grd pw (cbind_of F_Heights_height fun _ _ _ _ _ _ us ws h1 h2 => match us, ws, h1, h2 with | [_, _], [], _, _ => rfl) rfl (by decide) (da_cons (de_var 1) da_nil) dk_nil) de_non (nomark _)) da_nil))) (de_var 0))
      (dss_one (ds_fld T.cl_Heights T.na_Heights_root (de_call (n := 4) (ks := []) (pr := [0, 1, 2, 3]) (g_with_height 20) (room.mono (by decide)) grd pw M_with_height F_with_height.kp (cbind_of F_with_height fun _ _ _ _ _ _ us ws h1 h2 => match us, ws, h1, h2 with | [_, _, _, _], [], _, _ => rfl) rfl (by decide) (da_cons (de_fld T.cl_Heights T.na_Heights_root (de_var 0)) (da_cons (de_var 1) (da_cons (de_var 2) (da_cons (de_fld T.cl_Heights T.na_Heights_guess (de_var 0)) da_nil)))) dk_nil) (de_var 0))))))
theorem g__law_right (T : Tx K mg) {a__law_right : Addr} {d__law_right : FuncData} (F__law_right : Fun K "_law_right" "_law_right" s__law_right a__law_right d__law_right) {a__law_tree_told : Addr} {d__law_tree_told : FuncData} (F__law_tree_told : Fun K "_law_tree_told" "_law_tree_told" s__law_tree_told a__law_tree_told d__law_tree_told) (M__law_tree_told : mg "_law_tree_told" = some (.ref a__law_tree_told)) (g__law_tree_told : ∀ n : Nat, FnG P w K mg base (2 + n) a__law_tree_told d__law_tree_told ["guess", "tree"] (SpD K 2 (f__law_tree_told T.c n))) {a__law_same : Addr} {d__law_same : FuncData} (F__law_same : Fun K "_law_same" "_law_same" s__law_same a__law_same d__law_same) (M__law_same : mg "_law_same" = some (.ref a__law_same)) (g__law_same : ∀ n : Nat, FnG P w K mg base (1 + n) a__law_same d__law_same ["found", "due"] (SpD K 2 (f__law_same T.c n))) {a_Heights___init__ : Addr} {d_Heights___init__ : FuncData} (F_Heights___init__ : Fun K "__init__" "Heights.__init__" s_Heights___init__ a_Heights___init__ d_Heights___init__) (M_Heights___init__ : Meth K T.c.Heights "__init__" a_Heights___init__) (g_Heights___init__ : FnG P w K mg base 2 a_Heights___init__ d_Heights___init__ ["self", "guess"] (SpD K 2 (f_Heights___init__ T.c))) {a_Heights_tree : Addr} {d_Heights_tree : FuncData} (F_Heights_tree : Fun K "tree" "Heights.tree" s_Heights_tree a_Heights_tree d_Heights_tree) (M_Heights_tree : Meth K T.c.Heights "tree" a_Heights_tree) (g_Heights_tree : FnG P w K mg base 22 a_Heights_tree d_Heights_tree ["self"] (SpD K 1 (f_Heights_tree T.c))) {a_heights_in : Addr} {d_heights_in : FuncData} (F_heights_in : Fun K "heights_in" "heights_in" s_heights_in a_heights_in d_heights_in) (M_heights_in : mg "heights_in" = some (.ref a_heights_in)) (g_heights_in : FnG P w K mg base 22 a_heights_in d_heights_in ["tree"] (SpD K 1 (f_heights_in T.c))) {a__law_draw : Addr} {d__law_draw : FuncData} (F__law_draw : Fun K "_law_draw" "_law_draw" s__law_draw a__law_draw d__law_draw) (M__law_draw : mg "_law_draw" = some (.ref a__law_draw)) (g__law_draw : FnG P w K mg base 1 a__law_draw d__law_draw ["deck", "many"] (SpD K 2 (f__law_draw T.c))) {a__law_height : Addr} {d__law_height : FuncData} (F__law_height : Fun K "_law_height" "_law_height" s__law_height a__law_height d__law_height) (M__law_height : mg "_law_height" = some (.ref a__law_height)) (g__law_height : FnG P w K mg base 2 a__law_height d__law_height ["deck"] (SpD K 1 (f__law_height T.c))) {a_Heights_insert : Addr} {d_Heights_insert : FuncData} (F_Heights_insert : Fun K "insert" "Heights.insert" s_Heights_insert a_Heights_insert d_Heights_insert) (M_Heights_insert : Meth K T.c.Heights "insert" a_Heights_insert) (g_Heights_insert : FnG P w K mg base 25 a_Heights_insert d_Heights_insert ["self", "index", "height"] (SpD K 3 (f_Heights_insert T.c))) {a__law_tree_rows : Addr} {d__law_tree_rows : FuncData} (F__law_tree_rows : Fun K "_law_tree_rows" "_law_tree_rows" s__law_tree_rows a__law_tree_rows d__law_tree_rows) (M__law_tree_rows : mg "_law_tree_rows" = some (.ref a__law_tree_rows)) (g__law_tree_rows : ∀ n : Nat, FnG P w K mg base (1 + n) a__law_tree_rows d__law_tree_rows ["tree"] (SpD K 1 (f__law_tree_rows T.c n))) {a_tree_right : Addr} {d_tree_right : FuncData} (F_tree_right : Fun K "tree_right" "tree_right" s_tree_right a_tree_right d_tree_right) (M_tree_right : mg "tree_right" = some (.ref a_tree_right)) (g_tree_right : FnG P w K mg base 23 a_tree_right d_tree_right ["guess", "tree"] (SpD K 2 (f_tree_right T.c))) {a_Heights_remove : Addr} {d_Heights_remove : FuncData} (F_Heights_remove : Fun K "remove" "Heights.remove" s_Heights_remove a_Heights_remove d_Heights_remove) (M_Heights_remove : Meth K T.c.Heights "remove" a_Heights_remove) (g_Heights_remove : FnG P w K mg base 44 a_Heights_remove d_Heights_remove ["self", "index"] (SpD K 2 (f_Heights_remove T.c))) {a__law_looks_right : Addr} {d__law_looks_right : FuncData} (F__law_looks_right : Fun K "_law_looks_right" "_law_looks_right" s__law_looks_right a__law_looks_right d__law_looks_right) (M__law_looks_right : mg "_law_looks_right" = some (.ref a__law_looks_right)) (g__law_looks_right : FnG P w K mg base 25 a__law_looks_right d__law_looks_right ["deck", "rows", "guess", "heights"] (SpD K 4 (f__law_looks_right T.c))) {a_Heights_learn : Addr} {d_Heights_learn : FuncData} (F_Heights_learn : Fun K "learn" "Heights.learn" s_Heights_learn a_Heights_learn d_Heights_learn) (M_Heights_learn : Meth K T.c.Heights "learn" a_Heights_learn) (g_Heights_learn : FnG P w K mg base 24 a_Heights_learn d_Heights_learn ["self", "index", "height"] (SpD K 3 (f_Heights_learn T.c))) : FnG P w K mg base 45 a__law_right d__law_right ["deck"] (SpD K 1 (f__law_right T.c)) := by
  refine fng_mk (k := 44) F__law_right sc__law_right (by decide) fun cdv A outer s H E room grd => ?_
  have tk : Takes (cxOf (L2.CX P w) P w K mg base ["deck", "guess", "heights", "rows", "turn", "way", "index", "height", "said", "told"] "_law_right" (defScope s__law_right) a__law_right cdv A outer s H E) (WE' E) := takes_of rfl rfl rfl rfl
  have pw := passW_of tk
  have room : Room 44 (cxOf (L2.CX P w) P w K mg base ["deck", "guess", "heights", "rows", "turn", "way", "index", "height", "said", "told"] "_law_right" (defScope s__law_right) a__law_right cdv A outer s H E).A := room
  exact (dss_cons (ds_par2 1 2 rfl sc__law_right.nd (da_cons (de_bin op_add4 o_add de_int (de_call (n := 2) (ks := []) (pr := [0, 1]) g__law_draw (room.mono (by decide)) grd pw M__law_draw F__law_draw.kp (cbind_of F__law_draw fun _ _ _ _ _ _ us ws h1 h2 => match us, ws, h1, h2 with | [_, _], [], _, _ => rfl) rfl (by decide) (da_cons (de_var 0) (da_cons de_int da_nil)) dk_nil)) (da_cons (de_p (dl_lst da_nil)) da_nil)))
      (dss_cons (ds_trim (ds_set 3 sc__law_right.nd (de_if (dt_cmp (op_eqD room.units) o_eq (de_call (n := 2) (ks := []) (pr := [0, 1]) g__law_draw (room.mono (by decide)) grd pw M__law_draw F__law_draw.kp (cbind_of F__law_draw fun _ _ _ _ _ _ us ws h1 h2 => match us, ws, h1, h2 with | [_, _], [], _, _ => rfl) rfl (by decide) (da_cons (de_var 0) (da_cons de_int da_nil)) dk_nil) de_int (nomark _)) (de_make (n := 1) (ks := []) (pr := [0]) ⟨T.mk_Heights_1, M_Heights___init__.at_, M_Heights___init__.fn, T.mk_Heights_2⟩ g_Heights___init__ (room.mono (by decide)) grd pw T.mg_Heights (cbind_of F_Heights___init__ fun _ _ _ _ _ _ us ws h1 h2 => match us, ws, h1, h2 with | [_, _], [], _, _ => rfl) rfl (by decide) (da_cons (de_var 1) da_nil) dk_nil) (de_makeK (ks := ["guess"]) (pr := [0]) ⟨T.mk_Heights_1, M_Heights___init__.at_, M_Heights___init__.fn, T.mk_Heights_2⟩ g_Heights___init__ (room.mono (by decide)) grd pw T.mg_Heights (cbind_of F_Heights___init__ fun _ _ _ _ _ _ us ws h1 h2 => match us, ws, h1, h2 with | [_], [_], _, _ => rfl) rfl (by decide) (dk_cons (de_var 1) dk_nil)))))
      (dss_cons (ds_for (passes_of rfl) rfl (di_range1 (da_cons (de_ix (de_p (dl_lst (da_cons de_int (da_cons de_int (da_cons de_int da_nil))))) (de_call (n := 2) (ks := []) (pr := [0, 1]) g__law_draw (room.mono (by decide)) grd pw M__law_draw F__law_draw.kp (cbind_of F__law_draw fun _ _ _ _ _ _ us ws h1 h2 => match us, ws, h1, h2 with | [_, _], [], _, _ => rfl) rfl (by decide) (da_cons (de_var 0) (da_cons de_int da_nil)) dk_nil)) da_nil) T.b_range) (dg_name 4 sc__law_right.nd)
      (dss_cons (ds_par3 5 6 7 rfl sc__law_right.nd (da_cons (de_call (n := 2) (ks := []) (pr := [0, 1]) g__law_draw (room.mono (by decide)) grd pw M__law_draw F__law_draw.kp (cbind_of F__law_draw fun _ _ _ _ _ _ us ws h1 h2 => match us, ws, h1, h2 with | [_, _], [], _, _ => rfl) rfl (by decide) (da_cons (de_var 0) (da_cons de_int da_nil)) dk_nil) (da_cons (de_call (n := 2) (ks := []) (pr := [0, 1]) g__law_draw (room.mono (by decide)) grd pw M__law_draw F__law_draw.kp (cbind_of F__law_draw fun _ _ _ _ _ _ us ws h1 h2 => match us, ws, h1, h2 with | [_, _], [], _, _ => rfl) rfl (by decide) (da_cons (de_var 0) (da_cons (de_bin op_add4 o_add (de_callB call_len o_len T.b_len (by decide +kernel) (da_cons (de_var 2) da_nil)) de_int) da_nil)) dk_nil) (da_cons (de_call (n := 1) (ks := []) (pr := [0]) g__law_height (room.mono (by decide)) grd pw M__law_height F__law_height.kp (cbind_of F__law_height fun _ _ _ _ _ _ us ws h1 h2 => match us, ws, h1, h2 with | [_], [], _, _ => rfl) rfl (by decide) (da_cons (de_var 0) da_nil) dk_nil) da_nil))))
      (dss_cons (ds_set 8 sc__law_right.nd de_non)
      (dss_cons (ds_if (dt_w (dw_or (dt_cmp op_lt o_lt (de_var 5) de_int (nomark _)) (dw_or1 (dt_cmp (op_eqD room.units) o_eq (de_var 6) (de_callB call_len o_len T.b_len (by decide +kernel) (da_cons (de_var 2) da_nil)) (nomark _)))))
      (dss_cons (ds_set 8 sc__law_right.nd (de_meth (n := 2) (ks := []) (pr := [0, 1]) (de_var 3) T.cl_Heights M_Heights_insert g_Heights_insert (room.mono (by decide)) grd pw (cbind_of F_Heights_insert fun _ _ _ _ _ _ us ws h1 h2 => match us, ws, h1, h2 with | [_, _, _], [], _, _ => rfl) rfl (by decide) (da_cons (de_var 6) (da_cons (de_var 7) da_nil)) dk_nil))
      (dss_one (ds_set 2 sc__law_right.nd (de_bin op_add4 o_add (de_bin op_add4 o_add (de_slice (de_var 2) do_none (do_some (de_var 6))) (de_p (dl_lst (da_cons (de_var 7) da_nil)))) (de_slice (de_var 2) (do_some (de_var 6)) do_none)))))
      (dss_one (ds_if (dt_cmp op_lt o_lt (de_var 5) de_int (nomark _))
      (dss_cons (ds_set 8 sc__law_right.nd (de_if (dt_cmp (op_eqD room.units) o_eq (de_var 5) de_int (nomark _)) (de_meth (n := 2) (ks := []) (pr := [0, 1]) (de_var 3) T.cl_Heights M_Heights_learn g_Heights_learn (room.mono (by decide)) grd pw (cbind_of F_Heights_learn fun _ _ _ _ _ _ us ws h1 h2 => match us, ws, h1, h2 with | [_, _, _], [], _, _ => rfl) rfl (by decide) (da_cons (de_var 6) (da_cons (de_var 7) da_nil)) dk_nil) (de_methK (ks := ["height", "index"]) (pr := [1, 0]) (de_var 3) T.cl_Heights M_Heights_learn g_Heights_learn (room.mono (by decide)) grd pw (cbind_of F_Heights_learn fun _ _ _ _ _ _ us ws h1 h2 => match us, ws, h1, h2 with | [_], [_, _], _, _ => rfl) rfl (by decide) (dk_cons (de_var 7) (dk_cons (de_var 6) dk_nil)))))
      (dss_one (ds_set 2 sc__law_right.nd (de_bin op_add4 o_add (de_bin op_add4 o_add (de_slice (de_var 2) do_none (do_some (de_var 6))) (de_p (dl_lst (da_cons (de_var 7) da_nil)))) (de_slice (de_var 2) (do_some (de_bin op_add4 o_add (de_var 6) de_int)) do_none)))))
      (dss_cons (ds_set 8 sc__law_right.nd (de_meth (n := 1) (ks := []) (pr := [0]) (de_var 3) T.cl_Heights M_Heights_remove g_Heights_remove (room.mono (by decide)) grd pw (cbind_of F_Heights_remove fun _ _ _ _ _ _ us ws h1 h2 => match us, ws, h1, h2 with | [_, _], [], _, _ => rfl) rfl (by decide) (da_cons (de_var 6) da_nil) dk_nil))
      (dss_one (ds_set 2 sc__law_right.nd (de_bin op_add4 o_add (de_slice (de_var 2) do_none (do_some (de_var 6))) (de_slice (de_var 2) (do_some (de_bin op_add4 o_add (de_var 6) de_int)) do_none))))))))
      (dss_one (ds_if (dt_w (dw_or (dt_cmp op_notN o_notN (de_var 8) de_non (nomark _)) (dw_or1 (dt_not (dt_val (de_call (n := 4) (ks := []) (pr := [0, 1, 2, 3]) g__law_looks_right (room.mono (by decide)) grd pw M__law_looks_right F__law_looks_right.kp (cbind_of F__law_looks_right fun _ _ _ _ _ _ us ws h1 h2 => match us, ws, h1, h2 with | [_, _, _, _], [], _, _ => rfl) rfl (by decide) (da_cons (de_var 0) (da_cons (de_var 3) (da_cons (de_var 1) (da_cons (de_var 2) da_nil)))) dk_nil))))))
      (dss_one (ds_ret de_bl))
      dss_nil))))))
      (dss_cons (ds_set 9 sc__law_right.nd (de_call (n := 2) (ks := []) (pr := [0, 1]) (g__law_tree_told 20) (room.mono (by decide)) grd pw M__law_tree_told F__law_tree_told.kp (cbind_of F__law_tree_told fun _ _ _ _ _ _ us ws h1 h2 => match us, ws, h1, h2 with | [_, _], [], _, _ => rfl) rfl (by decide) (da_cons (de_var 1) (da_cons (de_methK (ks := []) (pr := []) (de_var 3) T.cl_Heights M_Heights_tree g_Heights_tree (room.mono (by decide)) grd pw (cbind_of F_Heights_tree fun _ _ _ _ _ _ us ws h1 h2 => match us, ws, h1, h2 with | [_], [], _, _ => rfl) rfl (by decide) dk_nil) da_nil)) dk_nil))
      (dss_cons (ds_if (dt_w (dw_or (dt_cmp op_isN o_isN (de_var 9) de_non (nomark _)) (dw_or (dt_cmp (op_neD room.units) o_ne (de_call (n := 1) (ks := []) (pr := [0]) (g__law_tree_rows 20) (room.mono (by decide)) grd pw M__law_tree_rows F__law_tree_rows.kp (cbind_of F__law_tree_rows fun _ _ _ _ _ _ us ws h1 h2 => match us, ws, h1, h2 with | [_], [], _, _ => rfl) rfl (by decide) (da_cons (de_methK (ks := []) (pr := []) (de_var 3) T.cl_Heights M_Heights_tree g_Heights_tree (room.mono (by decide)) grd pw (cbind_of F_Heights_tree fun _ _ _ _ _ _ us ws h1 h2 => match us, ws, h1, h2 with | [_], [], _, _ => rfl) rfl (by decide) dk_nil) da_nil) dk_nil) (de_var 2) (nomark _)) (dw_or1 (dt_cmp op_notBl o_notB (de_call (n := 2) (ks := []) (pr := [0, 1]) g_tree_right (room.mono (by decide)) grd pw M_tree_right F_tree_right.kp (cbind_of F_tree_right fun _ _ _ _ _ _ us ws h1 h2 => match us, ws, h1, h2 with | [_, _], [], _, _ => rfl) rfl (by decide) (da_cons (de_var 1) (da_cons (de_methK (ks := []) (pr := []) (de_var 3) T.cl_Heights M_Heights_tree g_Heights_tree (room.mono (by decide)) grd pw (cbind_of F_Heights_tree fun _ _ _ _ _ _ us ws h1 h2 => match us, ws, h1, h2 with | [_], [], _, _ => rfl) rfl (by decide) dk_nil) da_nil)) dk_nil) de_bl (nomark _))))))
      (dss_one (ds_ret de_bl))
      dss_nil)
      (dss_one (ds_ret (de_call (n := 2) (ks := []) (pr := [0, 1]) (g__law_same 6) (room.mono (by decide)) grd pw M__law_same F__law_same.kp (cbind_of F__law_same fun _ _ _ _ _ _ us ws h1 h2 => match us, ws, h1, h2 with | [_, _], [], _, _ => rfl) rfl (by decide) (da_cons (de_call (n := 1) (ks := []) (pr := [0]) g_heights_in (room.mono (by decide)) grd pw M_heights_in F_heights_in.kp (cbind_of F_heights_in fun _ _ _ _ _ _ us ws h1 h2 => match us, ws, h1, h2 with | [_], [], _, _ => rfl) rfl (by decide) (da_cons (de_methK (ks := []) (pr := []) (de_var 3) T.cl_Heights M_Heights_tree g_Heights_tree (room.mono (by decide)) grd pw (cbind_of F_Heights_tree fun _ _ _ _ _ _ us ws h1 h2 => match us, ws, h1, h2 with | [_], [], _, _ => rfl) rfl (by decide) dk_nil) da_nil) dk_nil) (da_cons (de_var 2) da_nil)) dk_nil))))))))
theorem g__law_deck (T : Tx K mg) {a__law_deck : Addr} {d__law_deck : FuncData} (F__law_deck : Fun K "_law_deck" "_law_deck" s__law_deck a__law_deck d__law_deck) : FnG P w K mg base 1 a__law_deck d__law_deck ["script", "k"] (SpD K 2 (f__law_deck T.c)) := by
  refine fng_mk (k := 0) F__law_deck sc__law_deck (by decide) fun cdv A outer s H E room grd => ?_
  have tk : Takes (cxOf (L2.CX P w) P w K mg base ["script", "k", "cell", "mixed", "at"] "_law_deck" (defScope s__law_deck) a__law_deck cdv A outer s H E) (WE' E) := takes_of rfl rfl rfl rfl
  have pw := passW_of tk
  have room : Room 0 (cxOf (L2.CX P w) P w K mg base ["script", "k", "cell", "mixed", "at"] "_law_deck" (defScope s__law_deck) a__law_deck cdv A outer s H E).A := room
  exact (dss_cons (ds_par2 2 3 rfl sc__law_deck.nd (da_cons (de_bin op_add4 o_add (de_bin op_mulX o_mulX de_int (de_var 1)) de_int) (da_cons (de_bin op_add4 o_add de_int (de_var 1)) da_nil)))
      (dss_cons (ds_if (dt_cmp op_lt o_lt (de_var 1) (de_callB call_len o_len T.b_len (by decide +kernel) (da_cons (de_var 0) da_nil)) (nomark _))
      (dss_one (ds_set 2 sc__law_deck.nd (de_ix (de_var 0) (de_var 1))))
      dss_nil)
      (dss_cons (ds_for (passes_of rfl) rfl (di_range1 (da_cons (de_callB call_len o_len T.b_len (by decide +kernel) (da_cons (de_var 0) da_nil)) da_nil) T.b_range) (dg_name 4 sc__law_deck.nd)
      (dss_one (ds_set 3 sc__law_deck.nd (de_bin op_mod o_mod (de_callT call_int1 o_int T.b_int (by decide +kernel) (da_cons (de_bin op_add4 o_add (de_bin op_add4 o_add (de_bin op_mulX o_mulX (de_var 3) de_int) (de_bin op_mod o_mod (de_callT call_int1 o_int T.b_int (by decide +kernel) (da_cons (de_ix (de_var 0) (de_var 4)) da_nil)) (de_bin op_add4 o_add (de_bin op_powW o_pow de_int de_int) de_int))) (de_bin op_mulX o_mulX de_int (de_var 4))) da_nil)) (de_bin op_add4 o_add (de_bin op_powW o_pow de_int de_int) de_int)))))
      (dss_one (ds_ret (de_tmp (dl_lst (da_cons (de_callB (call_max2 rfl) o_max2 T.b_max (by decide +kernel) (da_cons de_int (da_cons (de_bin op_sub o_sub (de_var 2) (de_bin op_powW o_pow de_int de_int)) da_nil))) (da_cons (de_bin op_add4 o_add (de_bin op_mulX o_mulX (de_var 3) de_int) (de_bin op_mod o_mod (de_callT call_int1 o_int T.b_int (by decide +kernel) (da_cons (de_callB call_abs o_abs T.b_abs (by decide +kernel) (da_cons (de_var 2) da_nil)) da_nil)) (de_bin op_add4 o_add (de_bin op_powW o_pow de_int de_int) de_int))) (da_cons de_int da_nil))))))))))
theorem g_law (T : Tx K mg) {a_law : Addr} {d_law : FuncData} (F_law : Fun K "law" "law" s_law a_law d_law) {a__law_right : Addr} {d__law_right : FuncData} (F__law_right : Fun K "_law_right" "_law_right" s__law_right a__law_right d__law_right) (M__law_right : mg "_law_right" = some (.ref a__law_right)) (g__law_right : FnG P w K mg base 45 a__law_right d__law_right ["deck"] (SpD K 1 (f__law_right T.c))) {a__law_deck : Addr} {d__law_deck : FuncData} (F__law_deck : Fun K "_law_deck" "_law_deck" s__law_deck a__law_deck d__law_deck) (M__law_deck : mg "_law_deck" = some (.ref a__law_deck)) (g__law_deck : FnG P w K mg base 1 a__law_deck d__law_deck ["script", "k"] (SpD K 2 (f__law_deck T.c))) : FnG P w K mg base 46 a_law d_law ["script"] (SpD K 1 (f_law T.c)) := by
  refine fng_mk (k := 45) F_law sc_law (by decide) fun cdv A outer s H E room grd => ?_
  have tk : Takes (cxOf (L2.CX P w) P w K mg base ["script", "k"] "law" (defScope s_law) a_law cdv A outer s H E) (WE' E) := takes_of rfl rfl rfl rfl
  have pw := passW_of tk
  have room : Room 45 (cxOf (L2.CX P w) P w K mg base ["script", "k"] "law" (defScope s_law) a_law cdv A outer s H E).A := room
  exact (dss_cons (ds_for (passes_of rfl) rfl (di_range1 (da_cons (de_callB (call_max2 rfl) o_max2 T.b_max (by decide +kernel) (da_cons de_int (da_cons (de_callB (call_min2 rfl) o_min2 T.b_min (by decide +kernel) (da_cons de_int (da_cons (de_callB call_len o_len T.b_len (by decide +kernel) (da_cons (de_var 0) da_nil)) da_nil))) da_nil))) da_nil) T.b_range) (dg_name 1 sc_law.nd)
      (dss_one (ds_trim (ds_if (dt_not (dt_val (de_call (n := 1) (ks := []) (pr := [0]) g__law_right (room.mono (by decide)) grd pw M__law_right F__law_right.kp (cbind_of F__law_right fun _ _ _ _ _ _ us ws h1 h2 => match us, ws, h1, h2 with | [_], [], _, _ => rfl) rfl (by decide) (da_cons (de_call (n := 2) (ks := []) (pr := [0, 1]) g__law_deck (room.mono (by decide)) grd pw M__law_deck F__law_deck.kp (cbind_of F__law_deck fun _ _ _ _ _ _ us ws h1 h2 => match us, ws, h1, h2 with | [_, _], [], _, _ => rfl) rfl (by decide) (da_cons (de_var 0) (da_cons (de_var 1) da_nil)) dk_nil) da_nil) dk_nil)))
      (dss_one (ds_ret de_bl))
      dss_nil))))
      (dss_one (ds_ret de_bl)))
end
/-! what the top has left, and the law -/
theorem all_mk {l : PySem.W.OpenLaw} {w : World} {K : PySem.W.Frag} {h : Heap} {mg : Str → Option Value} {fa : Addr} (inK : K.In h) (G : h.Ns mainGlobals mg) (hfa : mg "law" = some (.ref fa))
    {C_Heights : Addr}
    {a__law_integer : Addr} {oc__law_integer kV__law_integer dc__law_integer pm__law_integer cd__law_integer ct__law_integer : Value} {od__law_integer an__law_integer : Option Addr} {sl__law_integer : Array (Option Value)}
    {a__law_counted : Addr} {oc__law_counted kV__law_counted dc__law_counted pm__law_counted cd__law_counted ct__law_counted : Value} {od__law_counted an__law_counted : Option Addr} {sl__law_counted : Array (Option Value)}
    {a__law_tree_told : Addr} {oc__law_tree_told kV__law_tree_told dc__law_tree_told pm__law_tree_told cd__law_tree_told ct__law_tree_told : Value} {od__law_tree_told an__law_tree_told : Option Addr} {sl__law_tree_told : Array (Option Value)}
    {a__law_same : Addr} {oc__law_same kV__law_same dc__law_same pm__law_same cd__law_same ct__law_same : Value} {od__law_same an__law_same : Option Addr} {sl__law_same : Array (Option Value)}
    {a_need_guess : Addr} {oc_need_guess kV_need_guess dc_need_guess pm_need_guess cd_need_guess ct_need_guess : Value} {od_need_guess an_need_guess : Option Addr} {sl_need_guess : Array (Option Value)}
    {a_Heights___init__ : Addr} {oc_Heights___init__ kV_Heights___init__ dc_Heights___init__ pm_Heights___init__ cd_Heights___init__ ct_Heights___init__ : Value} {od_Heights___init__ an_Heights___init__ : Option Addr} {sl_Heights___init__ : Array (Option Value)}
    {a_plain_tree : Addr} {oc_plain_tree kV_plain_tree dc_plain_tree pm_plain_tree cd_plain_tree ct_plain_tree : Value} {od_plain_tree an_plain_tree : Option Addr} {sl_plain_tree : Array (Option Value)}
    {a_Heights_tree : Addr} {oc_Heights_tree kV_Heights_tree dc_Heights_tree pm_Heights_tree cd_Heights_tree ct_Heights_tree : Value} {od_Heights_tree an_Heights_tree : Option Addr} {sl_Heights_tree : Array (Option Value)}
    {a_heights_of : Addr} {oc_heights_of kV_heights_of dc_heights_of pm_heights_of cd_heights_of ct_heights_of : Value} {od_heights_of an_heights_of : Option Addr} {sl_heights_of : Array (Option Value)}
    {a_heights_in : Addr} {oc_heights_in kV_heights_in dc_heights_in pm_heights_in cd_heights_in ct_heights_in : Value} {od_heights_in an_heights_in : Option Addr} {sl_heights_in : Array (Option Value)}
    {a__law_draw : Addr} {oc__law_draw kV__law_draw dc__law_draw pm__law_draw cd__law_draw ct__law_draw : Value} {od__law_draw an__law_draw : Option Addr} {sl__law_draw : Array (Option Value)}
    {a__law_height : Addr} {oc__law_height kV__law_height dc__law_height pm__law_height cd__law_height ct__law_height : Value} {od__law_height an__law_height : Option Addr} {sl__law_height : Array (Option Value)}
    {a_Heights_need_index : Addr} {oc_Heights_need_index kV_Heights_need_index dc_Heights_need_index pm_Heights_need_index cd_Heights_need_index ct_Heights_need_index : Value} {od_Heights_need_index an_Heights_need_index : Option Addr} {sl_Heights_need_index : Array (Option Value)}
    {a_need_height : Addr} {oc_need_height kV_need_height dc_need_height pm_need_height cd_need_height ct_need_height : Value} {od_need_height an_need_height : Option Addr} {sl_need_height : Array (Option Value)}
    {a_rows_of : Addr} {oc_rows_of kV_rows_of dc_rows_of pm_rows_of cd_rows_of ct_rows_of : Value} {od_rows_of an_rows_of : Option Addr} {sl_rows_of : Array (Option Value)}
    {a_total_of : Addr} {oc_total_of kV_total_of dc_total_of pm_total_of cd_total_of ct_total_of : Value} {od_total_of an_total_of : Option Addr} {sl_total_of : Array (Option Value)}
    {a_counted : Addr} {oc_counted kV_counted dc_counted pm_counted cd_counted ct_counted : Value} {od_counted an_counted : Option Addr} {sl_counted : Array (Option Value)}
    {a_depth_of : Addr} {oc_depth_of kV_depth_of dc_depth_of pm_depth_of cd_depth_of ct_depth_of : Value} {od_depth_of an_depth_of : Option Addr} {sl_depth_of : Array (Option Value)}
    {a_joined : Addr} {oc_joined kV_joined dc_joined pm_joined cd_joined ct_joined : Value} {od_joined an_joined : Option Addr} {sl_joined : Array (Option Value)}
    {a_balanced : Addr} {oc_balanced kV_balanced dc_balanced pm_balanced cd_balanced ct_balanced : Value} {od_balanced an_balanced : Option Addr} {sl_balanced : Array (Option Value)}
    {a_with_row : Addr} {oc_with_row kV_with_row dc_with_row pm_with_row cd_with_row ct_with_row : Value} {od_with_row an_with_row : Option Addr} {sl_with_row : Array (Option Value)}
    {a_Heights_insert : Addr} {oc_Heights_insert kV_Heights_insert dc_Heights_insert pm_Heights_insert cd_Heights_insert ct_Heights_insert : Value} {od_Heights_insert an_Heights_insert : Option Addr} {sl_Heights_insert : Array (Option Value)}
    {a__law_tree_rows : Addr} {oc__law_tree_rows kV__law_tree_rows dc__law_tree_rows pm__law_tree_rows cd__law_tree_rows ct__law_tree_rows : Value} {od__law_tree_rows an__law_tree_rows : Option Addr} {sl__law_tree_rows : Array (Option Value)}
    {a_is_integer : Addr} {oc_is_integer kV_is_integer dc_is_integer pm_is_integer cd_is_integer ct_is_integer : Value} {od_is_integer an_is_integer : Option Addr} {sl_is_integer : Array (Option Value)}
    {a_measured : Addr} {oc_measured kV_measured dc_measured pm_measured cd_measured ct_measured : Value} {od_measured an_measured : Option Addr} {sl_measured : Array (Option Value)}
    {a_tree_right : Addr} {oc_tree_right kV_tree_right dc_tree_right pm_tree_right cd_tree_right ct_tree_right : Value} {od_tree_right an_tree_right : Option Addr} {sl_tree_right : Array (Option Value)}
    {a_height_at : Addr} {oc_height_at kV_height_at dc_height_at pm_height_at cd_height_at ct_height_at : Value} {od_height_at an_height_at : Option Addr} {sl_height_at : Array (Option Value)}
    {a_without_row : Addr} {oc_without_row kV_without_row dc_without_row pm_without_row cd_without_row ct_without_row : Value} {od_without_row an_without_row : Option Addr} {sl_without_row : Array (Option Value)}
    {a_Heights_height : Addr} {oc_Heights_height kV_Heights_height dc_Heights_height pm_Heights_height cd_Heights_height ct_Heights_height : Value} {od_Heights_height an_Heights_height : Option Addr} {sl_Heights_height : Array (Option Value)}
    {a_Heights_remove : Addr} {oc_Heights_remove kV_Heights_remove dc_Heights_remove pm_Heights_remove cd_Heights_remove ct_Heights_remove : Value} {od_Heights_remove an_Heights_remove : Option Addr} {sl_Heights_remove : Array (Option Value)}
    {a__law_before : Addr} {oc__law_before kV__law_before dc__law_before pm__law_before cd__law_before ct__law_before : Value} {od__law_before an__law_before : Option Addr} {sl__law_before : Array (Option Value)}
    {a_covering : Addr} {oc_covering kV_covering dc_covering pm_covering cd_covering ct_covering : Value} {od_covering an_covering : Option Addr} {sl_covering : Array (Option Value)}
    {a_Heights_total : Addr} {oc_Heights_total kV_Heights_total dc_Heights_total pm_Heights_total cd_Heights_total ct_Heights_total : Value} {od_Heights_total an_Heights_total : Option Addr} {sl_Heights_total : Array (Option Value)}
    {a_Heights_row_at : Addr} {oc_Heights_row_at kV_Heights_row_at dc_Heights_row_at pm_Heights_row_at cd_Heights_row_at ct_Heights_row_at : Value} {od_Heights_row_at an_Heights_row_at : Option Addr} {sl_Heights_row_at : Array (Option Value)}
    {a_Heights_all_heights : Addr} {oc_Heights_all_heights kV_Heights_all_heights dc_Heights_all_heights pm_Heights_all_heights cd_Heights_all_heights ct_Heights_all_heights : Value} {od_Heights_all_heights an_Heights_all_heights : Option Addr} {sl_Heights_all_heights : Array (Option Value)}
    {a_Heights___len__ : Addr} {oc_Heights___len__ kV_Heights___len__ dc_Heights___len__ pm_Heights___len__ cd_Heights___len__ ct_Heights___len__ : Value} {od_Heights___len__ an_Heights___len__ : Option Addr} {sl_Heights___len__ : Array (Option Value)}
    {a_Heights_known : Addr} {oc_Heights_known kV_Heights_known dc_Heights_known pm_Heights_known cd_Heights_known ct_Heights_known : Value} {od_Heights_known an_Heights_known : Option Addr} {sl_Heights_known : Array (Option Value)}
    {a_offset_of : Addr} {oc_offset_of kV_offset_of dc_offset_of pm_offset_of cd_offset_of ct_offset_of : Value} {od_offset_of an_offset_of : Option Addr} {sl_offset_of : Array (Option Value)}
    {a_Heights_offset : Addr} {oc_Heights_offset kV_Heights_offset dc_Heights_offset pm_Heights_offset cd_Heights_offset ct_Heights_offset : Value} {od_Heights_offset an_Heights_offset : Option Addr} {sl_Heights_offset : Array (Option Value)}
    {a__law_covering : Addr} {oc__law_covering kV__law_covering dc__law_covering pm__law_covering cd__law_covering ct__law_covering : Value} {od__law_covering an__law_covering : Option Addr} {sl__law_covering : Array (Option Value)}
    {a__law_looks_right : Addr} {oc__law_looks_right kV__law_looks_right dc__law_looks_right pm__law_looks_right cd__law_looks_right ct__law_looks_right : Value} {od__law_looks_right an__law_looks_right : Option Addr} {sl__law_looks_right : Array (Option Value)}
    {a_with_height : Addr} {oc_with_height kV_with_height dc_with_height pm_with_height cd_with_height ct_with_height : Value} {od_with_height an_with_height : Option Addr} {sl_with_height : Array (Option Value)}
    {a_Heights_learn : Addr} {oc_Heights_learn kV_Heights_learn dc_Heights_learn pm_Heights_learn cd_Heights_learn ct_Heights_learn : Value} {od_Heights_learn an_Heights_learn : Option Addr} {sl_Heights_learn : Array (Option Value)}
    {a__law_right : Addr} {oc__law_right kV__law_right dc__law_right pm__law_right cd__law_right ct__law_right : Value} {od__law_right an__law_right : Option Addr} {sl__law_right : Array (Option Value)}
    {a__law_deck : Addr} {oc__law_deck kV__law_deck dc__law_deck pm__law_deck cd__law_deck ct__law_deck : Value} {od__law_deck an__law_deck : Option Addr} {sl__law_deck : Array (Option Value)}
    {a_law : Addr} {oc_law kV_law dc_law pm_law cd_law ct_law : Value} {od_law an_law : Option Addr} {sl_law : Array (Option Value)}
    (n_Heights : PySem.W.nsIn K mainGlobals "Heights" = some (some (.ref C_Heights)))
    (pg_Heights : PySem.W.plainGet K C_Heights Str.empty = true)
    (hd_Heights : PySem.W.hasDictIn K C_Heights = true)
    (po_Heights : PySem.W.plainOver K C_Heights = true)
    (sa_Heights : PySem.W.findIn K (.ref C_Heights) "__setattr__" = some (some (.builtin "object.__setattr__")))
    (ma_Heights : PySem.W.makesIn K C_Heights = true)
    (kc_Heights : PySem.W.keepIn K (.ref C_Heights) = true)
    (na_Heights_guess : PySem.W.findIn K (.ref C_Heights) "guess" = some none)
    (na_Heights_known_ones : PySem.W.findIn K (.ref C_Heights) "known_ones" = some none)
    (na_Heights_many : PySem.W.findIn K (.ref C_Heights) "many" = some none)
    (na_Heights_root : PySem.W.findIn K (.ref C_Heights) "root" = some none)
    (a0__law_integer : PySem.W.nsIn K mainGlobals "_law_integer" = some (some (.ref a__law_integer)))
    (l0__law_integer : K.lookup a__law_integer = some ⟨oc__law_integer, od__law_integer, .func (PySem.W.fnOf "_law_integer" "_law_integer" (defArgs s__law_integer) (defBody s__law_integer) (defScope s__law_integer) .none kV__law_integer dc__law_integer pm__law_integer an__law_integer cd__law_integer ct__law_integer), sl__law_integer⟩)
    (c0__law_integer : PySem.W.codeIn K cd__law_integer "_law_integer" = true)
    (k0__law_integer : PySem.W.keepIn K (.ref a__law_integer) = true)
    (a0__law_counted : PySem.W.nsIn K mainGlobals "_law_counted" = some (some (.ref a__law_counted)))
    (l0__law_counted : K.lookup a__law_counted = some ⟨oc__law_counted, od__law_counted, .func (PySem.W.fnOf "_law_counted" "_law_counted" (defArgs s__law_counted) (defBody s__law_counted) (defScope s__law_counted) .none kV__law_counted dc__law_counted pm__law_counted an__law_counted cd__law_counted ct__law_counted), sl__law_counted⟩)
    (c0__law_counted : PySem.W.codeIn K cd__law_counted "_law_counted" = true)
    (k0__law_counted : PySem.W.keepIn K (.ref a__law_counted) = true)
    (a0__law_tree_told : PySem.W.nsIn K mainGlobals "_law_tree_told" = some (some (.ref a__law_tree_told)))
    (l0__law_tree_told : K.lookup a__law_tree_told = some ⟨oc__law_tree_told, od__law_tree_told, .func (PySem.W.fnOf "_law_tree_told" "_law_tree_told" (defArgs s__law_tree_told) (defBody s__law_tree_told) (defScope s__law_tree_told) .none kV__law_tree_told dc__law_tree_told pm__law_tree_told an__law_tree_told cd__law_tree_told ct__law_tree_told), sl__law_tree_told⟩)
    (c0__law_tree_told : PySem.W.codeIn K cd__law_tree_told "_law_tree_told" = true)
    (k0__law_tree_told : PySem.W.keepIn K (.ref a__law_tree_told) = true)
    (a0__law_same : PySem.W.nsIn K mainGlobals "_law_same" = some (some (.ref a__law_same)))
    (l0__law_same : K.lookup a__law_same = some ⟨oc__law_same, od__law_same, .func (PySem.W.fnOf "_law_same" "_law_same" (defArgs s__law_same) (defBody s__law_same) (defScope s__law_same) .none kV__law_same dc__law_same pm__law_same an__law_same cd__law_same ct__law_same), sl__law_same⟩)
    (c0__law_same : PySem.W.codeIn K cd__law_same "_law_same" = true)
    (k0__law_same : PySem.W.keepIn K (.ref a__law_same) = true)
    (a0_need_guess : PySem.W.nsIn K mainGlobals "need_guess" = some (some (.ref a_need_guess)))
    (l0_need_guess : K.lookup a_need_guess = some ⟨oc_need_guess, od_need_guess, .func (PySem.W.fnOf "need_guess" "need_guess" (defArgs s_need_guess) (defBody s_need_guess) (defScope s_need_guess) .none kV_need_guess dc_need_guess pm_need_guess an_need_guess cd_need_guess ct_need_guess), sl_need_guess⟩)
    (c0_need_guess : PySem.W.codeIn K cd_need_guess "need_guess" = true)
    (k0_need_guess : PySem.W.keepIn K (.ref a_need_guess) = true)
    (a0_Heights___init__ : PySem.W.findIn K (.ref C_Heights) "__init__" = some (some (.ref a_Heights___init__)))
    (i0_Heights___init__ : PySem.W.isFn K (.ref a_Heights___init__) = true)
    (l0_Heights___init__ : K.lookup a_Heights___init__ = some ⟨oc_Heights___init__, od_Heights___init__, .func (PySem.W.fnOf "__init__" "Heights.__init__" (defArgs s_Heights___init__) (defBody s_Heights___init__) (defScope s_Heights___init__) .none kV_Heights___init__ dc_Heights___init__ pm_Heights___init__ an_Heights___init__ cd_Heights___init__ ct_Heights___init__), sl_Heights___init__⟩)
    (c0_Heights___init__ : PySem.W.codeIn K cd_Heights___init__ "Heights.__init__" = true)
    (k0_Heights___init__ : PySem.W.keepIn K (.ref a_Heights___init__) = true)
    (a0_plain_tree : PySem.W.nsIn K mainGlobals "plain_tree" = some (some (.ref a_plain_tree)))
    (l0_plain_tree : K.lookup a_plain_tree = some ⟨oc_plain_tree, od_plain_tree, .func (PySem.W.fnOf "plain_tree" "plain_tree" (defArgs s_plain_tree) (defBody s_plain_tree) (defScope s_plain_tree) .none kV_plain_tree dc_plain_tree pm_plain_tree an_plain_tree cd_plain_tree ct_plain_tree), sl_plain_tree⟩)
    (c0_plain_tree : PySem.W.codeIn K cd_plain_tree "plain_tree" = true)
    (k0_plain_tree : PySem.W.keepIn K (.ref a_plain_tree) = true)
    (a0_Heights_tree : PySem.W.findIn K (.ref C_Heights) "tree" = some (some (.ref a_Heights_tree)))
    (i0_Heights_tree : PySem.W.isFn K (.ref a_Heights_tree) = true)
    (l0_Heights_tree : K.lookup a_Heights_tree = some ⟨oc_Heights_tree, od_Heights_tree, .func (PySem.W.fnOf "tree" "Heights.tree" (defArgs s_Heights_tree) (defBody s_Heights_tree) (defScope s_Heights_tree) .none kV_Heights_tree dc_Heights_tree pm_Heights_tree an_Heights_tree cd_Heights_tree ct_Heights_tree), sl_Heights_tree⟩)
    (c0_Heights_tree : PySem.W.codeIn K cd_Heights_tree "Heights.tree" = true)
    (k0_Heights_tree : PySem.W.keepIn K (.ref a_Heights_tree) = true)
    (a0_heights_of : PySem.W.nsIn K mainGlobals "heights_of" = some (some (.ref a_heights_of)))
    (l0_heights_of : K.lookup a_heights_of = some ⟨oc_heights_of, od_heights_of, .func (PySem.W.fnOf "heights_of" "heights_of" (defArgs s_heights_of) (defBody s_heights_of) (defScope s_heights_of) .none kV_heights_of dc_heights_of pm_heights_of an_heights_of cd_heights_of ct_heights_of), sl_heights_of⟩)
    (c0_heights_of : PySem.W.codeIn K cd_heights_of "heights_of" = true)
    (k0_heights_of : PySem.W.keepIn K (.ref a_heights_of) = true)
    (a0_heights_in : PySem.W.nsIn K mainGlobals "heights_in" = some (some (.ref a_heights_in)))
    (l0_heights_in : K.lookup a_heights_in = some ⟨oc_heights_in, od_heights_in, .func (PySem.W.fnOf "heights_in" "heights_in" (defArgs s_heights_in) (defBody s_heights_in) (defScope s_heights_in) .none kV_heights_in dc_heights_in pm_heights_in an_heights_in cd_heights_in ct_heights_in), sl_heights_in⟩)
    (c0_heights_in : PySem.W.codeIn K cd_heights_in "heights_in" = true)
    (k0_heights_in : PySem.W.keepIn K (.ref a_heights_in) = true)
    (a0__law_draw : PySem.W.nsIn K mainGlobals "_law_draw" = some (some (.ref a__law_draw)))
    (l0__law_draw : K.lookup a__law_draw = some ⟨oc__law_draw, od__law_draw, .func (PySem.W.fnOf "_law_draw" "_law_draw" (defArgs s__law_draw) (defBody s__law_draw) (defScope s__law_draw) .none kV__law_draw dc__law_draw pm__law_draw an__law_draw cd__law_draw ct__law_draw), sl__law_draw⟩)
    (c0__law_draw : PySem.W.codeIn K cd__law_draw "_law_draw" = true)
    (k0__law_draw : PySem.W.keepIn K (.ref a__law_draw) = true)
    (a0__law_height : PySem.W.nsIn K mainGlobals "_law_height" = some (some (.ref a__law_height)))
    (l0__law_height : K.lookup a__law_height = some ⟨oc__law_height, od__law_height, .func (PySem.W.fnOf "_law_height" "_law_height" (defArgs s__law_height) (defBody s__law_height) (defScope s__law_height) .none kV__law_height dc__law_height pm__law_height an__law_height cd__law_height ct__law_height), sl__law_height⟩)
    (c0__law_height : PySem.W.codeIn K cd__law_height "_law_height" = true)
    (k0__law_height : PySem.W.keepIn K (.ref a__law_height) = true)
    (a0_Heights_need_index : PySem.W.findIn K (.ref C_Heights) "need_index" = some (some (.ref a_Heights_need_index)))
    (i0_Heights_need_index : PySem.W.isFn K (.ref a_Heights_need_index) = true)
    (l0_Heights_need_index : K.lookup a_Heights_need_index = some ⟨oc_Heights_need_index, od_Heights_need_index, .func (PySem.W.fnOf "need_index" "Heights.need_index" (defArgs s_Heights_need_index) (defBody s_Heights_need_index) (defScope s_Heights_need_index) .none kV_Heights_need_index dc_Heights_need_index pm_Heights_need_index an_Heights_need_index cd_Heights_need_index ct_Heights_need_index), sl_Heights_need_index⟩)
    (c0_Heights_need_index : PySem.W.codeIn K cd_Heights_need_index "Heights.need_index" = true)
    (k0_Heights_need_index : PySem.W.keepIn K (.ref a_Heights_need_index) = true)
    (a0_need_height : PySem.W.nsIn K mainGlobals "need_height" = some (some (.ref a_need_height)))
    (l0_need_height : K.lookup a_need_height = some ⟨oc_need_height, od_need_height, .func (PySem.W.fnOf "need_height" "need_height" (defArgs s_need_height) (defBody s_need_height) (defScope s_need_height) .none kV_need_height dc_need_height pm_need_height an_need_height cd_need_height ct_need_height), sl_need_height⟩)
    (c0_need_height : PySem.W.codeIn K cd_need_height "need_height" = true)
    (k0_need_height : PySem.W.keepIn K (.ref a_need_height) = true)
    (a0_rows_of : PySem.W.nsIn K mainGlobals "rows_of" = some (some (.ref a_rows_of)))
    (l0_rows_of : K.lookup a_rows_of = some ⟨oc_rows_of, od_rows_of, .func (PySem.W.fnOf "rows_of" "rows_of" (defArgs s_rows_of) (defBody s_rows_of) (defScope s_rows_of) .none kV_rows_of dc_rows_of pm_rows_of an_rows_of cd_rows_of ct_rows_of), sl_rows_of⟩)
    (c0_rows_of : PySem.W.codeIn K cd_rows_of "rows_of" = true)
    (k0_rows_of : PySem.W.keepIn K (.ref a_rows_of) = true)
    (a0_total_of : PySem.W.nsIn K mainGlobals "total_of" = some (some (.ref a_total_of)))
    (l0_total_of : K.lookup a_total_of = some ⟨oc_total_of, od_total_of, .func (PySem.W.fnOf "total_of" "total_of" (defArgs s_total_of) (defBody s_total_of) (defScope s_total_of) .none kV_total_of dc_total_of pm_total_of an_total_of cd_total_of ct_total_of), sl_total_of⟩)
    (c0_total_of : PySem.W.codeIn K cd_total_of "total_of" = true)
    (k0_total_of : PySem.W.keepIn K (.ref a_total_of) = true)
    (a0_counted : PySem.W.nsIn K mainGlobals "counted" = some (some (.ref a_counted)))
    (l0_counted : K.lookup a_counted = some ⟨oc_counted, od_counted, .func (PySem.W.fnOf "counted" "counted" (defArgs s_counted) (defBody s_counted) (defScope s_counted) .none kV_counted dc_counted pm_counted an_counted cd_counted ct_counted), sl_counted⟩)
    (c0_counted : PySem.W.codeIn K cd_counted "counted" = true)
    (k0_counted : PySem.W.keepIn K (.ref a_counted) = true)
    (a0_depth_of : PySem.W.nsIn K mainGlobals "depth_of" = some (some (.ref a_depth_of)))
    (l0_depth_of : K.lookup a_depth_of = some ⟨oc_depth_of, od_depth_of, .func (PySem.W.fnOf "depth_of" "depth_of" (defArgs s_depth_of) (defBody s_depth_of) (defScope s_depth_of) .none kV_depth_of dc_depth_of pm_depth_of an_depth_of cd_depth_of ct_depth_of), sl_depth_of⟩)
    (c0_depth_of : PySem.W.codeIn K cd_depth_of "depth_of" = true)
    (k0_depth_of : PySem.W.keepIn K (.ref a_depth_of) = true)
    (a0_joined : PySem.W.nsIn K mainGlobals "joined" = some (some (.ref a_joined)))
    (l0_joined : K.lookup a_joined = some ⟨oc_joined, od_joined, .func (PySem.W.fnOf "joined" "joined" (defArgs s_joined) (defBody s_joined) (defScope s_joined) .none kV_joined dc_joined pm_joined an_joined cd_joined ct_joined), sl_joined⟩)
    (c0_joined : PySem.W.codeIn K cd_joined "joined" = true)
    (k0_joined : PySem.W.keepIn K (.ref a_joined) = true)
    (a0_balanced : PySem.W.nsIn K mainGlobals "balanced" = some (some (.ref a_balanced)))
    (l0_balanced : K.lookup a_balanced = some ⟨oc_balanced, od_balanced, .func (PySem.W.fnOf "balanced" "balanced" (defArgs s_balanced) (defBody s_balanced) (defScope s_balanced) .none kV_balanced dc_balanced pm_balanced an_balanced cd_balanced ct_balanced), sl_balanced⟩)
    (c0_balanced : PySem.W.codeIn K cd_balanced "balanced" = true)
    (k0_balanced : PySem.W.keepIn K (.ref a_balanced) = true)
    (a0_with_row : PySem.W.nsIn K mainGlobals "with_row" = some (some (.ref a_with_row)))
    (l0_with_row : K.lookup a_with_row = some ⟨oc_with_row, od_with_row, .func (PySem.W.fnOf "with_row" "with_row" (defArgs s_with_row) (defBody s_with_row) (defScope s_with_row) .none kV_with_row dc_with_row pm_with_row an_with_row cd_with_row ct_with_row), sl_with_row⟩)
    (c0_with_row : PySem.W.codeIn K cd_with_row "with_row" = true)
    (k0_with_row : PySem.W.keepIn K (.ref a_with_row) = true)
    (a0_Heights_insert : PySem.W.findIn K (.ref C_Heights) "insert" = some (some (.ref a_Heights_insert)))
    (i0_Heights_insert : PySem.W.isFn K (.ref a_Heights_insert) = true)
    (l0_Heights_insert : K.lookup a_Heights_insert = some ⟨oc_Heights_insert, od_Heights_insert, .func (PySem.W.fnOf "insert" "Heights.insert" (defArgs s_Heights_insert) (defBody s_Heights_insert) (defScope s_Heights_insert) .none kV_Heights_insert dc_Heights_insert pm_Heights_insert an_Heights_insert cd_Heights_insert ct_Heights_insert), sl_Heights_insert⟩)
    (c0_Heights_insert : PySem.W.codeIn K cd_Heights_insert "Heights.insert" = true)
    (k0_Heights_insert : PySem.W.keepIn K (.ref a_Heights_insert) = true)
    (a0__law_tree_rows : PySem.W.nsIn K mainGlobals "_law_tree_rows" = some (some (.ref a__law_tree_rows)))
    (l0__law_tree_rows : K.lookup a__law_tree_rows = some ⟨oc__law_tree_rows, od__law_tree_rows, .func (PySem.W.fnOf "_law_tree_rows" "_law_tree_rows" (defArgs s__law_tree_rows) (defBody s__law_tree_rows) (defScope s__law_tree_rows) .none kV__law_tree_rows dc__law_tree_rows pm__law_tree_rows an__law_tree_rows cd__law_tree_rows ct__law_tree_rows), sl__law_tree_rows⟩)
    (c0__law_tree_rows : PySem.W.codeIn K cd__law_tree_rows "_law_tree_rows" = true)
    (k0__law_tree_rows : PySem.W.keepIn K (.ref a__law_tree_rows) = true)
    (a0_is_integer : PySem.W.nsIn K mainGlobals "is_integer" = some (some (.ref a_is_integer)))
    (l0_is_integer : K.lookup a_is_integer = some ⟨oc_is_integer, od_is_integer, .func (PySem.W.fnOf "is_integer" "is_integer" (defArgs s_is_integer) (defBody s_is_integer) (defScope s_is_integer) .none kV_is_integer dc_is_integer pm_is_integer an_is_integer cd_is_integer ct_is_integer), sl_is_integer⟩)
    (c0_is_integer : PySem.W.codeIn K cd_is_integer "is_integer" = true)
    (k0_is_integer : PySem.W.keepIn K (.ref a_is_integer) = true)
    (a0_measured : PySem.W.nsIn K mainGlobals "measured" = some (some (.ref a_measured)))
    (l0_measured : K.lookup a_measured = some ⟨oc_measured, od_measured, .func (PySem.W.fnOf "measured" "measured" (defArgs s_measured) (defBody s_measured) (defScope s_measured) .none kV_measured dc_measured pm_measured an_measured cd_measured ct_measured), sl_measured⟩)
    (c0_measured : PySem.W.codeIn K cd_measured "measured" = true)
    (k0_measured : PySem.W.keepIn K (.ref a_measured) = true)
    (a0_tree_right : PySem.W.nsIn K mainGlobals "tree_right" = some (some (.ref a_tree_right)))
    (l0_tree_right : K.lookup a_tree_right = some ⟨oc_tree_right, od_tree_right, .func (PySem.W.fnOf "tree_right" "tree_right" (defArgs s_tree_right) (defBody s_tree_right) (defScope s_tree_right) .none kV_tree_right dc_tree_right pm_tree_right an_tree_right cd_tree_right ct_tree_right), sl_tree_right⟩)
    (c0_tree_right : PySem.W.codeIn K cd_tree_right "tree_right" = true)
    (k0_tree_right : PySem.W.keepIn K (.ref a_tree_right) = true)
    (a0_height_at : PySem.W.nsIn K mainGlobals "height_at" = some (some (.ref a_height_at)))
    (l0_height_at : K.lookup a_height_at = some ⟨oc_height_at, od_height_at, .func (PySem.W.fnOf "height_at" "height_at" (defArgs s_height_at) (defBody s_height_at) (defScope s_height_at) .none kV_height_at dc_height_at pm_height_at an_height_at cd_height_at ct_height_at), sl_height_at⟩)
    (c0_height_at : PySem.W.codeIn K cd_height_at "height_at" = true)
    (k0_height_at : PySem.W.keepIn K (.ref a_height_at) = true)
    (a0_without_row : PySem.W.nsIn K mainGlobals "without_row" = some (some (.ref a_without_row)))
    (l0_without_row : K.lookup a_without_row = some ⟨oc_without_row, od_without_row, .func (PySem.W.fnOf "without_row" "without_row" (defArgs s_without_row) (defBody s_without_row) (defScope s_without_row) .none kV_without_row dc_without_row pm_without_row an_without_row cd_without_row ct_without_row), sl_without_row⟩)
    (c0_without_row : PySem.W.codeIn K cd_without_row "without_row" = true)
    (k0_without_row : PySem.W.keepIn K (.ref a_without_row) = true)
    (a0_Heights_height : PySem.W.findIn K (.ref C_Heights) "height" = some (some (.ref a_Heights_height)))
    (i0_Heights_height : PySem.W.isFn K (.ref a_Heights_height) = true)
    (l0_Heights_height : K.lookup a_Heights_height = some ⟨oc_Heights_height, od_Heights_height, .func (PySem.W.fnOf "height" "Heights.height" (defArgs s_Heights_height) (defBody s_Heights_height) (defScope s_Heights_height) .none kV_Heights_height dc_Heights_height pm_Heights_height an_Heights_height cd_Heights_height ct_Heights_height), sl_Heights_height⟩)
    (c0_Heights_height : PySem.W.codeIn K cd_Heights_height "Heights.height" = true)
    (k0_Heights_height : PySem.W.keepIn K (.ref a_Heights_height) = true)
    (a0_Heights_remove : PySem.W.findIn K (.ref C_Heights) "remove" = some (some (.ref a_Heights_remove)))
    (i0_Heights_remove : PySem.W.isFn K (.ref a_Heights_remove) = true)
    (l0_Heights_remove : K.lookup a_Heights_remove = some ⟨oc_Heights_remove, od_Heights_remove, .func (PySem.W.fnOf "remove" "Heights.remove" (defArgs s_Heights_remove) (defBody s_Heights_remove) (defScope s_Heights_remove) .none kV_Heights_remove dc_Heights_remove pm_Heights_remove an_Heights_remove cd_Heights_remove ct_Heights_remove), sl_Heights_remove⟩)
    (c0_Heights_remove : PySem.W.codeIn K cd_Heights_remove "Heights.remove" = true)
    (k0_Heights_remove : PySem.W.keepIn K (.ref a_Heights_remove) = true)
    (a0__law_before : PySem.W.nsIn K mainGlobals "_law_before" = some (some (.ref a__law_before)))
    (l0__law_before : K.lookup a__law_before = some ⟨oc__law_before, od__law_before, .func (PySem.W.fnOf "_law_before" "_law_before" (defArgs s__law_before) (defBody s__law_before) (defScope s__law_before) .none kV__law_before dc__law_before pm__law_before an__law_before cd__law_before ct__law_before), sl__law_before⟩)
    (c0__law_before : PySem.W.codeIn K cd__law_before "_law_before" = true)
    (k0__law_before : PySem.W.keepIn K (.ref a__law_before) = true)
    (a0_covering : PySem.W.nsIn K mainGlobals "covering" = some (some (.ref a_covering)))
    (l0_covering : K.lookup a_covering = some ⟨oc_covering, od_covering, .func (PySem.W.fnOf "covering" "covering" (defArgs s_covering) (defBody s_covering) (defScope s_covering) .none kV_covering dc_covering pm_covering an_covering cd_covering ct_covering), sl_covering⟩)
    (c0_covering : PySem.W.codeIn K cd_covering "covering" = true)
    (k0_covering : PySem.W.keepIn K (.ref a_covering) = true)
    (a0_Heights_total : PySem.W.findIn K (.ref C_Heights) "total" = some (some (.ref a_Heights_total)))
    (i0_Heights_total : PySem.W.isFn K (.ref a_Heights_total) = true)
    (l0_Heights_total : K.lookup a_Heights_total = some ⟨oc_Heights_total, od_Heights_total, .func (PySem.W.fnOf "total" "Heights.total" (defArgs s_Heights_total) (defBody s_Heights_total) (defScope s_Heights_total) .none kV_Heights_total dc_Heights_total pm_Heights_total an_Heights_total cd_Heights_total ct_Heights_total), sl_Heights_total⟩)
    (c0_Heights_total : PySem.W.codeIn K cd_Heights_total "Heights.total" = true)
    (k0_Heights_total : PySem.W.keepIn K (.ref a_Heights_total) = true)
    (a0_Heights_row_at : PySem.W.findIn K (.ref C_Heights) "row_at" = some (some (.ref a_Heights_row_at)))
    (i0_Heights_row_at : PySem.W.isFn K (.ref a_Heights_row_at) = true)
    (l0_Heights_row_at : K.lookup a_Heights_row_at = some ⟨oc_Heights_row_at, od_Heights_row_at, .func (PySem.W.fnOf "row_at" "Heights.row_at" (defArgs s_Heights_row_at) (defBody s_Heights_row_at) (defScope s_Heights_row_at) .none kV_Heights_row_at dc_Heights_row_at pm_Heights_row_at an_Heights_row_at cd_Heights_row_at ct_Heights_row_at), sl_Heights_row_at⟩)
    (c0_Heights_row_at : PySem.W.codeIn K cd_Heights_row_at "Heights.row_at" = true)
    (k0_Heights_row_at : PySem.W.keepIn K (.ref a_Heights_row_at) = true)
    (a0_Heights_all_heights : PySem.W.findIn K (.ref C_Heights) "all_heights" = some (some (.ref a_Heights_all_heights)))
    (i0_Heights_all_heights : PySem.W.isFn K (.ref a_Heights_all_heights) = true)
    (l0_Heights_all_heights : K.lookup a_Heights_all_heights = some ⟨oc_Heights_all_heights, od_Heights_all_heights, .func (PySem.W.fnOf "all_heights" "Heights.all_heights" (defArgs s_Heights_all_heights) (defBody s_Heights_all_heights) (defScope s_Heights_all_heights) .none kV_Heights_all_heights dc_Heights_all_heights pm_Heights_all_heights an_Heights_all_heights cd_Heights_all_heights ct_Heights_all_heights), sl_Heights_all_heights⟩)
    (c0_Heights_all_heights : PySem.W.codeIn K cd_Heights_all_heights "Heights.all_heights" = true)
    (k0_Heights_all_heights : PySem.W.keepIn K (.ref a_Heights_all_heights) = true)
    (a0_Heights___len__ : PySem.W.findIn K (.ref C_Heights) "__len__" = some (some (.ref a_Heights___len__)))
    (i0_Heights___len__ : PySem.W.isFn K (.ref a_Heights___len__) = true)
    (l0_Heights___len__ : K.lookup a_Heights___len__ = some ⟨oc_Heights___len__, od_Heights___len__, .func (PySem.W.fnOf "__len__" "Heights.__len__" (defArgs s_Heights___len__) (defBody s_Heights___len__) (defScope s_Heights___len__) .none kV_Heights___len__ dc_Heights___len__ pm_Heights___len__ an_Heights___len__ cd_Heights___len__ ct_Heights___len__), sl_Heights___len__⟩)
    (c0_Heights___len__ : PySem.W.codeIn K cd_Heights___len__ "Heights.__len__" = true)
    (k0_Heights___len__ : PySem.W.keepIn K (.ref a_Heights___len__) = true)
    (a0_Heights_known : PySem.W.findIn K (.ref C_Heights) "known" = some (some (.ref a_Heights_known)))
    (i0_Heights_known : PySem.W.isFn K (.ref a_Heights_known) = true)
    (l0_Heights_known : K.lookup a_Heights_known = some ⟨oc_Heights_known, od_Heights_known, .func (PySem.W.fnOf "known" "Heights.known" (defArgs s_Heights_known) (defBody s_Heights_known) (defScope s_Heights_known) .none kV_Heights_known dc_Heights_known pm_Heights_known an_Heights_known cd_Heights_known ct_Heights_known), sl_Heights_known⟩)
    (c0_Heights_known : PySem.W.codeIn K cd_Heights_known "Heights.known" = true)
    (k0_Heights_known : PySem.W.keepIn K (.ref a_Heights_known) = true)
    (a0_offset_of : PySem.W.nsIn K mainGlobals "offset_of" = some (some (.ref a_offset_of)))
    (l0_offset_of : K.lookup a_offset_of = some ⟨oc_offset_of, od_offset_of, .func (PySem.W.fnOf "offset_of" "offset_of" (defArgs s_offset_of) (defBody s_offset_of) (defScope s_offset_of) .none kV_offset_of dc_offset_of pm_offset_of an_offset_of cd_offset_of ct_offset_of), sl_offset_of⟩)
    (c0_offset_of : PySem.W.codeIn K cd_offset_of "offset_of" = true)
    (k0_offset_of : PySem.W.keepIn K (.ref a_offset_of) = true)
    (a0_Heights_offset : PySem.W.findIn K (.ref C_Heights) "offset" = some (some (.ref a_Heights_offset)))
    (i0_Heights_offset : PySem.W.isFn K (.ref a_Heights_offset) = true)
    (l0_Heights_offset : K.lookup a_Heights_offset = some ⟨oc_Heights_offset, od_Heights_offset, .func (PySem.W.fnOf "offset" "Heights.offset" (defArgs s_Heights_offset) (defBody s_Heights_offset) (defScope s_Heights_offset) .none kV_Heights_offset dc_Heights_offset pm_Heights_offset an_Heights_offset cd_Heights_offset ct_Heights_offset), sl_Heights_offset⟩)
    (c0_Heights_offset : PySem.W.codeIn K cd_Heights_offset "Heights.offset" = true)
    (k0_Heights_offset : PySem.W.keepIn K (.ref a_Heights_offset) = true)
    (a0__law_covering : PySem.W.nsIn K mainGlobals "_law_covering" = some (some (.ref a__law_covering)))
    (l0__law_covering : K.lookup a__law_covering = some ⟨oc__law_covering, od__law_covering, .func (PySem.W.fnOf "_law_covering" "_law_covering" (defArgs s__law_covering) (defBody s__law_covering) (defScope s__law_covering) .none kV__law_covering dc__law_covering pm__law_covering an__law_covering cd__law_covering ct__law_covering), sl__law_covering⟩)
    (c0__law_covering : PySem.W.codeIn K cd__law_covering "_law_covering" = true)
    (k0__law_covering : PySem.W.keepIn K (.ref a__law_covering) = true)
    (a0__law_looks_right : PySem.W.nsIn K mainGlobals "_law_looks_right" = some (some (.ref a__law_looks_right)))
    (l0__law_looks_right : K.lookup a__law_looks_right = some ⟨oc__law_looks_right, od__law_looks_right, .func (PySem.W.fnOf "_law_looks_right" "_law_looks_right" (defArgs s__law_looks_right) (defBody s__law_looks_right) (defScope s__law_looks_right) .none kV__law_looks_right dc__law_looks_right pm__law_looks_right an__law_looks_right cd__law_looks_right ct__law_looks_right), sl__law_looks_right⟩)
    (c0__law_looks_right : PySem.W.codeIn K cd__law_looks_right "_law_looks_right" = true)
    (k0__law_looks_right : PySem.W.keepIn K (.ref a__law_looks_right) = true)
    (a0_with_height : PySem.W.nsIn K mainGlobals "with_height" = some (some (.ref a_with_height)))
    (l0_with_height : K.lookup a_with_height = some ⟨oc_with_height, od_with_height, .func (PySem.W.fnOf "with_height" "with_height" (defArgs s_with_height) (defBody s_with_height) (defScope s_with_height) .none kV_with_height dc_with_height pm_with_height an_with_height cd_with_height ct_with_height), sl_with_height⟩)
    (c0_with_height : PySem.W.codeIn K cd_with_height "with_height" = true)
    (k0_with_height : PySem.W.keepIn K (.ref a_with_height) = true)
    (a0_Heights_learn : PySem.W.findIn K (.ref C_Heights) "learn" = some (some (.ref a_Heights_learn)))
    (i0_Heights_learn : PySem.W.isFn K (.ref a_Heights_learn) = true)
    (l0_Heights_learn : K.lookup a_Heights_learn = some ⟨oc_Heights_learn, od_Heights_learn, .func (PySem.W.fnOf "learn" "Heights.learn" (defArgs s_Heights_learn) (defBody s_Heights_learn) (defScope s_Heights_learn) .none kV_Heights_learn dc_Heights_learn pm_Heights_learn an_Heights_learn cd_Heights_learn ct_Heights_learn), sl_Heights_learn⟩)
    (c0_Heights_learn : PySem.W.codeIn K cd_Heights_learn "Heights.learn" = true)
    (k0_Heights_learn : PySem.W.keepIn K (.ref a_Heights_learn) = true)
    (a0__law_right : PySem.W.nsIn K mainGlobals "_law_right" = some (some (.ref a__law_right)))
    (l0__law_right : K.lookup a__law_right = some ⟨oc__law_right, od__law_right, .func (PySem.W.fnOf "_law_right" "_law_right" (defArgs s__law_right) (defBody s__law_right) (defScope s__law_right) .none kV__law_right dc__law_right pm__law_right an__law_right cd__law_right ct__law_right), sl__law_right⟩)
    (c0__law_right : PySem.W.codeIn K cd__law_right "_law_right" = true)
    (k0__law_right : PySem.W.keepIn K (.ref a__law_right) = true)
    (a0__law_deck : PySem.W.nsIn K mainGlobals "_law_deck" = some (some (.ref a__law_deck)))
    (l0__law_deck : K.lookup a__law_deck = some ⟨oc__law_deck, od__law_deck, .func (PySem.W.fnOf "_law_deck" "_law_deck" (defArgs s__law_deck) (defBody s__law_deck) (defScope s__law_deck) .none kV__law_deck dc__law_deck pm__law_deck an__law_deck cd__law_deck ct__law_deck), sl__law_deck⟩)
    (c0__law_deck : PySem.W.codeIn K cd__law_deck "_law_deck" = true)
    (k0__law_deck : PySem.W.keepIn K (.ref a__law_deck) = true)
    (a0_law : PySem.W.nsIn K mainGlobals "law" = some (some (.ref a_law)))
    (l0_law : K.lookup a_law = some ⟨oc_law, od_law, .func (PySem.W.fnOf "law" "law" (defArgs s_law) (defBody s_law) (defScope s_law) .none kV_law dc_law pm_law an_law cd_law ct_law), sl_law⟩)
    (c0_law : PySem.W.codeIn K cd_law "law" = true)
    (k0_law : PySem.W.keepIn K (.ref a_law) = true)
    (z_abs : PySem.W.nsIn K mainGlobals "abs" = some none)
    (z_all : PySem.W.nsIn K mainGlobals "all" = some none)
    (z_bool : PySem.W.nsIn K mainGlobals "bool" = some none)
    (z_int : PySem.W.nsIn K mainGlobals "int" = some none)
    (z_isinstance : PySem.W.nsIn K mainGlobals "isinstance" = some none)
    (z_len : PySem.W.nsIn K mainGlobals "len" = some none)
    (z_list : PySem.W.nsIn K mainGlobals "list" = some none)
    (z_max : PySem.W.nsIn K mainGlobals "max" = some none)
    (z_min : PySem.W.nsIn K mainGlobals "min" = some none)
    (z_range : PySem.W.nsIn K mainGlobals "range" = some none)
    (z_str : PySem.W.nsIn K mainGlobals "str" = some none)
    (z_sum : PySem.W.nsIn K mainGlobals "sum" = some none)
    (z_tuple : PySem.W.nsIn K mainGlobals "tuple" = some none) :
    ∃ (fd : FuncData) (f : FD), (∀ (s : Shared) (u : Value), BindsTo s fd ⟨[u], []⟩ [("script", u)]) ∧ LawD f ∧ ∀ base : Heap, K.In base → base.Ns mainGlobals mg → FnG l.prog w K mg base 46 fa fd ["script"] (SpD K 1 f) := by
  have e := hfa.symm.trans (PySem.W.mg_of inK G a0_law)
  cases e
  let T : Tx K mg := { c := ⟨C_Heights⟩, b_abs := PySem.W.mg_none_of inK G z_abs, b_all := PySem.W.mg_none_of inK G z_all, b_bool := PySem.W.mg_none_of inK G z_bool, b_int := PySem.W.mg_none_of inK G z_int, b_isinstance := PySem.W.mg_none_of inK G z_isinstance, b_len := PySem.W.mg_none_of inK G z_len, b_list := PySem.W.mg_none_of inK G z_list, b_max := PySem.W.mg_none_of inK G z_max, b_min := PySem.W.mg_none_of inK G z_min, b_range := PySem.W.mg_none_of inK G z_range, b_str := PySem.W.mg_none_of inK G z_str, b_sum := PySem.W.mg_none_of inK G z_sum, b_tuple := PySem.W.mg_none_of inK G z_tuple, cl_Heights := ⟨pg_Heights, hd_Heights, po_Heights, sa_Heights⟩, mg_Heights := PySem.W.mg_of inK G n_Heights, mk_Heights_1 := ma_Heights, mk_Heights_2 := kc_Heights, na_Heights_guess := na_Heights_guess, na_Heights_known_ones := na_Heights_known_ones, na_Heights_many := na_Heights_many, na_Heights_root := na_Heights_root }
  have F__law_integer := fun_mk (st := s__law_integer) l0__law_integer c0__law_integer k0__law_integer
  have M__law_integer := PySem.W.mg_of inK G a0__law_integer
  have F__law_counted := fun_mk (st := s__law_counted) l0__law_counted c0__law_counted k0__law_counted
  have M__law_counted := PySem.W.mg_of inK G a0__law_counted
  have F__law_tree_told := fun_mk (st := s__law_tree_told) l0__law_tree_told c0__law_tree_told k0__law_tree_told
  have M__law_tree_told := PySem.W.mg_of inK G a0__law_tree_told
  have F__law_same := fun_mk (st := s__law_same) l0__law_same c0__law_same k0__law_same
  have M__law_same := PySem.W.mg_of inK G a0__law_same
  have F_need_guess := fun_mk (st := s_need_guess) l0_need_guess c0_need_guess k0_need_guess
  have M_need_guess := PySem.W.mg_of inK G a0_need_guess
  have F_Heights___init__ := fun_mk (st := s_Heights___init__) l0_Heights___init__ c0_Heights___init__ k0_Heights___init__
  have M_Heights___init__ : Meth K T.c.Heights "__init__" a_Heights___init__ := ⟨a0_Heights___init__, i0_Heights___init__, k0_Heights___init__⟩
  have F_plain_tree := fun_mk (st := s_plain_tree) l0_plain_tree c0_plain_tree k0_plain_tree
  have M_plain_tree := PySem.W.mg_of inK G a0_plain_tree
  have F_Heights_tree := fun_mk (st := s_Heights_tree) l0_Heights_tree c0_Heights_tree k0_Heights_tree
  have M_Heights_tree : Meth K T.c.Heights "tree" a_Heights_tree := ⟨a0_Heights_tree, i0_Heights_tree, k0_Heights_tree⟩
  have F_heights_of := fun_mk (st := s_heights_of) l0_heights_of c0_heights_of k0_heights_of
  have M_heights_of := PySem.W.mg_of inK G a0_heights_of
  have F_heights_in := fun_mk (st := s_heights_in) l0_heights_in c0_heights_in k0_heights_in
  have M_heights_in := PySem.W.mg_of inK G a0_heights_in
  have F__law_draw := fun_mk (st := s__law_draw) l0__law_draw c0__law_draw k0__law_draw
  have M__law_draw := PySem.W.mg_of inK G a0__law_draw
  have F__law_height := fun_mk (st := s__law_height) l0__law_height c0__law_height k0__law_height
  have M__law_height := PySem.W.mg_of inK G a0__law_height
  have F_Heights_need_index := fun_mk (st := s_Heights_need_index) l0_Heights_need_index c0_Heights_need_index k0_Heights_need_index
  have M_Heights_need_index : Meth K T.c.Heights "need_index" a_Heights_need_index := ⟨a0_Heights_need_index, i0_Heights_need_index, k0_Heights_need_index⟩
  have F_need_height := fun_mk (st := s_need_height) l0_need_height c0_need_height k0_need_height
  have M_need_height := PySem.W.mg_of inK G a0_need_height
  have F_rows_of := fun_mk (st := s_rows_of) l0_rows_of c0_rows_of k0_rows_of
  have M_rows_of := PySem.W.mg_of inK G a0_rows_of
  have F_total_of := fun_mk (st := s_total_of) l0_total_of c0_total_of k0_total_of
  have M_total_of := PySem.W.mg_of inK G a0_total_of
  have F_counted := fun_mk (st := s_counted) l0_counted c0_counted k0_counted
  have M_counted := PySem.W.mg_of inK G a0_counted
  have F_depth_of := fun_mk (st := s_depth_of) l0_depth_of c0_depth_of k0_depth_of
  have M_depth_of := PySem.W.mg_of inK G a0_depth_of
  have F_joined := fun_mk (st := s_joined) l0_joined c0_joined k0_joined
  have M_joined := PySem.W.mg_of inK G a0_joined
  have F_balanced := fun_mk (st := s_balanced) l0_balanced c0_balanced k0_balanced
  have M_balanced := PySem.W.mg_of inK G a0_balanced
  have F_with_row := fun_mk (st := s_with_row) l0_with_row c0_with_row k0_with_row
  have M_with_row := PySem.W.mg_of inK G a0_with_row
  have F_Heights_insert := fun_mk (st := s_Heights_insert) l0_Heights_insert c0_Heights_insert k0_Heights_insert
  have M_Heights_insert : Meth K T.c.Heights "insert" a_Heights_insert := ⟨a0_Heights_insert, i0_Heights_insert, k0_Heights_insert⟩
  have F__law_tree_rows := fun_mk (st := s__law_tree_rows) l0__law_tree_rows c0__law_tree_rows k0__law_tree_rows
  have M__law_tree_rows := PySem.W.mg_of inK G a0__law_tree_rows
  have F_is_integer := fun_mk (st := s_is_integer) l0_is_integer c0_is_integer k0_is_integer
  have M_is_integer := PySem.W.mg_of inK G a0_is_integer
  have F_measured := fun_mk (st := s_measured) l0_measured c0_measured k0_measured
  have M_measured := PySem.W.mg_of inK G a0_measured
  have F_tree_right := fun_mk (st := s_tree_right) l0_tree_right c0_tree_right k0_tree_right
  have M_tree_right := PySem.W.mg_of inK G a0_tree_right
  have F_height_at := fun_mk (st := s_height_at) l0_height_at c0_height_at k0_height_at
  have M_height_at := PySem.W.mg_of inK G a0_height_at
  have F_without_row := fun_mk (st := s_without_row) l0_without_row c0_without_row k0_without_row
  have M_without_row := PySem.W.mg_of inK G a0_without_row
  have F_Heights_height := fun_mk (st := s_Heights_height) l0_Heights_height c0_Heights_height k0_Heights_height
  have M_Heights_height : Meth K T.c.Heights "height" a_Heights_height := ⟨a0_Heights_height, i0_Heights_height, k0_Heights_height⟩
  have F_Heights_remove := fun_mk (st := s_Heights_remove) l0_Heights_remove c0_Heights_remove k0_Heights_remove
  have M_Heights_remove : Meth K T.c.Heights "remove" a_Heights_remove := ⟨a0_Heights_remove, i0_Heights_remove, k0_Heights_remove⟩
  have F__law_before := fun_mk (st := s__law_before) l0__law_before c0__law_before k0__law_before
  have M__law_before := PySem.W.mg_of inK G a0__law_before
  have F_covering := fun_mk (st := s_covering) l0_covering c0_covering k0_covering
  have M_covering := PySem.W.mg_of inK G a0_covering
  have F_Heights_total := fun_mk (st := s_Heights_total) l0_Heights_total c0_Heights_total k0_Heights_total
  have M_Heights_total : Meth K T.c.Heights "total" a_Heights_total := ⟨a0_Heights_total, i0_Heights_total, k0_Heights_total⟩
  have F_Heights_row_at := fun_mk (st := s_Heights_row_at) l0_Heights_row_at c0_Heights_row_at k0_Heights_row_at
  have M_Heights_row_at : Meth K T.c.Heights "row_at" a_Heights_row_at := ⟨a0_Heights_row_at, i0_Heights_row_at, k0_Heights_row_at⟩
  have F_Heights_all_heights := fun_mk (st := s_Heights_all_heights) l0_Heights_all_heights c0_Heights_all_heights k0_Heights_all_heights
  have M_Heights_all_heights : Meth K T.c.Heights "all_heights" a_Heights_all_heights := ⟨a0_Heights_all_heights, i0_Heights_all_heights, k0_Heights_all_heights⟩
  have F_Heights___len__ := fun_mk (st := s_Heights___len__) l0_Heights___len__ c0_Heights___len__ k0_Heights___len__
  have M_Heights___len__ : Meth K T.c.Heights "__len__" a_Heights___len__ := ⟨a0_Heights___len__, i0_Heights___len__, k0_Heights___len__⟩
  have F_Heights_known := fun_mk (st := s_Heights_known) l0_Heights_known c0_Heights_known k0_Heights_known
  have M_Heights_known : Meth K T.c.Heights "known" a_Heights_known := ⟨a0_Heights_known, i0_Heights_known, k0_Heights_known⟩
  have F_offset_of := fun_mk (st := s_offset_of) l0_offset_of c0_offset_of k0_offset_of
  have M_offset_of := PySem.W.mg_of inK G a0_offset_of
  have F_Heights_offset := fun_mk (st := s_Heights_offset) l0_Heights_offset c0_Heights_offset k0_Heights_offset
  have M_Heights_offset : Meth K T.c.Heights "offset" a_Heights_offset := ⟨a0_Heights_offset, i0_Heights_offset, k0_Heights_offset⟩
  have F__law_covering := fun_mk (st := s__law_covering) l0__law_covering c0__law_covering k0__law_covering
  have M__law_covering := PySem.W.mg_of inK G a0__law_covering
  have F__law_looks_right := fun_mk (st := s__law_looks_right) l0__law_looks_right c0__law_looks_right k0__law_looks_right
  have M__law_looks_right := PySem.W.mg_of inK G a0__law_looks_right
  have F_with_height := fun_mk (st := s_with_height) l0_with_height c0_with_height k0_with_height
  have M_with_height := PySem.W.mg_of inK G a0_with_height
  have F_Heights_learn := fun_mk (st := s_Heights_learn) l0_Heights_learn c0_Heights_learn k0_Heights_learn
  have M_Heights_learn : Meth K T.c.Heights "learn" a_Heights_learn := ⟨a0_Heights_learn, i0_Heights_learn, k0_Heights_learn⟩
  have F__law_right := fun_mk (st := s__law_right) l0__law_right c0__law_right k0__law_right
  have M__law_right := PySem.W.mg_of inK G a0__law_right
  have F__law_deck := fun_mk (st := s__law_deck) l0__law_deck c0__law_deck k0__law_deck
  have M__law_deck := PySem.W.mg_of inK G a0__law_deck
  have F_law := fun_mk (st := s_law) l0_law c0_law k0_law
  have M_law := PySem.W.mg_of inK G a0_law
  refine ⟨PySem.W.fnOf "law" "law" (defArgs s_law) (defBody s_law) (defScope s_law) .none kV_law dc_law pm_law an_law cd_law ct_law, f_law T.c, fun s u => .of_eq rfl, lawD T.c, fun base _ _ => ?_⟩
  have g__law_integer := g__law_integer (P := l.prog) (w := w) (base := base) T F__law_integer
  have g__law_counted := g__law_counted (P := l.prog) (w := w) (base := base) T F__law_counted
  have g__law_tree_told := g__law_tree_told (P := l.prog) (w := w) (base := base) T F__law_tree_told M__law_tree_told F__law_integer M__law_integer g__law_integer F__law_counted M__law_counted g__law_counted
  have g__law_same := g__law_same (P := l.prog) (w := w) (base := base) T F__law_same M__law_same
  have g_need_guess := g_need_guess (P := l.prog) (w := w) (base := base) T F_need_guess
  have g_Heights___init__ := g_Heights___init__ (P := l.prog) (w := w) (base := base) T F_Heights___init__ F_need_guess M_need_guess g_need_guess
  have g_plain_tree := g_plain_tree (P := l.prog) (w := w) (base := base) T F_plain_tree M_plain_tree
  have g_Heights_tree := g_Heights_tree (P := l.prog) (w := w) (base := base) T F_Heights_tree F_plain_tree M_plain_tree g_plain_tree
  have g_heights_of := g_heights_of (P := l.prog) (w := w) (base := base) T F_heights_of M_heights_of
  have g_heights_in := g_heights_in (P := l.prog) (w := w) (base := base) T F_heights_in F_heights_of M_heights_of g_heights_of
  have g__law_draw := g__law_draw (P := l.prog) (w := w) (base := base) T F__law_draw
  have g__law_height := g__law_height (P := l.prog) (w := w) (base := base) T F__law_height F__law_draw M__law_draw g__law_draw
  have g_Heights_need_index := g_Heights_need_index (P := l.prog) (w := w) (base := base) T F_Heights_need_index
  have g_need_height := g_need_height (P := l.prog) (w := w) (base := base) T F_need_height
  have g_rows_of := g_rows_of (P := l.prog) (w := w) (base := base) T F_rows_of
  have g_total_of := g_total_of (P := l.prog) (w := w) (base := base) T F_total_of
  have g_counted := g_counted (P := l.prog) (w := w) (base := base) T F_counted
  have g_depth_of := g_depth_of (P := l.prog) (w := w) (base := base) T F_depth_of
  have g_joined := g_joined (P := l.prog) (w := w) (base := base) T F_joined F_rows_of M_rows_of g_rows_of F_total_of M_total_of g_total_of F_counted M_counted g_counted F_depth_of M_depth_of g_depth_of
  have g_balanced := g_balanced (P := l.prog) (w := w) (base := base) T F_balanced F_joined M_joined g_joined F_depth_of M_depth_of g_depth_of
  have g_with_row := g_with_row (P := l.prog) (w := w) (base := base) T F_balanced M_balanced g_balanced F_joined M_joined g_joined F_rows_of M_rows_of g_rows_of F_with_row M_with_row
  have g_Heights_insert := g_Heights_insert (P := l.prog) (w := w) (base := base) T F_Heights_insert F_Heights_need_index M_Heights_need_index g_Heights_need_index F_need_height M_need_height g_need_height F_with_row M_with_row g_with_row
  have g__law_tree_rows := g__law_tree_rows (P := l.prog) (w := w) (base := base) T F__law_tree_rows M__law_tree_rows
  have g_is_integer := g_is_integer (P := l.prog) (w := w) (base := base) T F_is_integer
  have g_measured := g_measured (P := l.prog) (w := w) (base := base) T F_measured M_measured F_is_integer M_is_integer g_is_integer F_counted M_counted g_counted
  have g_tree_right := g_tree_right (P := l.prog) (w := w) (base := base) T F_tree_right F_measured M_measured g_measured
  have g_height_at := g_height_at (P := l.prog) (w := w) (base := base) T F_rows_of M_rows_of g_rows_of F_height_at M_height_at
  have g_without_row := g_without_row (P := l.prog) (w := w) (base := base) T F_rows_of M_rows_of g_rows_of F_balanced M_balanced g_balanced F_height_at M_height_at g_height_at F_without_row M_without_row
  have g_Heights_height := g_Heights_height (P := l.prog) (w := w) (base := base) T F_Heights_height F_Heights_need_index M_Heights_need_index g_Heights_need_index F_height_at M_height_at g_height_at
  have g_Heights_remove := g_Heights_remove (P := l.prog) (w := w) (base := base) T F_Heights_remove F_Heights_need_index M_Heights_need_index g_Heights_need_index F_without_row M_without_row g_without_row F_Heights_height M_Heights_height g_Heights_height
  have g__law_before := g__law_before (P := l.prog) (w := w) (base := base) T F__law_before F__law_counted M__law_counted g__law_counted
  have g_covering := g_covering (P := l.prog) (w := w) (base := base) T F_total_of M_total_of g_total_of F_covering M_covering F_counted M_counted g_counted F_rows_of M_rows_of g_rows_of
  have g_Heights_total := g_Heights_total (P := l.prog) (w := w) (base := base) T F_Heights_total F_total_of M_total_of g_total_of
  have g_Heights_row_at := g_Heights_row_at (P := l.prog) (w := w) (base := base) T F_Heights_row_at F_covering M_covering g_covering F_Heights_total M_Heights_total g_Heights_total
  have g_Heights_all_heights := g_Heights_all_heights (P := l.prog) (w := w) (base := base) T F_Heights_all_heights F_heights_of M_heights_of g_heights_of
  have g_Heights___len__ := g_Heights___len__ (P := l.prog) (w := w) (base := base) T F_Heights___len__ F_Heights_all_heights M_Heights_all_heights g_Heights_all_heights
  have g_Heights_known := g_Heights_known (P := l.prog) (w := w) (base := base) T F_Heights_known
  have g_offset_of := g_offset_of (P := l.prog) (w := w) (base := base) T F_offset_of M_offset_of F_rows_of M_rows_of g_rows_of F_total_of M_total_of g_total_of F_counted M_counted g_counted
  have g_Heights_offset := g_Heights_offset (P := l.prog) (w := w) (base := base) T F_Heights_offset F_Heights_need_index M_Heights_need_index g_Heights_need_index F_offset_of M_offset_of g_offset_of
  have g__law_covering := g__law_covering (P := l.prog) (w := w) (base := base) T F__law_covering F__law_before M__law_before g__law_before F__law_counted M__law_counted g__law_counted
  have g__law_looks_right := g__law_looks_right (P := l.prog) (w := w) (base := base) T F__law_looks_right F__law_before M__law_before g__law_before F__law_same M__law_same g__law_same F__law_draw M__law_draw g__law_draw F_Heights_row_at M_Heights_row_at g_Heights_row_at F_Heights___len__ M_Heights___len__ g_Heights___len__ F_Heights_total M_Heights_total g_Heights_total F_Heights_known M_Heights_known g_Heights_known F_Heights_offset M_Heights_offset g_Heights_offset F__law_covering M__law_covering g__law_covering F_Heights_height M_Heights_height g_Heights_height
  have g_with_height := g_with_height (P := l.prog) (w := w) (base := base) T F_rows_of M_rows_of g_rows_of F_joined M_joined g_joined F_with_height M_with_height
  have g_Heights_learn := g_Heights_learn (P := l.prog) (w := w) (base := base) T F_Heights_learn F_Heights_need_index M_Heights_need_index g_Heights_need_index F_need_height M_need_height g_need_height F_with_height M_with_height g_with_height F_Heights_height M_Heights_height g_Heights_height
  have g__law_right := g__law_right (P := l.prog) (w := w) (base := base) T F__law_right F__law_tree_told M__law_tree_told g__law_tree_told F__law_same M__law_same g__law_same F_Heights___init__ M_Heights___init__ g_Heights___init__ F_Heights_tree M_Heights_tree g_Heights_tree F_heights_in M_heights_in g_heights_in F__law_draw M__law_draw g__law_draw F__law_height M__law_height g__law_height F_Heights_insert M_Heights_insert g_Heights_insert F__law_tree_rows M__law_tree_rows g__law_tree_rows F_tree_right M_tree_right g_tree_right F_Heights_remove M_Heights_remove g_Heights_remove F__law_looks_right M__law_looks_right g__law_looks_right F_Heights_learn M_Heights_learn g_Heights_learn
  have g__law_deck := g__law_deck (P := l.prog) (w := w) (base := base) T F__law_deck
  have g_law := g_law (P := l.prog) (w := w) (base := base) T F_law F__law_right M__law_right g__law_right F__law_deck M__law_deck g__law_deck
  exact g_law
end K45
open PySem PySem.W PyProof.Rows in
set_option maxRecDepth 100000 in
set_option maxHeartbeats 0 in
theorem PySem.Challenge.cw_listworks_k45_heights_one_below_the_othe_holds : PySem.Challenge.rw_listworks_k45_heights_one_below_the_othe.Holds := by
  w_on; o_law; k_head; (case hw => w_witness2)
  k_fill
  refine Lw.walk_law (x := "script") (k := 46) rfl rfl ⟨rfl, by decide, by decide⟩ (fun w h Y => PySem.W.kIn_of Y) ?F
  case F =>
    intro w mg fa h KX G hmg
    refine' K45.all_mk KX G hmg ?n_Heights ?pg_Heights ?hd_Heights ?po_Heights ?sa_Heights ?ma_Heights ?kc_Heights ?na_Heights_guess ?na_Heights_known_ones ?na_Heights_many ?na_Heights_root ?a0__law_integer ?l0__law_integer ?c0__law_integer ?k0__law_integer ?a0__law_counted ?l0__law_counted ?c0__law_counted ?k0__law_counted ?a0__law_tree_told ?l0__law_tree_told ?c0__law_tree_told ?k0__law_tree_told ?a0__law_same ?l0__law_same ?c0__law_same ?k0__law_same ?a0_need_guess ?l0_need_guess ?c0_need_guess ?k0_need_guess ?a0_Heights___init__ ?i0_Heights___init__ ?l0_Heights___init__ ?c0_Heights___init__ ?k0_Heights___init__ ?a0_plain_tree ?l0_plain_tree ?c0_plain_tree ?k0_plain_tree ?a0_Heights_tree ?i0_Heights_tree ?l0_Heights_tree ?c0_Heights_tree ?k0_Heights_tree ?a0_heights_of ?l0_heights_of ?c0_heights_of ?k0_heights_of ?a0_heights_in ?l0_heights_in ?c0_heights_in ?k0_heights_in ?a0__law_draw ?l0__law_draw ?c0__law_draw ?k0__law_draw ?a0__law_height ?l0__law_height ?c0__law_height ?k0__law_height ?a0_Heights_need_index ?i0_Heights_need_index ?l0_Heights_need_index ?c0_Heights_need_index ?k0_Heights_need_index ?a0_need_height ?l0_need_height ?c0_need_height ?k0_need_height ?a0_rows_of ?l0_rows_of ?c0_rows_of ?k0_rows_of ?a0_total_of ?l0_total_of ?c0_total_of ?k0_total_of ?a0_counted ?l0_counted ?c0_counted ?k0_counted ?a0_depth_of ?l0_depth_of ?c0_depth_of ?k0_depth_of ?a0_joined ?l0_joined ?c0_joined ?k0_joined ?a0_balanced ?l0_balanced ?c0_balanced ?k0_balanced ?a0_with_row ?l0_with_row ?c0_with_row ?k0_with_row ?a0_Heights_insert ?i0_Heights_insert ?l0_Heights_insert ?c0_Heights_insert ?k0_Heights_insert ?a0__law_tree_rows ?l0__law_tree_rows ?c0__law_tree_rows ?k0__law_tree_rows ?a0_is_integer ?l0_is_integer ?c0_is_integer ?k0_is_integer ?a0_measured ?l0_measured ?c0_measured ?k0_measured ?a0_tree_right ?l0_tree_right ?c0_tree_right ?k0_tree_right ?a0_height_at ?l0_height_at ?c0_height_at ?k0_height_at ?a0_without_row ?l0_without_row ?c0_without_row ?k0_without_row ?a0_Heights_height ?i0_Heights_height ?l0_Heights_height ?c0_Heights_height ?k0_Heights_height ?a0_Heights_remove ?i0_Heights_remove ?l0_Heights_remove ?c0_Heights_remove ?k0_Heights_remove ?a0__law_before ?l0__law_before ?c0__law_before ?k0__law_before ?a0_covering ?l0_covering ?c0_covering ?k0_covering ?a0_Heights_total ?i0_Heights_total ?l0_Heights_total ?c0_Heights_total ?k0_Heights_total ?a0_Heights_row_at ?i0_Heights_row_at ?l0_Heights_row_at ?c0_Heights_row_at ?k0_Heights_row_at ?a0_Heights_all_heights ?i0_Heights_all_heights ?l0_Heights_all_heights ?c0_Heights_all_heights ?k0_Heights_all_heights ?a0_Heights___len__ ?i0_Heights___len__ ?l0_Heights___len__ ?c0_Heights___len__ ?k0_Heights___len__ ?a0_Heights_known ?i0_Heights_known ?l0_Heights_known ?c0_Heights_known ?k0_Heights_known ?a0_offset_of ?l0_offset_of ?c0_offset_of ?k0_offset_of ?a0_Heights_offset ?i0_Heights_offset ?l0_Heights_offset ?c0_Heights_offset ?k0_Heights_offset ?a0__law_covering ?l0__law_covering ?c0__law_covering ?k0__law_covering ?a0__law_looks_right ?l0__law_looks_right ?c0__law_looks_right ?k0__law_looks_right ?a0_with_height ?l0_with_height ?c0_with_height ?k0_with_height ?a0_Heights_learn ?i0_Heights_learn ?l0_Heights_learn ?c0_Heights_learn ?k0_Heights_learn ?a0__law_right ?l0__law_right ?c0__law_right ?k0__law_right ?a0__law_deck ?l0__law_deck ?c0__law_deck ?k0__law_deck ?a0_law ?l0_law ?c0_law ?k0_law ?z_abs ?z_all ?z_bool ?z_int ?z_isinstance ?z_len ?z_list ?z_max ?z_min ?z_range ?z_str ?z_sum ?z_tuple
    (case n_Heights => k_is)
    (case pg_Heights => k_is)
    (case hd_Heights => k_is)
    (case po_Heights => k_is)
    (case sa_Heights => k_is)
    (case ma_Heights => k_is)
    (case kc_Heights => k_is)
    (case na_Heights_guess => k_is)
    (case na_Heights_known_ones => k_is)
    (case na_Heights_many => k_is)
    (case na_Heights_root => k_is)
    (case a0__law_integer => k_is)
    (case l0__law_integer => k_is)
    (case c0__law_integer => k_is)
    (case k0__law_integer => k_is)
    (case a0__law_counted => k_is)
    (case l0__law_counted => k_is)
    (case c0__law_counted => k_is)
    (case k0__law_counted => k_is)
    (case a0__law_tree_told => k_is)
    (case l0__law_tree_told => k_is)
    (case c0__law_tree_told => k_is)
    (case k0__law_tree_told => k_is)
    (case a0__law_same => k_is)
    (case l0__law_same => k_is)
    (case c0__law_same => k_is)
    (case k0__law_same => k_is)
    (case a0_need_guess => k_is)
    (case l0_need_guess => k_is)
    (case c0_need_guess => k_is)
    (case k0_need_guess => k_is)
    (case a0_Heights___init__ => k_is)
    (case i0_Heights___init__ => k_is)
    (case l0_Heights___init__ => k_is)
    (case c0_Heights___init__ => k_is)
    (case k0_Heights___init__ => k_is)
    (case a0_plain_tree => k_is)
    (case l0_plain_tree => k_is)
    (case c0_plain_tree => k_is)
    (case k0_plain_tree => k_is)
    (case a0_Heights_tree => k_is)
    (case i0_Heights_tree => k_is)
    (case l0_Heights_tree => k_is)
    (case c0_Heights_tree => k_is)
    (case k0_Heights_tree => k_is)
    (case a0_heights_of => k_is)
    (case l0_heights_of => k_is)
    (case c0_heights_of => k_is)
    (case k0_heights_of => k_is)
    (case a0_heights_in => k_is)
    (case l0_heights_in => k_is)
    (case c0_heights_in => k_is)
    (case k0_heights_in => k_is)
    (case a0__law_draw => k_is)
    (case l0__law_draw => k_is)
    (case c0__law_draw => k_is)
    (case k0__law_draw => k_is)
    (case a0__law_height => k_is)
    (case l0__law_height => k_is)
    (case c0__law_height => k_is)
    (case k0__law_height => k_is)
    (case a0_Heights_need_index => k_is)
    (case i0_Heights_need_index => k_is)
    (case l0_Heights_need_index => k_is)
    (case c0_Heights_need_index => k_is)
    (case k0_Heights_need_index => k_is)
    (case a0_need_height => k_is)
    (case l0_need_height => k_is)
    (case c0_need_height => k_is)
    (case k0_need_height => k_is)
    (case a0_rows_of => k_is)
    (case l0_rows_of => k_is)
    (case c0_rows_of => k_is)
    (case k0_rows_of => k_is)
    (case a0_total_of => k_is)
    (case l0_total_of => k_is)
    (case c0_total_of => k_is)
    (case k0_total_of => k_is)
    (case a0_counted => k_is)
    (case l0_counted => k_is)
    (case c0_counted => k_is)
    (case k0_counted => k_is)
    (case a0_depth_of => k_is)
    (case l0_depth_of => k_is)
    (case c0_depth_of => k_is)
    (case k0_depth_of => k_is)
    (case a0_joined => k_is)
    (case l0_joined => k_is)
    (case c0_joined => k_is)
    (case k0_joined => k_is)
    (case a0_balanced => k_is)
    (case l0_balanced => k_is)
    (case c0_balanced => k_is)
    (case k0_balanced => k_is)
    (case a0_with_row => k_is)
    (case l0_with_row => k_is)
    (case c0_with_row => k_is)
    (case k0_with_row => k_is)
    (case a0_Heights_insert => k_is)
    (case i0_Heights_insert => k_is)
    (case l0_Heights_insert => k_is)
    (case c0_Heights_insert => k_is)
    (case k0_Heights_insert => k_is)
    (case a0__law_tree_rows => k_is)
    (case l0__law_tree_rows => k_is)
    (case c0__law_tree_rows => k_is)
    (case k0__law_tree_rows => k_is)
    (case a0_is_integer => k_is)
    (case l0_is_integer => k_is)
    (case c0_is_integer => k_is)
    (case k0_is_integer => k_is)
    (case a0_measured => k_is)
    (case l0_measured => k_is)
    (case c0_measured => k_is)
    (case k0_measured => k_is)
    (case a0_tree_right => k_is)
    (case l0_tree_right => k_is)
    (case c0_tree_right => k_is)
    (case k0_tree_right => k_is)
    (case a0_height_at => k_is)
    (case l0_height_at => k_is)
    (case c0_height_at => k_is)
    (case k0_height_at => k_is)
    (case a0_without_row => k_is)
    (case l0_without_row => k_is)
    (case c0_without_row => k_is)
    (case k0_without_row => k_is)
    (case a0_Heights_height => k_is)
    (case i0_Heights_height => k_is)
    (case l0_Heights_height => k_is)
    (case c0_Heights_height => k_is)
    (case k0_Heights_height => k_is)
    (case a0_Heights_remove => k_is)
    (case i0_Heights_remove => k_is)
    (case l0_Heights_remove => k_is)
    (case c0_Heights_remove => k_is)
    (case k0_Heights_remove => k_is)
    (case a0__law_before => k_is)
    (case l0__law_before => k_is)
    (case c0__law_before => k_is)
    (case k0__law_before => k_is)
    (case a0_covering => k_is)
    (case l0_covering => k_is)
    (case c0_covering => k_is)
    (case k0_covering => k_is)
    (case a0_Heights_total => k_is)
    (case i0_Heights_total => k_is)
    (case l0_Heights_total => k_is)
    (case c0_Heights_total => k_is)
    (case k0_Heights_total => k_is)
    (case a0_Heights_row_at => k_is)
    (case i0_Heights_row_at => k_is)
    (case l0_Heights_row_at => k_is)
    (case c0_Heights_row_at => k_is)
    (case k0_Heights_row_at => k_is)
    (case a0_Heights_all_heights => k_is)
    (case i0_Heights_all_heights => k_is)
    (case l0_Heights_all_heights => k_is)
    (case c0_Heights_all_heights => k_is)
    (case k0_Heights_all_heights => k_is)
    (case a0_Heights___len__ => k_is)
    (case i0_Heights___len__ => k_is)
    (case l0_Heights___len__ => k_is)
    (case c0_Heights___len__ => k_is)
    (case k0_Heights___len__ => k_is)
    (case a0_Heights_known => k_is)
    (case i0_Heights_known => k_is)
    (case l0_Heights_known => k_is)
    (case c0_Heights_known => k_is)
    (case k0_Heights_known => k_is)
    (case a0_offset_of => k_is)
    (case l0_offset_of => k_is)
    (case c0_offset_of => k_is)
    (case k0_offset_of => k_is)
    (case a0_Heights_offset => k_is)
    (case i0_Heights_offset => k_is)
    (case l0_Heights_offset => k_is)
    (case c0_Heights_offset => k_is)
    (case k0_Heights_offset => k_is)
    (case a0__law_covering => k_is)
    (case l0__law_covering => k_is)
    (case c0__law_covering => k_is)
    (case k0__law_covering => k_is)
    (case a0__law_looks_right => k_is)
    (case l0__law_looks_right => k_is)
    (case c0__law_looks_right => k_is)
    (case k0__law_looks_right => k_is)
    (case a0_with_height => k_is)
    (case l0_with_height => k_is)
    (case c0_with_height => k_is)
    (case k0_with_height => k_is)
    (case a0_Heights_learn => k_is)
    (case i0_Heights_learn => k_is)
    (case l0_Heights_learn => k_is)
    (case c0_Heights_learn => k_is)
    (case k0_Heights_learn => k_is)
    (case a0__law_right => k_is)
    (case l0__law_right => k_is)
    (case c0__law_right => k_is)
    (case k0__law_right => k_is)
    (case a0__law_deck => k_is)
    (case l0__law_deck => k_is)
    (case c0__law_deck => k_is)
    (case k0__law_deck => k_is)
    (case a0_law => k_is)
    (case l0_law => k_is)
    (case c0_law => k_is)
    (case k0_law => k_is)
    (case z_abs => k_is)
    (case z_all => k_is)
    (case z_bool => k_is)
    (case z_int => k_is)
    (case z_isinstance => k_is)
    (case z_len => k_is)
    (case z_list => k_is)
    (case z_max => k_is)
    (case z_min => k_is)
    (case z_range => k_is)
    (case z_str => k_is)
    (case z_sum => k_is)
    (case z_tuple => k_is)
