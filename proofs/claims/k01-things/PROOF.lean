import PyProof.Rows.All
import Wide.All
import OpenK.AllK
import Wide.FinOn
import HandS.ForMost
import HandS.Walk
import HandS.Zip
import HandS.TupAny
import HandS.TupMul
import HandS.IsInst
import HandS.Style
import HandS.TupSets
import HandS.ForExc
import HandS.Lambda
import HandS.Deep
import HandS.Defaults
import KE.GoesEnum
import KE.KStateDown
import HandS.More
import HandS.Words
import HandS.WordsExc
import HandS.Head0
import HandS.Head1
import HandS.Head2
import HandS.HeadEnd
import HandS.HeadHook1
import HandS.HeadHook2
import PySem.Challenge.RW_carrytables_k01_things
set_option Elab.async false
set_option linter.all false
section
set_option maxRecDepth 100000
namespace Ct
open PySem PySem.Spec PyProof.Rows L2

abbrev D := PyData
abbrev Fg := PySem.W.Frag
abbrev AS := Addr → Prop

/-- a list of the written part -/
def KL (K : Fg) (a : Addr) (xs : List V) : Prop := ∀ H : Hp, SqL K H a xs
theorem sql_cases {K : Fg} {H : Hp} {a : Addr} {xs : List V} (h : SqL K H a xs) : Rd H a (.lst xs) ∨ KL K a xs := by
  rcases h with h | h
  · exact .inl h
  · exact .inr fun _ => .inr h
def Li (K : Fg) (O : AS) (H : Hp) (a : Addr) (xs : List V) : Prop := (¬ O a ∧ Rd H a (.lst xs)) ∨ KL K a xs
theorem Li.sql {K : Fg} {O : AS} {H : Hp} {a : Addr} {xs : List V} (h : Li K O H a xs) : SqL K H a xs := by
  rcases h with ⟨_, h⟩ | h
  · exact .inl h
  · exact h H
theorem Li.anti {K : Fg} {O O' : AS} {H : Hp} {a : Addr} {xs : List V} (s : ∀ b, O' b → O b) (h : Li K O H a xs) : Li K O' H a xs := by
  rcases h with ⟨n, h⟩ | h
  · exact .inl ⟨fun z => n (s a z), h⟩
  · exact .inr h

mutual
inductive Dn (K : Fg) (O : AS) (H : Hp) : V → D → Prop
  | non : Dn K O H .non .none
  | bl (b : Bool) : Dn K O H (.bl b) (.bool b)
  | int (i : Int) : Dn K O H (.int i) (.int i)
  | str (x : Str) : Dn K O H (.str x) (.str x)
  | lst {a : Addr} {xs : List V} {ds : List D} : ¬ O a → H a = some (.lst xs) → DnL K O H xs ds → Dn K O H (.ref a) (.list ds)
  | tup {a : Addr} {xs : List V} {ds : List D} : H a = some (.tup xs) → DnL K O H xs ds → Dn K O H (.ref a) (.tuple ds)
inductive DnL (K : Fg) (O : AS) (H : Hp) : List V → List D → Prop
  | nil : DnL K O H [] []
  | cons {v : V} {vs : List V} {d : D} {ds : List D} : Dn K O H v d → DnL K O H vs ds → DnL K O H (v :: vs) (d :: ds)
end

def mutO : HO → Bool
  | .lst _ => true
  | .dT _ => true
  | .dK _ => true
  | _ => false
/-- all that is tracked is kept, but owned lists and dicts may change -/
def Ext (O : AS) (H H' : Hp) : Prop := ∀ a o, H a = some o → H' a = some o ∨ (O a ∧ mutO o = true)
theorem Ext.of {O : AS} {H H' : Hp} (h : Same H H') : Ext O H H' := fun a o e => .inl (h a o e)
theorem Ext.refl {O : AS} {H : Hp} : Ext O H H := Ext.of (Same.refl H)
theorem Ext.tup {O : AS} {H H' : Hp} (e : Ext O H H') {a : Addr} {xs : List V} (h : H a = some (.tup xs)) : H' a = some (.tup xs) := by
  rcases e a _ h with z | ⟨_, z⟩
  · exact z
  · cases z
theorem Ext.lst {O : AS} {H H' : Hp} (e : Ext O H H') {a : Addr} {xs : List V} (n : ¬ O a) (h : H a = some (.lst xs)) : H' a = some (.lst xs) := by
  rcases e a _ h with z | ⟨z, _⟩
  · exact z
  · exact absurd z n
theorem Ext.li {O : AS} {K : Fg} {H H' : Hp} (e : Ext O H H') {a : Addr} {xs : List V} (h : Li K O H a xs) : Li K O H' a xs := by
  rcases h with ⟨n, h⟩ | h
  · refine .inl ⟨n, ?_⟩
    rcases h with h | ⟨o, h⟩
    · exact .inl (e.lst n h)
    · rcases e a _ h with z | ⟨z, _⟩
      · exact .inr ⟨o, z⟩
      · exact absurd z n
  · exact .inr h
theorem Same.sql {K : Fg} {H H' : Hp} (e : Same H H') {a : Addr} {xs : List V} (h : SqL K H a xs) : SqL K H' a xs := e.seq h

mutual
theorem Dn.ext {K : Fg} {O : AS} {H H' : Hp} (e : Ext O H H') : ∀ {v : V} {d : D}, Dn K O H v d → Dn K O H' v d
  | _, _, .non => .non
  | _, _, .bl b => .bl b
  | _, _, .int i => .int i
  | _, _, .str x => .str x
  | _, _, .lst n h t => .lst n (e.lst n h) (t.ext e)
  | _, _, .tup h t => .tup (e.tup h) (t.ext e)
theorem DnL.ext {K : Fg} {O : AS} {H H' : Hp} (e : Ext O H H') : ∀ {v : List V} {d : List D}, DnL K O H v d → DnL K O H' v d
  | _, _, .nil => .nil
  | _, _, .cons h t => .cons (h.ext e) (t.ext e)
end
mutual
theorem Dn.anti {K : Fg} {O O' : AS} {H : Hp} (e : ∀ b, O' b → O b) : ∀ {v : V} {d : D}, Dn K O H v d → Dn K O' H v d
  | _, _, .non => .non
  | _, _, .bl b => .bl b
  | _, _, .int i => .int i
  | _, _, .str x => .str x
  | _, _, .lst n h t => .lst (fun z => n (e _ z)) h (t.anti e)
  | _, _, .tup h t => .tup h (t.anti e)
theorem DnL.anti {K : Fg} {O O' : AS} {H : Hp} (e : ∀ b, O' b → O b) : ∀ {v : List V} {d : List D}, DnL K O H v d → DnL K O' H v d
  | _, _, .nil => .nil
  | _, _, .cons h t => .cons (h.anti e) (t.anti e)
end
/-! a set that is wider by addresses that nothing stands at -/
mutual
theorem Dn.wide {K : Fg} {O O' : AS} {H : Hp} (e : ∀ b, O' b → O b ∨ H b = none) : ∀ {v : V} {d : D}, Dn K O H v d → Dn K O' H v d
  | _, _, .non => .non
  | _, _, .bl b => .bl b
  | _, _, .int i => .int i
  | _, _, .str x => .str x
  | _, _, .lst n h t => .lst (fun z => by
      rcases e _ z with z | z
      · exact n z
      · rw [z] at h
        cases h) h (t.wide e)
  | _, _, .tup h t => .tup h (t.wide e)
theorem DnL.wide {K : Fg} {O O' : AS} {H : Hp} (e : ∀ b, O' b → O b ∨ H b = none) : ∀ {v : List V} {d : List D}, DnL K O H v d → DnL K O' H v d
  | _, _, .nil => .nil
  | _, _, .cons h t => .cons (h.wide e) (t.wide e)
end
mutual
theorem Dn.dp {K : Fg} {O : AS} {H : Hp} : ∀ {v : V} {d : D}, Dn K O H v d → Dp K H v d
  | _, _, .non => .non
  | _, _, .bl b => .bl b
  | _, _, .int i => .int i
  | _, _, .str x => .str x
  | _, _, .lst _ h t => .lst (.inl (.inl h)) t.dp
  | _, _, .tup h t => .tup (.inl (.inl h)) t.dp
theorem DnL.dp {K : Fg} {O : AS} {H : Hp} : ∀ {v : List V} {d : List D}, DnL K O H v d → DpAll K H v d
  | _, _, .nil => .nil
  | _, _, .cons h t => .cons h.dp t.dp
end
section
variable {K : Fg} {O : AS} {H : Hp}
theorem DnL.len : ∀ {vs : List V} {ds : List D}, DnL K O H vs ds → vs.length = ds.length
  | _, _, .nil => rfl
  | _, _, .cons _ t => by rw [List.length_cons, List.length_cons, t.len]
theorem DnL.get : ∀ {vs : List V} {ds : List D} {i : Nat} {v : V}, DnL K O H vs ds → vs[i]? = some v → ∃ d, ds[i]? = some d ∧ Dn K O H v d
  | _, _, _, _, .nil, e => by simp at e
  | _, _, 0, _, .cons h _, e => by
    simp at e
    subst e
    exact ⟨_, rfl, h⟩
  | _, _, i + 1, v, .cons _ t, e => by
    obtain ⟨d, h1, h2⟩ := DnL.get (i := i) (v := v) t (by simpa using e)
    exact ⟨d, by simpa using h1, h2⟩
theorem DnL.getD : ∀ {vs : List V} {ds : List D} {i : Nat} {d : D}, DnL K O H vs ds → ds[i]? = some d → ∃ v, vs[i]? = some v ∧ Dn K O H v d
  | _, _, _, _, .nil, e => by simp at e
  | _, _, 0, _, .cons h _, e => by
    simp at e
    subst e
    exact ⟨_, rfl, h⟩
  | _, _, i + 1, d, .cons _ t, e => by
    obtain ⟨v, h1, h2⟩ := DnL.getD (i := i) (d := d) t (by simpa using e)
    exact ⟨v, by simpa using h1, h2⟩
theorem DnL.app : ∀ {vs ws : List V} {ds es : List D}, DnL K O H vs ds → DnL K O H ws es → DnL K O H (vs ++ ws) (ds ++ es)
  | _, _, _, _, .nil, s => s
  | _, _, _, _, .cons h t, s => .cons h (t.app s)
theorem DnL.take : ∀ {vs : List V} {ds : List D} (n : Nat), DnL K O H vs ds → DnL K O H (vs.take n) (ds.take n)
  | _, _, 0, _ => .nil
  | _, _, _ + 1, .nil => .nil
  | _, _, n + 1, .cons h t => .cons h (DnL.take n t)
theorem DnL.drop : ∀ {vs : List V} {ds : List D} (n : Nat), DnL K O H vs ds → DnL K O H (vs.drop n) (ds.drop n)
  | _, _, 0, h => h
  | _, _, _ + 1, .nil => .nil
  | _, _, n + 1, .cons _ t => DnL.drop n t
theorem DnL.set {v : V} {d : D} (h : Dn K O H v d) : ∀ {vs : List V} {ds : List D} (i : Nat), DnL K O H vs ds → DnL K O H (vs.set i v) (ds.set i d)
  | _, _, _, .nil => .nil
  | _, _, 0, .cons _ t => .cons h t
  | _, _, i + 1, .cons q t => .cons q (DnL.set h i t)
theorem DnL.rev : ∀ {vs : List V} {ds : List D}, DnL K O H vs ds → DnL K O H vs.reverse ds.reverse
  | _, _, .nil => .nil
  | _, _, .cons h t => by
    rw [List.reverse_cons, List.reverse_cons]
    exact t.rev.app (.cons h .nil)
theorem DnL.rep {vs : List V} {ds : List D} (h : DnL K O H vs ds) : ∀ n : Nat, DnL K O H (List.replicate n vs).flatten (List.replicate n ds).flatten
  | 0 => .nil
  | n + 1 => by
    rw [List.replicate_succ, List.replicate_succ, List.flatten_cons, List.flatten_cons]
    exact h.app (DnL.rep h n)
theorem Dn.intv {v : V} {i : Int} (h : Dn K O H v (.int i)) : v = .int i := by cases h; rfl
theorem Dn.blv {v : V} {b : Bool} (h : Dn K O H v (.bool b)) : v = .bl b := by cases h; rfl
theorem Dn.strv {v : V} {x : Str} (h : Dn K O H v (.str x)) : v = .str x := by cases h; rfl
theorem Dn.nonv {v : V} (h : Dn K O H v .none) : v = .non := by cases h; rfl
end

/-! ### results -/
inductive R where
  | im (d : D) | ls (ds : List D) | fr (ds : List D) | sc (ds : List D)
def ROk (K : Fg) (O : AS) (H0 H : Hp) (v : V) : R → Prop
  | .im d => Dn K O H v d
  | .ls ds => ∃ a vs, v = .ref a ∧ H a = some (.lst vs) ∧ DnL K O H vs ds
  | .sc ds => ∃ a vs, v = .ref a ∧ SqL K H a vs ∧ DnL K O H vs ds
  | .fr ds => ∃ a vs, v = .ref a ∧ H0 a = none ∧ H a = some (.lst vs) ∧ DnL K (fun b => O b ∨ b = a) H vs ds
section
variable {K : Fg} {O : AS} {H0 H0' H H' : Hp} {v : V} {r : R}
theorem ROk.mono (e : Same H H') (h : ROk K O H0 H v r) : ROk K O H0 H' v r := by
  cases r with
  | im d => exact Dn.ext (Ext.of e) h
  | ls ds =>
    obtain ⟨a, vs, e1, e2, e3⟩ := h
    exact ⟨a, vs, e1, e _ _ e2, e3.ext (Ext.of e)⟩
  | sc ds =>
    obtain ⟨a, vs, e1, e2, e3⟩ := h
    exact ⟨a, vs, e1, e.seq e2, e3.ext (Ext.of e)⟩
  | fr ds =>
    obtain ⟨a, vs, e1, e2, e3, e4⟩ := h
    exact ⟨a, vs, e1, e2, e _ _ e3, e4.ext (Ext.of e)⟩
theorem ROk.back (e : Same H0' H0) (h : ROk K O H0 H v r) : ROk K O H0' H v r := by
  cases r with
  | im d => exact h
  | ls ds => exact h
  | sc ds => exact h
  | fr ds =>
    obtain ⟨a, vs, e1, e2, e3, e4⟩ := h
    exact ⟨a, vs, e1, e.free e2, e3, e4⟩
end
/-- the items of a list, of a tuple -/
def R.lst? : R → Option (List D)
  | .im (.list ds) => some ds
  | .ls ds => some ds
  | .fr ds => some ds
  | _ => none
/-- .. the script too -/
def R.sql? : R → Option (List D)
  | .sc ds => some ds
  | r => r.lst?
def R.tup? : R → Option (List D)
  | .im (.tuple ds) => some ds
  | _ => none
/-- the thing as data that may be kept -/
def R.dat? : R → Option D
  | .im d => some d
  | .fr ds => some (.list ds)
  | .ls _ => none
  | .sc _ => none
/-- the thing as data to be looked at -/
def R.see : R → D
  | .im d => d
  | .fr ds => .list ds
  | .ls ds => .list ds
  | .sc ds => .list ds
section
variable {K : Fg} {O : AS} {H0 H H' : Hp} {v : V} {r : R} {ds : List D}
theorem ROk.lst (h : ROk K O H0 H v r) (e : r.lst? = some ds) : ∃ a vs, v = .ref a ∧ H a = some (.lst vs) ∧ DnL K O H vs ds := by
  cases r with
  | im d =>
    cases d <;> simp [R.lst?] at e
    subst e
    cases h with
    | lst n a b => exact ⟨_, _, rfl, a, b⟩
  | ls es =>
    simp [R.lst?] at e
    subst e
    exact h
  | fr es =>
    simp [R.lst?] at e
    subst e
    obtain ⟨a, vs, e1, e2, e3, e4⟩ := h
    exact ⟨a, vs, e1, e3, e4.anti fun b => .inl⟩
  | sc es => simp [R.lst?] at e
theorem ROk.sql (h : ROk K O H0 H v r) (e : r.sql? = some ds) : ∃ a vs, v = .ref a ∧ SqL K H a vs ∧ DnL K O H vs ds := by
  cases r with
  | sc es =>
    simp [R.sql?] at e
    subst e
    exact h
  | im d =>
    obtain ⟨a, vs, e1, e2, e3⟩ := ROk.lst h e
    exact ⟨a, vs, e1, .inl (.inl e2), e3⟩
  | ls d =>
    obtain ⟨a, vs, e1, e2, e3⟩ := ROk.lst h e
    exact ⟨a, vs, e1, .inl (.inl e2), e3⟩
  | fr d =>
    obtain ⟨a, vs, e1, e2, e3⟩ := ROk.lst h e
    exact ⟨a, vs, e1, .inl (.inl e2), e3⟩
theorem ROk.tup (h : ROk K O H0 H v r) (e : r.tup? = some ds) : ∃ a vs, v = .ref a ∧ H a = some (.tup vs) ∧ DnL K O H vs ds := by
  cases r with
  | im d =>
    cases d <;> simp [R.tup?] at e
    subst e
    cases h with
    | tup a b => exact ⟨_, _, rfl, a, b⟩
  | ls es => simp [R.tup?] at e
  | fr es => simp [R.tup?] at e
  | sc es => simp [R.tup?] at e
theorem ROk.dat {d : D} (h : ROk K O H0 H v r) (hd : ∀ a, O a → H0 a ≠ none) (e : r.dat? = some d) : Dn K O H v d := by
  cases r with
  | im d' =>
    simp [R.dat?] at e
    subst e
    exact h
  | ls es => simp [R.dat?] at e
  | sc es => simp [R.dat?] at e
  | fr es =>
    simp [R.dat?] at e
    subst e
    obtain ⟨a, vs, rfl, e2, e3, e4⟩ := h
    exact .lst (fun z => hd a z e2) e3 (e4.anti fun b => .inl)
theorem ROk.see (h : ROk K O H0 H v r) : Dp K H v r.see := by
  cases r with
  | im d => exact Dn.dp h
  | ls es =>
    obtain ⟨a, vs, rfl, e2, e3⟩ := h
    exact .lst (.inl (.inl e2)) e3.dp
  | sc es =>
    obtain ⟨a, vs, rfl, e2, e3⟩ := h
    exact .lst e2 e3.dp
  | fr es =>
    obtain ⟨a, vs, rfl, e2, e3, e4⟩ := h
    exact .lst (.inl (.inl e3)) e4.dp
end

/-! ### the slots -/
inductive Sl where
  | no | im (d : D) | bo (ds : List D) | ml (ds : List D) | sc (ds : List D)
abbrev Env := List Sl
abbrev Ownr := Nat → List Addr
def Ow (A : Ownr) : AS := fun a => ∃ i, a ∈ A i
def Ob (B : AS) (A : Ownr) : AS := fun a => B a ∨ Ow A a
def SlOk (K : Fg) (O W : AS) (H : Hp) (v : Option V) (as : List Addr) : Sl → Prop
  | .no => as = []
  | .im d => as = [] ∧ ∃ x, v = some x ∧ Dn K O H x d
  | .bo ds => as = [] ∧ ∃ a vs, v = some (.ref a) ∧ ¬ W a ∧ H a = some (.lst vs) ∧ DnL K O H vs ds
  | .sc ds => as = [] ∧ ∃ a vs, v = some (.ref a) ∧ Li K W H a vs ∧ DnL K O H vs ds
  | .ml ds => ∃ a vs, as = [a] ∧ v = some (.ref a) ∧ H a = some (.lst vs) ∧ DnL K O H vs ds
/-- what stands through a loop: objects that nobody owns; data -/
structure Pins where
  ad : List (Addr × HO)
  kd : List (V × D)
structure Rep (K : Fg) (H0 : Hp) (B : AS) (pn : Pins) (A : Ownr) (env : Env) (st : L2.St) (H : Hp) : Prop where
  len : st.length = env.length
  same : Same H0 H
  bdom : ∀ a, B a → H a ≠ none
  new : ∀ i a, a ∈ A i → H0 a = none
  dom : ∀ i a, a ∈ A i → H a ≠ none
  disj : ∀ i j a, a ∈ A i → a ∈ A j → i = j
  out : ∀ i, env.length ≤ i → A i = []
  slots : ∀ i s, env[i]? = some s → SlOk K (Ob B A) (Ow A) H (st[i]?.join) (A i) s
  pins : ∀ p ∈ pn.ad, ¬ Ow A p.1 ∧ H p.1 = some p.2
  keep : ∀ p ∈ pn.kd, Dn K (Ob B A) H p.1 p.2
section
variable {K : Fg} {H0 H H' : Hp} {B : AS} {pn : Pins} {A : Ownr} {env : Env} {st : L2.St}
theorem Same.ne {a : Addr} (e : Same H H') (h : H a ≠ none) : H' a ≠ none := fun z => h (e.free z)
theorem Rep.odom (r : Rep K H0 B pn A env st H) : ∀ a, Ob B A a → H a ≠ none := fun a z => by
  rcases z with z | ⟨i, z⟩
  · exact r.bdom a z
  · exact r.dom i a z
theorem SlOk.mono {O W : AS} {v : Option V} {as : List Addr} {s : Sl} (e : Same H H') (h : SlOk K O W H v as s) : SlOk K O W H' v as s := by
  cases s with
  | no => exact h
  | im d =>
    obtain ⟨h1, x, h2, h3⟩ := h
    exact ⟨h1, x, h2, h3.ext (Ext.of e)⟩
  | bo ds =>
    obtain ⟨h1, a, vs, h2, h3, h4⟩ := h
    exact ⟨h1, a, vs, h2, h3, e _ _ h4.1, h4.2.ext (Ext.of e)⟩
  | sc ds =>
    obtain ⟨h1, a, vs, h2, h3, h4⟩ := h
    exact ⟨h1, a, vs, h2, (Ext.of e).li h3, h4.ext (Ext.of e)⟩
  | ml ds =>
    obtain ⟨a, vs, h1, h2, h3, h4⟩ := h
    exact ⟨a, vs, h1, h2, e _ _ h3, h4.ext (Ext.of e)⟩
theorem Rep.mono (e : Same H H') (r : Rep K H0 B pn A env st H) : Rep K H0 B pn A env st H' :=
  ⟨r.len, r.same.trans e, fun a h => Same.ne e (r.bdom a h), r.new, fun i a h => Same.ne e (r.dom i a h), r.disj, r.out, fun i s h => (r.slots i s h).mono e, fun p hp => ⟨(r.pins p hp).1, e _ _ (r.pins p hp).2⟩, fun p hp => (r.keep p hp).ext (Ext.of e)⟩
end

/-! ### readings -/
abbrev XE := Env → Option R
/-- what comes of an expression -/
def tX (K : Fg) (f : XE) : TE := fun st H Q => ∃ H0 B pn A env r, Rep K H0 B pn A env st H ∧ f env = some r ∧ ∀ v H', Same H H' → ROk K (Ob B A) H H' v r → Q v H'
/-- a test -/
def tXT (K : Fg) (f : XE) : TT := fun st H Q => ∃ H0 B pn A env b, Rep K H0 B pn A env st H ∧ f env = some (.im (.bool b)) ∧ ∀ H', Same H H' → Q b H'
abbrev XA := Env → Option (List R)
inductive RAll (K : Fg) (O : AS) (H0 H : Hp) : List V → List R → Prop
  | nil : RAll K O H0 H [] []
  | cons {v : V} {vs : List V} {r : R} {rs : List R} : ROk K O H0 H v r → RAll K O H0 H vs rs → RAll K O H0 H (v :: vs) (r :: rs)
def tXA (K : Fg) (f : XA) : TA := fun st H Q => ∃ H0 B pn A env rs, Rep K H0 B pn A env st H ∧ f env = some rs ∧ ∀ vs H', Same H H' → RAll K (Ob B A) H H' vs rs → Q vs H'
inductive Out where
  | nx (env : Env) | rt (r : R) | bk (env : Env) | ct (env : Env)
abbrev XS := Env → Option Out
def OutOk (K : Fg) (H0 : Hp) (B : AS) (pn : Pins) (E : Ends) : Out → Prop
  | .nx env => ∀ st H A, Rep K H0 B pn A env st H → E.nx st H
  | .bk env => ∀ st H A, Rep K H0 B pn A env st H → E.bk st H
  | .ct env => ∀ st H A, Rep K H0 B pn A env st H → E.ct st H
  | .rt r => ∀ v H, Same H0 H → ROk K B H0 H v r → E.rt v H
def tXS (K : Fg) (f : XS) : TS := fun E st H => ∃ H0 B pn A env o, Rep K H0 B pn A env st H ∧ f env = some o ∧ OutOk K H0 B pn E o

theorem pe_weak {X : Cx} {e : Expr} {t t' : TE} (h : PE X e t) (w : ∀ st H Q, t' st H Q → t st H Q) : PE X e t' := ⟨fun pins s st H Q I q => h.run pins s st H Q I (w st H Q q)⟩
theorem pt_weak {X : Cx} {e : Expr} {t t' : TT} (h : PT X e t) (w : ∀ st H Q, t' st H Q → t st H Q) : PT X e t' := ⟨fun pins s st H Q I q => h.run pins s st H Q I (w st H Q q)⟩
theorem pw_weak {X : Cx} {e : Expr} {t t' : TT} (h : PW X e t) (w : ∀ st H Q, t' st H Q → t st H Q) : PW X e t' := ⟨fun wh pins s st H Q I q => h.run wh pins s st H Q I (w st H Q q)⟩
theorem pa_weak {X : Cx} {e : List Expr} {t t' : TA} (h : PA X e t) (w : ∀ st H Q, t' st H Q → t st H Q) : PA X e t' := ⟨fun pos pins s st H Q I q => h.run pos pins s st H Q I (w st H Q q)⟩
theorem ps_weak {X : Cx} {e : Stmt} {t t' : TS} (h : PS X e t) (w : ∀ E st H, t' E st H → t E st H) : PS X e t' := ⟨fun pins s st H E I q => h.run pins s st H E I (w E st H q)⟩
theorem pss_weak {X : Cx} {e : List Stmt} {t t' : TS} (h : PSs X e t) (w : ∀ E st H, t' E st H → t E st H) : PSs X e t' := ⟨fun pins s st H E I q => h.run pins s st H E I (w E st H q)⟩
end Ct

end
section
set_option maxRecDepth 100000
namespace Ct
open PySem PySem.Spec PyProof.Rows L2

theorem szl {n : Nat} (h : n ≤ 100000) : n ≤ sizeLine := Nat.le_trans h (by decide)
theorem szlt {n : Nat} (h : n < 100000) : n < sizeLine := Nat.lt_of_lt_of_le h (by decide)
theorem same_new {H : Hp} {p : Addr} {o : HO} (h : H p = none) : Same H (upd H p o) := fun b x e => by
  rw [upd_ne (ne_of_none e h)]
  exact e

/-! ### names, constants -/
def Sl.get : Sl → Option R
  | .no => none
  | .im d => some (.im d)
  | .bo ds => some (.ls ds)
  | .ml ds => some (.ls ds)
  | .sc ds => some (.sc ds)
def xVar (i : Nat) : XE := fun env => (env[i]?).bind Sl.get
def xC (d : D) : XE := fun _ => some (.im d)
section
variable {K : Fg} {H0 H : Hp} {B : AS} {pn : Pins} {A : Ownr} {env : Env} {st : L2.St}
theorem Rep.var {i : Nat} {r : R} (h : Rep K H0 B pn A env st H) (e : xVar i env = some r) : ∃ v, st[i]? = some (some v) ∧ ROk K (Ob B A) H H v r := by
  obtain ⟨s, e1, e2⟩ := Option.bind_eq_some_iff.mp e
  have q := h.slots i s e1
  have hl : i < st.length := by
    rw [h.len]
    exact (List.getElem?_eq_some_iff.mp e1).1
  have join : ∀ {v : V}, st[i]?.join = some v → st[i]? = some (some v) := fun {v} z => by
    rw [List.getElem?_eq_getElem hl] at z ⊢
    exact congrArg some z
  cases s with
  | no => cases e2
  | im d =>
    cases e2
    obtain ⟨_, x, h1, h2⟩ := q
    exact ⟨x, join h1, h2⟩
  | bo ds =>
    cases e2
    obtain ⟨_, a, vs, h1, h2, h3, h4⟩ := q
    exact ⟨_, join h1, a, vs, rfl, h3, h4⟩
  | ml ds =>
    cases e2
    obtain ⟨a, vs, _, h1, h2, h3⟩ := q
    exact ⟨_, join h1, a, vs, rfl, h2, h3⟩
  | sc ds =>
    cases e2
    obtain ⟨_, a, vs, h1, h2, h3⟩ := q
    exact ⟨_, join h1, a, vs, rfl, h2.sql, h3⟩
end
section
variable {X : Cx} {a b c e : Expr} {f g h : XE} {pos : Pos}
theorem x_var (i : Nat) {x : Str} (hN : X.N[i]? = some x := by rfl) (hv : Vis X.env.scope x := by first | exact Or.inl rfl | exact Or.inr (Or.inl rfl) | exact Or.inr (Or.inr rfl)) (hd : (x == ("__debug__" : Str)) = false := by decide)
    (hcd : (x == ("__classdict__" : Str)) = false := by decide) : PE X (.Name x pos) (tX X.K (xVar i)) :=
  pe_weak (pe_var hN hv hd hcd) fun st H Q ⟨H0, B, pn, A, env, r, rp, er, q⟩ => by
    obtain ⟨v, h1, h2⟩ := rp.var er
    exact ⟨v, h1, q v H (Same.refl H) h2⟩
theorem x_int {i j} : PE X (.Constant (.int i) j pos) (tX X.K (xC (.int i))) := pe_weak pe_int fun st H Q ⟨H0, B, pn, A, env, r, rp, er, q⟩ => by
  cases er
  exact q _ H (Same.refl H) (.int i)
theorem x_bl {i j} : PE X (.Constant (.bool i) j pos) (tX X.K (xC (.bool i))) := pe_weak pe_bl fun st H Q ⟨H0, B, pn, A, env, r, rp, er, q⟩ => by
  cases er
  exact q _ H (Same.refl H) (.bl i)
theorem x_str {i j} : PE X (.Constant (.str i) j pos) (tX X.K (xC (.str i))) := pe_weak pe_str fun st H Q ⟨H0, B, pn, A, env, r, rp, er, q⟩ => by
  cases er
  exact q _ H (Same.refl H) (.str i)
theorem x_non {j} : PE X (.Constant .none j pos) (tX X.K (xC .none)) := pe_weak pe_non fun st H Q ⟨H0, B, pn, A, env, r, rp, er, q⟩ => by
  cases er
  exact q _ H (Same.refl H) .non
theorem x_globI {x : Str} {i : Int} {t : Tok} (hg : Gl X x) (hm : X.mg x = some (.int i t)) (hd : (x == ("__debug__" : Str)) = false := by decide) : PE X (.Name x pos) (tX X.K (xC (.int i))) :=
  pe_weak (pe_glob (v := .int i) hg hm ⟨t, rfl⟩ hd) fun st H Q ⟨H0, B, pn, A, env, r, rp, er, q⟩ => by
  cases er
  exact q _ H (Same.refl H) (.int i)
theorem x_globS {x z : Str} {t : Tok} (hg : Gl X x) (hm : X.mg x = some (.str z t)) (hd : (x == ("__debug__" : Str)) = false := by decide) : PE X (.Name x pos) (tX X.K (xC (.str z))) :=
  pe_weak (pe_glob (v := .str z) hg hm ⟨t, rfl⟩ hd) fun st H Q ⟨H0, B, pn, A, env, r, rp, er, q⟩ => by
  cases er
  exact q _ H (Same.refl H) (.str z)
end

/-! ### two-place operations -/
abbrev Sem2 := R → R → Option R
def xBin (s : Sem2) (f g : XE) : XE := fun env => (f env).bind fun x => (g env).bind fun y => s x y
/-- the operation's reading r does what s says -/
def Op2 (K : Fg) (s : Sem2) (r : R2) : Prop := ∀ (O : AS) (H0 H : Hp) (x y : V) (rx ry rz : R) (Q : VK), (∀ a, O a → H0 a ≠ none) → Same H0 H → ROk K O H0 H x rx → ROk K O H0 H y ry → s rx ry = some rz →
  (∀ v H', Same H H' → ROk K O H0 H' v rz → Q v H') → r x y H Q
theorem bin_run {K : Fg} {s : Sem2} {r : R2} {f g : XE} (o : Op2 K s r) {st : L2.St} {H : Hp} {Q : VK} (h : tX K (xBin s f g) st H Q) : tOp r (tX K f) (tX K g) st H Q := by
  obtain ⟨H0, B, pn, A, env, rz, rp, er, q⟩ := h
  obtain ⟨rx, ex, er⟩ := Option.bind_eq_some_iff.mp er
  obtain ⟨ry, ey, er⟩ := Option.bind_eq_some_iff.mp er
  refine ⟨H0, B, pn, A, env, rx, rp, ex, fun x H1 s1 k1 => ⟨H0, B, pn, A, env, ry, rp.mono s1, ey, fun y H2 s2 k2 => ?_⟩⟩
  exact o _ H H2 x y rx ry rz Q rp.odom (s1.trans s2) (k1.mono s2) (k2.back s1) er fun v H' s3 k3 => q v H' ((s1.trans s2).trans s3) k3
section
variable {X : Cx} {a b c e : Expr} {f g h : XE} {pos : Pos} {s : Sem2} {r : R2}
theorem x_bin {op : Operator} (o : Op2 X.K s r) (ho : OpR X (binaryOp op) r) (ha : PE X a (tX X.K f)) (hb : PE X b (tX X.K g)) : PE X (.BinOp a op b pos) (tX X.K (xBin s f g)) :=
  pe_weak (pe_op ho ha hb) fun _ _ _ q => bin_run o q
theorem x_cmp {op : CmpOp} (o : Op2 X.K s r) (ho : OpR X (compareOp op) r) (hm : behindInMarks op b = false) (ha : PE X a (tX X.K f)) (hb : PE X b (tX X.K g)) : PE X (.Compare a [op] [b] pos) (tX X.K (xBin s f g)) :=
  pe_weak (pe_cmpR ho ha hb hm) fun _ _ _ q => bin_run o q
theorem tx_bool {K : Fg} {f : XE} {st : L2.St} {H : Hp} {Q : Bool → Hp → Prop} (q : tXT K f st H Q) : tX K f st H fun x H' => ∃ k, x = .bl k ∧ Q k H' := by
  obtain ⟨H0, B, pn, A, env, k, rp, er, q⟩ := q
  exact ⟨H0, B, pn, A, env, _, rp, er, fun v H' s1 k1 => ⟨k, Dn.blv k1, q H' s1⟩⟩
theorem y_cmp {op : CmpOp} (o : Op2 X.K s r) (ho : OpR X (compareOp op) r) (hm : behindInMarks op b = false) (ha : PE X a (tX X.K f)) (hb : PE X b (tX X.K g)) : PT X (.Compare a [op] [b] pos) (tXT X.K (xBin s f g)) :=
  pt_weak (pt_cmpR ho ha hb hm) fun _ _ _ q => bin_run o (tx_bool q)
/-- any expression whose value is a truth, as a test -/
theorem y_val (h : PE X e (tX X.K f)) (he : ∀ whole, isTrue e X.env whole = (do let v ← whole; standAt e.pos; holding [v] (truthy v)) := by intro _; rfl) : PT X e (tXT X.K f) :=
  pt_weak (pt_val h he) fun _ _ _ q => tx_bool q
end

/-! ### arithmetic -/
def addR : Sem2
  | .im (.int a), .im (.int b) => some (.im (.int (a + b)))
  | .im (.str a), .im (.str b) => if a.length + b.length ≤ 100000 then some (.im (.str (a ++ b))) else none
  | .im (.tuple a), .im (.tuple b) => if a.length + b.length ≤ 100000 then some (.im (.tuple (a ++ b))) else none
  | x, y => x.lst?.bind fun a => y.lst?.bind fun b => if a.length + b.length ≤ 100000 then some (.fr (a ++ b)) else none
def subR : Sem2
  | .im (.int a), .im (.int b) => some (.im (.int (a - b)))
  | _, _ => none
def small (a : Int) : Bool := decide (-(2 ^ 64) < a) && decide (a < 2 ^ 64)
def mulR : Sem2
  | .im (.int a), .im (.int b) => if small a || small b then some (.im (.int (a * b))) else none
  | .im (.tuple a), .im (.int k) => if a.length ≤ 1000 ∧ a ≠ [] ∧ 2 ≤ k ∧ k ≤ 1000 then some (.im (.tuple (List.replicate k.toNat a).flatten)) else none
  | x, .im (.int k) => x.lst?.bind fun a => if 0 ≤ k ∧ k ≤ 1000 ∧ a.length ≤ 1000 then some (.fr (List.replicate k.toNat a).flatten) else none
  | _, _ => none
def divR : Sem2
  | .im (.int a), .im (.int b) => if 0 < b ∧ b < 1073741824 then some (.im (.int (a / b))) else none
  | _, _ => none
def modR : Sem2
  | .im (.int a), .im (.int b) => if 0 < b then some (.im (.int (a % b))) else none
  | _, _ => none
def powR : Sem2
  | .im (.int a), .im (.int b) => if 0 ≤ b ∧ b ≤ 1000000 ∧ a.natAbs < 2 ^ 64 then some (.im (.int (a ^ b.toNat))) else none
  | _, _ => none
/-- two ints in -/
theorem op2I {K : Fg} {s : Sem2} {C : Int → Int → Prop} {g : Int → Int → V} (h : ∀ rx ry rz, s rx ry = some rz → ∃ i j d, rx = .im (.int i) ∧ ry = .im (.int j) ∧ C i j ∧ rz = .im d ∧ ∀ O H, Dn K O H (g i j) d) : Op2 K s (rI C g) :=
  fun O H0 H x y rx ry rz Q hd hs kx ky e q => by
    obtain ⟨i, j, d, rfl, rfl, c, rfl, k⟩ := h rx ry rz e
    exact ⟨i, j, Dn.intv kx, Dn.intv ky, c, q _ H (Same.refl H) (k O H)⟩
theorem op2I0 {K : Fg} {s : Sem2} {g : Int → Int → V} (h : ∀ rx ry rz, s rx ry = some rz → ∃ i j d, rx = .im (.int i) ∧ ry = .im (.int j) ∧ rz = .im d ∧ ∀ O H, Dn K O H (g i j) d) : Op2 K s (rI0 g) :=
  fun O H0 H x y rx ry rz Q hd hs kx ky e q => by
    obtain ⟨i, j, d, rfl, rfl, rfl, k⟩ := h rx ry rz e
    exact ⟨i, j, Dn.intv kx, Dn.intv ky, q _ H (Same.refl H) (k O H)⟩
theorem sub_ok {K : Fg} : Op2 K subR (rI0 fun i j => .int (i - j)) := op2I0 fun rx ry rz e => by
  unfold subR at e
  split at e
  · cases e
    exact ⟨_, _, _, rfl, rfl, rfl, fun O H => .int _⟩
  · cases e
theorem div_ok {K : Fg} : Op2 K divR (rI CDiv fun i j => .int (i / j)) := op2I fun rx ry rz e => by
  unfold divR at e
  split at e
  · split at e
    · rename_i hc
      cases e
      exact ⟨_, _, _, rfl, rfl, hc, rfl, fun O H => .int _⟩
    · cases e
  · cases e
theorem mod_ok {K : Fg} : Op2 K modR (rI (fun _ j => 0 < j) fun i j => .int (i % j)) := op2I fun rx ry rz e => by
  unfold modR at e
  split at e
  · split at e
    · rename_i hc
      cases e
      exact ⟨_, _, _, rfl, rfl, hc, rfl, fun O H => .int _⟩
    · cases e
  · cases e
theorem pow_ok {K : Fg} : Op2 K powR (rI CPow fun i j => .int (i ^ j.toNat)) := op2I fun rx ry rz e => by
  unfold powR at e
  split at e
  · split at e
    · rename_i hc
      cases e
      exact ⟨_, _, _, rfl, rfl, hc, rfl, fun O H => .int _⟩
    · cases e
  · cases e
/-- a new list, a new tuple, as a result -/
theorem new_fr {K : Fg} {O : AS} {H0 H : Hp} {p : Addr} {vs : List V} {ds : List D} (s : Same H0 H) (hp : H p = none) (k : DnL K O H vs ds) : ROk K O H0 (upd H p (.lst vs)) (.ref p) (.fr ds) := by
  refine ⟨p, vs, rfl, s.free hp, upd_same, DnL.ext (Ext.of (same_new hp)) (k.wide fun b z => ?_)⟩
  rcases z with z | z
  · exact .inl z
  · subst z
    exact .inr hp
theorem new_tup {K : Fg} {O : AS} {H : Hp} {p : Addr} {vs : List V} {ds : List D} (hp : H p = none) (k : DnL K O H vs ds) : Dn K O (upd H p (.tup vs)) (.ref p) (.tuple ds) :=
  .tup upd_same (k.ext (Ext.of (same_new hp)))
def rAddAll (K : Fg) : R2 := fun x y H Q => rI0 (fun i j => .int (i + j)) x y H Q ∨ (∃ i j, x = .str i ∧ y = .str j ∧ i.length + j.length ≤ sizeLine ∧ Q (.str (i ++ j)) H) ∨ rCatA K x y H Q ∨ rCat x y H Q
theorem add_op {X : Cx} : OpR X (binaryOp .Add) (rAddAll X.K) := op_add.or (op_add_str.or (op_catA.or op_cat))
theorem add_ok {K : Fg} : Op2 K addR (rAddAll K) := fun O H0 H x y rx ry rz Q hd hs kx ky e q => by
  unfold addR at e
  split at e
  · cases e
    exact .inl ⟨_, _, Dn.intv kx, Dn.intv ky, q _ H (Same.refl H) (.int _)⟩
  · split at e
    · rename_i hc
      cases e
      exact .inr (.inl ⟨_, _, Dn.strv kx, Dn.strv ky, szl hc, q _ H (Same.refl H) (.str _)⟩)
    · cases e
  · split at e
    · rename_i a b hc
      cases e
      obtain ⟨p, xs, rfl, hp, dp⟩ := ROk.tup kx rfl
      obtain ⟨p2, ys, rfl, hp2, dp2⟩ := ROk.tup ky rfl
      refine .inr (.inr (.inl ⟨p, p2, xs, ys, rfl, rfl, .of hp, .of hp2, by rw [dp.len, dp2.len]; exact szl hc, fun e1 => ?_, fun e1 e2 => ?_, fun e1 e2 l hl => ?_⟩))
      · subst e1
        cases dp
        exact q _ H (Same.refl H) (Dn.tup hp2 dp2)
      · subst e2
        cases dp2
        rw [List.append_nil] at q
        exact q _ H (Same.refl H) (Dn.tup hp dp)
      · exact q _ _ (same_new hl) (new_tup hl (dp.app dp2))
    · cases e
  · obtain ⟨u, eu, e⟩ := Option.bind_eq_some_iff.mp e
    obtain ⟨w, ew, e⟩ := Option.bind_eq_some_iff.mp e
    split at e
    · rename_i hc
      cases e
      obtain ⟨p, xs, rfl, hp, dp⟩ := ROk.lst kx eu
      obtain ⟨p2, ys, rfl, hp2, dp2⟩ := ROk.lst ky ew
      exact .inr (.inr (.inr ⟨p, p2, xs, ys, rfl, rfl, hp, hp2, by rw [dp.len, dp2.len]; exact szl hc, fun l hl => q _ _ (same_new hl) (new_fr hs hl (dp.app dp2))⟩))
    · cases e
def rMulAll (K : Fg) : R2 := fun x y H Q => rI CMul (fun i j => .int (i * j)) x y H Q ∨ rRepT K x y H Q ∨ rRep x y H Q
theorem mul_op {X : Cx} : OpR X (binaryOp .Mult) (rMulAll X.K) := op_mul.or (op_repT.or op_rep)
theorem mul_ok {K : Fg} : Op2 K mulR (rMulAll K) := fun O H0 H x y rx ry rz Q hd hs kx ky e q => by
  unfold mulR at e
  split at e
  · split at e
    · rename_i i j hc
      cases e
      refine .inl ⟨_, _, Dn.intv kx, Dn.intv ky, ?_, q _ H (Same.refl H) (.int _)⟩
      unfold small at hc
      simp only [Bool.or_eq_true, Bool.and_eq_true, decide_eq_true_eq] at hc
      exact hc
    · cases e
  · split at e
    · rename_i a k hc
      cases e
      obtain ⟨p, xs, rfl, hp, dp⟩ := ROk.tup kx rfl
      obtain ⟨h1, h2, h3, h4⟩ := hc
      refine .inr (.inl ⟨p, k, xs, rfl, Dn.intv ky, .of hp, fun z => h2 ?_, h3, h4, by rw [dp.len]; exact h1, fun l hl => q _ _ (same_new hl) (new_tup hl (dp.rep _))⟩)
      subst z
      cases dp
      rfl
    · cases e
  · rename_i k _ _
    obtain ⟨u, eu, e⟩ := Option.bind_eq_some_iff.mp e
    split at e
    · rename_i hc
      cases e
      obtain ⟨p, xs, rfl, hp, dp⟩ := ROk.lst kx eu
      obtain ⟨h1, h2, h3⟩ := hc
      refine .inr (.inr ⟨p, k, xs, rfl, Dn.intv ky, hp, by omega, by omega, ?_, fun l hl => q _ _ (same_new hl) (new_fr hs hl (dp.rep _))⟩)
      rw [dp.len]
      refine Nat.le_trans (Nat.mul_le_mul h3 (show k.toNat ≤ 1000 by omega)) (by decide)
    · cases e
  · cases e
section
variable {X : Cx} {a b : Expr} {f g : XE} {pos : Pos}
theorem x_add (ha : PE X a (tX X.K f)) (hb : PE X b (tX X.K g)) : PE X (.BinOp a .Add b pos) (tX X.K (xBin addR f g)) := x_bin add_ok add_op ha hb
theorem x_sub (ha : PE X a (tX X.K f)) (hb : PE X b (tX X.K g)) : PE X (.BinOp a .Sub b pos) (tX X.K (xBin subR f g)) := x_bin sub_ok op_sub ha hb
theorem x_mul (ha : PE X a (tX X.K f)) (hb : PE X b (tX X.K g)) : PE X (.BinOp a .Mult b pos) (tX X.K (xBin mulR f g)) := x_bin mul_ok mul_op ha hb
theorem x_div (ha : PE X a (tX X.K f)) (hb : PE X b (tX X.K g)) : PE X (.BinOp a .FloorDiv b pos) (tX X.K (xBin divR f g)) := x_bin div_ok op_fdiv ha hb
theorem x_mod (ha : PE X a (tX X.K f)) (hb : PE X b (tX X.K g)) : PE X (.BinOp a .Mod b pos) (tX X.K (xBin modR f g)) := x_bin mod_ok op_mod ha hb
theorem x_pow (ha : PE X a (tX X.K f)) (hb : PE X b (tX X.K g)) : PE X (.BinOp a .Pow b pos) (tX X.K (xBin powR f g)) := x_bin pow_ok op_pow ha hb
end

/-! ### comparisons -/
def eqR : Sem2 := fun x y => if SeqAt.shaped x.see && SeqAt.shaped y.see then some (.im (.bool (PyData.eqv x.see y.see))) else none
def neR : Sem2 := fun x y => if SeqAt.shaped x.see && SeqAt.shaped y.see then some (.im (.bool (!PyData.eqv x.see y.see))) else none
theorem eq_ok {K : Fg} : Op2 K eqR (rEqD K) := fun O H0 H x y rx ry rz Q hd hs kx ky e q => by
  unfold eqR at e
  split at e
  · rename_i hc
    cases e
    obtain ⟨h1, h2⟩ := Bool.and_eq_true_iff.mp hc
    exact ⟨_, _, kx.see, ky.see, h1, h2, q _ H (Same.refl H) (.bl _)⟩
  · cases e
theorem ne_ok {K : Fg} : Op2 K neR (rNeD K) := fun O H0 H x y rx ry rz Q hd hs kx ky e q => by
  unfold neR at e
  split at e
  · rename_i hc
    cases e
    obtain ⟨h1, h2⟩ := Bool.and_eq_true_iff.mp hc
    exact ⟨_, _, kx.see, ky.see, h1, h2, q _ H (Same.refl H) (.bl _)⟩
  · cases e
def cmpI (p : Int → Int → Bool) : Sem2
  | .im (.int a), .im (.int b) => some (.im (.bool (p a b)))
  | _, _ => none
theorem cmpI_ok {K : Fg} {p : Int → Int → Bool} : Op2 K (cmpI p) (rI0 fun i j => .bl (p i j)) := op2I0 fun rx ry rz e => by
  unfold cmpI at e
  split at e
  · cases e
    exact ⟨_, _, _, rfl, rfl, rfl, fun O H => .bl _⟩
  · cases e
abbrev ltR : Sem2 := cmpI fun i j => decide (i < j)
abbrev leR : Sem2 := cmpI fun i j => decide (i ≤ j)
abbrev gtR : Sem2 := cmpI fun i j => decide (j < i)
abbrev geR : Sem2 := cmpI fun i j => decide (j ≤ i)
def isNon : D → Bool
  | .none => true
  | _ => false
def isR : Sem2
  | x, .im .none => some (.im (.bool (isNon x.see)))
  | .im (.bool a), .im (.bool b) => some (.im (.bool (decide (a = b))))
  | _, _ => none
def isNotR : Sem2
  | x, .im .none => some (.im (.bool (!isNon x.see)))
  | .im (.bool a), .im (.bool b) => some (.im (.bool (!decide (a = b))))
  | _, _ => none
theorem isNon_ok {K : Fg} {O : AS} {H0 H : Hp} {x : V} {r : R} (k : ROk K O H0 H x r) : decide (x = .non) = isNon r.see := by
  have d := k.see
  cases h : r.see <;> rw [h] at d <;> cases d <;> rfl
def rIsAll : R2 := fun x y H Q => (y = .non ∧ Q (.bl (decide (x = .non))) H) ∨ rIsB x y H Q
def rIsNotAll : R2 := fun x y H Q => (y = .non ∧ Q (.bl (!decide (x = .non))) H) ∨ rNotB x y H Q
theorem is_op {X : Cx} : OpR X (compareOp .Is) rIsAll := op_isN.or op_isBl
theorem isNot_op {X : Cx} : OpR X (compareOp .IsNot) rIsNotAll := op_notN.or op_notBl
theorem is_ok {K : Fg} : Op2 K isR rIsAll := fun O H0 H x y rx ry rz Q hd hs kx ky e q => by
  unfold isR at e
  split at e
  · cases e
    refine .inl ⟨Dn.nonv ky, ?_⟩
    rw [isNon_ok kx]
    exact q _ H (Same.refl H) (.bl _)
  · cases e
    exact .inr ⟨_, _, Dn.blv kx, Dn.blv ky, q _ H (Same.refl H) (.bl _)⟩
  · cases e
theorem isNot_ok {K : Fg} : Op2 K isNotR rIsNotAll := fun O H0 H x y rx ry rz Q hd hs kx ky e q => by
  unfold isNotR at e
  split at e
  · cases e
    refine .inl ⟨Dn.nonv ky, ?_⟩
    rw [isNon_ok kx]
    exact q _ H (Same.refl H) (.bl _)
  · cases e
    exact .inr ⟨_, _, Dn.blv kx, Dn.blv ky, q _ H (Same.refl H) (.bl _)⟩
  · cases e
section
variable {X : Cx} {a b c : Expr} {f g h : XE} {pos : Pos} {k : Nat}
theorem x_eq (hr : Room k X.A) (ha : PE X a (tX X.K f)) (hb : PE X b (tX X.K g)) : PE X (.Compare a [.Eq] [b] pos) (tX X.K (xBin eqR f g)) := x_cmp eq_ok (op_eqD hr.units) (nomark _) ha hb
theorem x_ne (hr : Room k X.A) (ha : PE X a (tX X.K f)) (hb : PE X b (tX X.K g)) : PE X (.Compare a [.NotEq] [b] pos) (tX X.K (xBin neR f g)) := x_cmp ne_ok (op_neD hr.units) (nomark _) ha hb
theorem y_eq (hr : Room k X.A) (ha : PE X a (tX X.K f)) (hb : PE X b (tX X.K g)) : PT X (.Compare a [.Eq] [b] pos) (tXT X.K (xBin eqR f g)) := y_cmp eq_ok (op_eqD hr.units) (nomark _) ha hb
theorem y_ne (hr : Room k X.A) (ha : PE X a (tX X.K f)) (hb : PE X b (tX X.K g)) : PT X (.Compare a [.NotEq] [b] pos) (tXT X.K (xBin neR f g)) := y_cmp ne_ok (op_neD hr.units) (nomark _) ha hb
theorem x_lt (ha : PE X a (tX X.K f)) (hb : PE X b (tX X.K g)) : PE X (.Compare a [.Lt] [b] pos) (tX X.K (xBin ltR f g)) := x_cmp cmpI_ok op_lt (nomark _) ha hb
theorem y_lt (ha : PE X a (tX X.K f)) (hb : PE X b (tX X.K g)) : PT X (.Compare a [.Lt] [b] pos) (tXT X.K (xBin ltR f g)) := y_cmp cmpI_ok op_lt (nomark _) ha hb
theorem x_le (ha : PE X a (tX X.K f)) (hb : PE X b (tX X.K g)) : PE X (.Compare a [.LtE] [b] pos) (tX X.K (xBin leR f g)) := x_cmp cmpI_ok op_le (nomark _) ha hb
theorem y_le (ha : PE X a (tX X.K f)) (hb : PE X b (tX X.K g)) : PT X (.Compare a [.LtE] [b] pos) (tXT X.K (xBin leR f g)) := y_cmp cmpI_ok op_le (nomark _) ha hb
theorem x_gt (ha : PE X a (tX X.K f)) (hb : PE X b (tX X.K g)) : PE X (.Compare a [.Gt] [b] pos) (tX X.K (xBin gtR f g)) := x_cmp cmpI_ok op_gt (nomark _) ha hb
theorem y_gt (ha : PE X a (tX X.K f)) (hb : PE X b (tX X.K g)) : PT X (.Compare a [.Gt] [b] pos) (tXT X.K (xBin gtR f g)) := y_cmp cmpI_ok op_gt (nomark _) ha hb
theorem x_ge (ha : PE X a (tX X.K f)) (hb : PE X b (tX X.K g)) : PE X (.Compare a [.GtE] [b] pos) (tX X.K (xBin geR f g)) := x_cmp cmpI_ok op_ge (nomark _) ha hb
theorem y_ge (ha : PE X a (tX X.K f)) (hb : PE X b (tX X.K g)) : PT X (.Compare a [.GtE] [b] pos) (tXT X.K (xBin geR f g)) := y_cmp cmpI_ok op_ge (nomark _) ha hb
theorem x_is (ha : PE X a (tX X.K f)) (hb : PE X b (tX X.K g)) : PE X (.Compare a [.Is] [b] pos) (tX X.K (xBin isR f g)) := x_cmp is_ok is_op (nomark _) ha hb
theorem y_is (ha : PE X a (tX X.K f)) (hb : PE X b (tX X.K g)) : PT X (.Compare a [.Is] [b] pos) (tXT X.K (xBin isR f g)) := y_cmp is_ok is_op (nomark _) ha hb
theorem x_isNot (ha : PE X a (tX X.K f)) (hb : PE X b (tX X.K g)) : PE X (.Compare a [.IsNot] [b] pos) (tX X.K (xBin isNotR f g)) := x_cmp isNot_ok isNot_op (nomark _) ha hb
theorem y_isNot (ha : PE X a (tX X.K f)) (hb : PE X b (tX X.K g)) : PT X (.Compare a [.IsNot] [b] pos) (tXT X.K (xBin isNotR f g)) := y_cmp isNot_ok isNot_op (nomark _) ha hb
end

/-! ### chains of two comparisons -/
def xChain (s s' : Sem2) (f g h : XE) : XE := fun env => (f env).bind fun x => (g env).bind fun y => (s x y).bind fun z => match z with
  | .im (.bool true) => (h env).bind fun w => s' y w
  | .im (.bool false) => some (.im (.bool false))
  | _ => none
theorem chain_run {K : Fg} {s s' : Sem2} {r r' : R2} {f g h : XE} (o : Op2 K s r) (o' : Op2 K s' r') {st : L2.St} {H : Hp} {Q : VK} (q : tX K (xChain s s' f g h) st H Q) : tChain r r' (tX K f) (tX K g) (tX K h) st H Q := by
  obtain ⟨H0, B, pn, A, env, rz, rp, er, q⟩ := q
  obtain ⟨rx, ex, er⟩ := Option.bind_eq_some_iff.mp er
  obtain ⟨ry, ey, er⟩ := Option.bind_eq_some_iff.mp er
  obtain ⟨rv, ev, er⟩ := Option.bind_eq_some_iff.mp er
  refine ⟨H0, B, pn, A, env, rx, rp, ex, fun x H1 s1 k1 => ⟨H0, B, pn, A, env, ry, rp.mono s1, ey, fun y H2 s2 k2 => ?_⟩⟩
  refine o _ H H2 x y rx ry rv _ rp.odom (s1.trans s2) (k1.mono s2) (k2.back s1) ev fun v H3 s3 k3 => ?_
  split at er
  · refine ⟨true, Dn.blv k3, ?_⟩
    obtain ⟨rw', ew, er⟩ := Option.bind_eq_some_iff.mp er
    rw [if_pos rfl]
    refine ⟨H0, B, pn, A, env, rw', ((rp.mono s1).mono s2).mono s3, ew, fun w H4 s4 k4 => ?_⟩
    exact o' _ H H4 y w ry rw' rz Q rp.odom (((s1.trans s2).trans s3).trans s4) (((k2.back s1).mono s3).mono s4) (k4.back ((s1.trans s2).trans s3)) er fun v H' s5 k5 => q v H' ((((s1.trans s2).trans s3).trans s4).trans s5) k5
  · refine ⟨false, Dn.blv k3, ?_⟩
    rw [if_neg Bool.false_ne_true]
    cases er
    exact q _ H3 ((s1.trans s2).trans s3) (.bl false)
  · cases er
end Ct

end
section
set_option maxRecDepth 100000
namespace Ct
open PySem PySem.Spec PyProof.Rows L2

section
variable {X : Cx} {a b c e : Expr} {f g h : XE} {pos : Pos}
theorem x_chain {op op' : CmpOp} {s s' : Sem2} {r r' : R2} (o : Op2 X.K s r) (o' : Op2 X.K s' r') (ho : OpR X (compareOp op) r) (ho' : OpR X (compareOp op') r') (ha : PE X a (tX X.K f)) (hb : PE X b (tX X.K g)) (hc : PE X c (tX X.K h))
    (hm : lastMarks [op, op'] [b, c] = false := by with_unfolding_all rfl) : PE X (.Compare a [op, op'] [b, c] pos) (tX X.K (xChain s s' f g h)) :=
  pe_weak (pe_chain ho ho' ha hb hc hm) fun _ _ _ q => chain_run o o' q
theorem y_chain {op op' : CmpOp} {s s' : Sem2} {r r' : R2} (o : Op2 X.K s r) (o' : Op2 X.K s' r') (ho : OpR X (compareOp op) r) (ho' : OpR X (compareOp op') r') (ha : PE X a (tX X.K f)) (hb : PE X b (tX X.K g)) (hc : PE X c (tX X.K h))
    (hm : lastMarks [op, op'] [b, c] = false := by with_unfolding_all rfl) : PT X (.Compare a [op, op'] [b, c] pos) (tXT X.K (xChain s s' f g h)) :=
  pt_weak (pt_chain ho ho' ha hb hc hm) fun _ _ _ q => chain_run o o' (tx_bool q)
theorem x_lele (ha : PE X a (tX X.K f)) (hb : PE X b (tX X.K g)) (hc : PE X c (tX X.K h)) (hm : lastMarks [.LtE, .LtE] [b, c] = false := by with_unfolding_all rfl) : PE X (.Compare a [.LtE, .LtE] [b, c] pos) (tX X.K (xChain leR leR f g h)) := x_chain cmpI_ok cmpI_ok op_le op_le ha hb hc hm
theorem y_lele (ha : PE X a (tX X.K f)) (hb : PE X b (tX X.K g)) (hc : PE X c (tX X.K h)) (hm : lastMarks [.LtE, .LtE] [b, c] = false := by with_unfolding_all rfl) : PT X (.Compare a [.LtE, .LtE] [b, c] pos) (tXT X.K (xChain leR leR f g h)) := y_chain cmpI_ok cmpI_ok op_le op_le ha hb hc hm
theorem x_lelt (ha : PE X a (tX X.K f)) (hb : PE X b (tX X.K g)) (hc : PE X c (tX X.K h)) (hm : lastMarks [.LtE, .Lt] [b, c] = false := by with_unfolding_all rfl) : PE X (.Compare a [.LtE, .Lt] [b, c] pos) (tX X.K (xChain leR ltR f g h)) := x_chain cmpI_ok cmpI_ok op_le op_lt ha hb hc hm
theorem y_lelt (ha : PE X a (tX X.K f)) (hb : PE X b (tX X.K g)) (hc : PE X c (tX X.K h)) (hm : lastMarks [.LtE, .Lt] [b, c] = false := by with_unfolding_all rfl) : PT X (.Compare a [.LtE, .Lt] [b, c] pos) (tXT X.K (xChain leR ltR f g h)) := y_chain cmpI_ok cmpI_ok op_le op_lt ha hb hc hm
end

/-! ### and, or, not -/
def xAnd (f g : XE) : XE := fun env => (f env).bind fun x => match x with
  | .im (.bool true) => g env
  | .im (.bool false) => some (.im (.bool false))
  | _ => none
def xOr (f g : XE) : XE := fun env => (f env).bind fun x => match x with
  | .im (.bool false) => g env
  | .im (.bool true) => some (.im (.bool true))
  | _ => none
def xNot (f : XE) : XE := fun env => (f env).bind fun x => match x with
  | .im (.bool b) => some (.im (.bool (!b)))
  | _ => none
section
variable {X : Cx} {a b c e : Expr} {f g h : XE} {pos : Pos} {rest : List Expr}
theorem x_one {op} (ha : PE X a (tX X.K f)) : PE X (.BoolOp op [a] pos) (tX X.K f) := pe_one ha
theorem x_and (ha : PE X a (tX X.K f)) (hb : PE X (.BoolOp .And (b :: rest) pos) (tX X.K g)) : PE X (.BoolOp .And (a :: b :: rest) pos) (tX X.K (xAnd f g)) :=
  pe_weak (pe_and ha hb) fun st H Q ⟨H0, B, pn, A, env, r, rp, er, q⟩ => by
    obtain ⟨x, ex, er⟩ := Option.bind_eq_some_iff.mp er
    refine ⟨H0, B, pn, A, env, x, rp, ex, fun v H1 s1 k1 => ?_⟩
    split at er
    · exact ⟨true, Dn.blv k1, iteT ⟨H0, B, pn, A, env, r, rp.mono s1, er, fun w H2 s2 k2 => q w H2 (s1.trans s2) (k2.back s1)⟩⟩
    · cases er
      exact ⟨false, Dn.blv k1, iteF (q _ H1 s1 (.bl false))⟩
    · cases er
theorem x_or (ha : PE X a (tX X.K f)) (hb : PE X (.BoolOp .Or (b :: rest) pos) (tX X.K g)) : PE X (.BoolOp .Or (a :: b :: rest) pos) (tX X.K (xOr f g)) :=
  pe_weak (pe_or ha hb) fun st H Q ⟨H0, B, pn, A, env, r, rp, er, q⟩ => by
    obtain ⟨x, ex, er⟩ := Option.bind_eq_some_iff.mp er
    refine ⟨H0, B, pn, A, env, x, rp, ex, fun v H1 s1 k1 => ?_⟩
    split at er
    · exact ⟨false, Dn.blv k1, iteF ⟨H0, B, pn, A, env, r, rp.mono s1, er, fun w H2 s2 k2 => q w H2 (s1.trans s2) (k2.back s1)⟩⟩
    · cases er
      exact ⟨true, Dn.blv k1, iteT (q _ H1 s1 (.bl true))⟩
    · cases er
theorem x_not (ha : PE X a (tX X.K f)) : PE X (.UnaryOp .Not a pos) (tX X.K (xNot f)) :=
  pe_weak (pe_not ha) fun st H Q ⟨H0, B, pn, A, env, r, rp, er, q⟩ => by
    obtain ⟨x, ex, er⟩ := Option.bind_eq_some_iff.mp er
    refine ⟨H0, B, pn, A, env, x, rp, ex, fun v H1 s1 k1 => ?_⟩
    split at er
    · cases er
      exact ⟨_, Dn.blv k1, q _ H1 s1 (.bl _)⟩
    · cases er
theorem w_and1 (ha : PT X a (tXT X.K f)) : PW X (.BoolOp .And [a] pos) (tXT X.K f) := pw_and1 ha
theorem w_or1 (ha : PT X a (tXT X.K f)) : PW X (.BoolOp .Or [a] pos) (tXT X.K f) := pw_or1 ha
theorem w_and (ha : PT X a (tXT X.K f)) (hb : PW X (.BoolOp .And (b :: rest) pos) (tXT X.K g)) : PW X (.BoolOp .And (a :: b :: rest) pos) (tXT X.K (xAnd f g)) :=
  pw_weak (pw_and ha hb) fun st H Q ⟨H0, B, pn, A, env, r, rp, er, q⟩ => by
    obtain ⟨x, ex, er⟩ := Option.bind_eq_some_iff.mp er
    split at er
    · exact ⟨H0, B, pn, A, env, true, rp, ex, fun H1 s1 => iteT ⟨H0, B, pn, A, env, r, rp.mono s1, er, fun H2 s2 => q H2 (s1.trans s2)⟩⟩
    · cases er
      exact ⟨H0, B, pn, A, env, false, rp, ex, fun H1 s1 => iteF (q H1 s1)⟩
    · cases er
theorem w_or (ha : PT X a (tXT X.K f)) (hb : PW X (.BoolOp .Or (b :: rest) pos) (tXT X.K g)) : PW X (.BoolOp .Or (a :: b :: rest) pos) (tXT X.K (xOr f g)) :=
  pw_weak (pw_or ha hb) fun st H Q ⟨H0, B, pn, A, env, r, rp, er, q⟩ => by
    obtain ⟨x, ex, er⟩ := Option.bind_eq_some_iff.mp er
    split at er
    · exact ⟨H0, B, pn, A, env, false, rp, ex, fun H1 s1 => iteF ⟨H0, B, pn, A, env, r, rp.mono s1, er, fun H2 s2 => q H2 (s1.trans s2)⟩⟩
    · cases er
      exact ⟨H0, B, pn, A, env, true, rp, ex, fun H1 s1 => iteT (q H1 s1)⟩
    · cases er
theorem y_not (ha : PT X a (tXT X.K f)) : PT X (.UnaryOp .Not a pos) (tXT X.K (xNot f)) :=
  pt_weak (pt_not ha) fun st H Q ⟨H0, B, pn, A, env, r, rp, er, q⟩ => by
    obtain ⟨x, ex, er⟩ := Option.bind_eq_some_iff.mp er
    split at er
    · cases er
      exact ⟨H0, B, pn, A, env, _, rp, ex, fun H1 s1 => q H1 s1⟩
    · cases er
end

/-! ### one-place operations -/
abbrev Sem1 := R → Option R
def xUn (s : Sem1) (f : XE) : XE := fun env => (f env).bind s
def negR : Sem1
  | .im (.int i) => some (.im (.int (-i)))
  | _ => none
section
variable {X : Cx} {a b c e : Expr} {f g h : XE} {pos : Pos}
theorem x_neg (ha : PE X a (tX X.K f)) : PE X (.UnaryOp .USub a pos) (tX X.K (xUn negR f)) :=
  pe_weak (pe_un un_neg ha) fun st H Q ⟨H0, B, pn, A, env, r, rp, er, q⟩ => by
    obtain ⟨x, ex, er⟩ := Option.bind_eq_some_iff.mp er
    refine ⟨H0, B, pn, A, env, x, rp, ex, fun v H1 s1 k1 => ?_⟩
    unfold negR at er
    split at er
    · cases er
      exact ⟨_, Dn.intv k1, q _ H1 s1 (.int _)⟩
    · cases er
end

/-! ### arguments, displays -/
def xaNil : XA := fun _ => some []
def xaCons (f : XE) (g : XA) : XA := fun env => (f env).bind fun x => (g env).bind fun xs => some (x :: xs)
section
variable {K : Fg} {O : AS} {H0 H0' H H' : Hp} {vs : List V} {rs : List R}
theorem RAll.mono (e : Same H H') : ∀ {vs : List V} {rs : List R}, RAll K O H0 H vs rs → RAll K O H0 H' vs rs
  | _, _, .nil => .nil
  | _, _, .cons h t => .cons (h.mono e) (RAll.mono e t)
theorem RAll.back (e : Same H0' H0) : ∀ {vs : List V} {rs : List R}, RAll K O H0 H vs rs → RAll K O H0' H vs rs
  | _, _, .nil => .nil
  | _, _, .cons h t => .cons (h.back e) (RAll.back e t)
theorem RAll.len : ∀ {vs : List V} {rs : List R}, RAll K O H0 H vs rs → vs.length = rs.length
  | _, _, .nil => rfl
  | _, _, .cons _ t => by rw [List.length_cons, List.length_cons, RAll.len t]
def dats : List R → Option (List D)
  | [] => some []
  | r :: rs => r.dat?.bind fun d => (dats rs).bind fun ds => some (d :: ds)
theorem RAll.dats (hd : ∀ a, O a → H0 a ≠ none) : ∀ {vs : List V} {rs : List R} {ds : List D}, RAll K O H0 H vs rs → dats rs = some ds → DnL K O H vs ds
  | _, _, _, .nil, e => by
    cases e
    exact .nil
  | _, _, _, .cons h t, e => by
    obtain ⟨d, e1, e⟩ := Option.bind_eq_some_iff.mp e
    obtain ⟨ds, e2, e⟩ := Option.bind_eq_some_iff.mp e
    cases e
    exact .cons (h.dat hd e1) (RAll.dats hd t e2)
end
section
variable {X : Cx} {a b c e : Expr} {f : XE} {g : XA} {pos : Pos} {es : List Expr}
theorem a_nil : PA X [] (tXA X.K xaNil) := pa_weak pa_nil fun st H Q ⟨H0, B, pn, A, env, r, rp, er, q⟩ => by
  cases er
  exact q [] H (Same.refl H) .nil
theorem a_cons (ha : PE X e (tX X.K f)) (hr : PA X es (tXA X.K g)) (hs : starEach (e :: es) X.env = (false, eval e X.env) :: starEach es X.env := by rfl) : PA X (e :: es) (tXA X.K (xaCons f g)) :=
  pa_weak (pa_cons ha hr hs) fun st H Q ⟨H0, B, pn, A, env, r, rp, er, q⟩ => by
    obtain ⟨x, ex, er⟩ := Option.bind_eq_some_iff.mp er
    obtain ⟨xs, exs, er⟩ := Option.bind_eq_some_iff.mp er
    cases er
    exact ⟨H0, B, pn, A, env, x, rp, ex, fun v H1 s1 k1 => ⟨H0, B, pn, A, env, xs, rp.mono s1, exs, fun vs H2 s2 k2 => q (v :: vs) H2 (s1.trans s2) (.cons (k1.mono s2) (k2.back s1))⟩⟩
def xTup (g : XA) : XE := fun env => (g env).bind fun rs => (dats rs).bind fun ds => if ds.length ≤ 100000 then some (.im (.tuple ds)) else none
def xLst (g : XA) : XE := fun env => (g env).bind fun rs => (dats rs).bind fun ds => if ds.length ≤ 100000 then some (.fr ds) else none
theorem x_tup {x1} (h : PA X es (tXA X.K g)) : PE X (.Tuple es x1 pos) (tX X.K (xTup g)) :=
  pe_weak (pe_tup h) fun st H Q ⟨H0, B, pn, A, env, r, rp, er, q⟩ => by
    obtain ⟨rs, ers, er⟩ := Option.bind_eq_some_iff.mp er
    obtain ⟨ds, eds, er⟩ := Option.bind_eq_some_iff.mp er
    split at er
    · rename_i hl
      cases er
      refine ⟨H0, B, pn, A, env, rs, rp, ers, fun vs H1 s1 k1 => ?_⟩
      have k := k1.dats rp.odom eds
      exact ⟨by rw [k.len]; exact szl hl, fun p hp => q _ _ (s1.trans (same_new hp)) (new_tup hp k)⟩
    · cases er
theorem x_lst (h : PA X es (tXA X.K g)) : PE X (.List es pos) (tX X.K (xLst g)) :=
  pe_weak (pe_lst h) fun st H Q ⟨H0, B, pn, A, env, r, rp, er, q⟩ => by
    obtain ⟨rs, ers, er⟩ := Option.bind_eq_some_iff.mp er
    obtain ⟨ds, eds, er⟩ := Option.bind_eq_some_iff.mp er
    split at er
    · rename_i hl
      cases er
      refine ⟨H0, B, pn, A, env, rs, rp, ers, fun vs H1 s1 k1 => ?_⟩
      have k := k1.dats rp.odom eds
      exact ⟨by rw [k.len]; exact szl hl, fun p hp => q _ _ (s1.trans (same_new hp)) (new_fr s1 hp k)⟩
    · cases er
end

/-! ### subscripts -/
def ixR : Sem2
  | .im (.str z), .im (.int i) => if z.length ≤ 100000 then (atI z.cps.toList i).map fun c => .im (.str ⟨#[c]⟩) else none
  | .im (.tuple ds), .im (.int i) => (atI ds i).map .im
  | x, .im (.int i) => x.sql?.bind fun ds => (atI ds i).map .im
  | _, _ => none
theorem DnL.atI {K : Fg} {O : AS} {H : Hp} {vs : List V} {ds : List D} {i : Int} {d : D} (k : DnL K O H vs ds) (e : atI ds i = some d) : ∃ v, L2.atI vs i = some v ∧ Dn K O H v d := by
  unfold L2.atI at e ⊢
  obtain ⟨j, e1, e2⟩ := Option.bind_eq_some_iff.mp e
  obtain ⟨v, h1, h2⟩ := k.getD e2
  exact ⟨v, by rw [k.len, e1]; exact h1, h2⟩
theorem ix_ok {K : Fg} : Op2 K ixR (rIx K) := fun O H0 H x y rx ry rz Q hd hs kx ky e q => by
  unfold ixR at e
  split at e
  · split at e
    · rename_i hl
      obtain ⟨c, e1, e2⟩ := Option.map_eq_some_iff.mp e
      subst e2
      exact .inr (.inr ⟨_, _, c, Dn.strv kx, Dn.intv ky, szl hl, e1, q _ H (Same.refl H) (.str _)⟩)
    · cases e
  · obtain ⟨d, e1, e2⟩ := Option.map_eq_some_iff.mp e
    subst e2
    obtain ⟨p, vs, rfl, hp, k⟩ := ROk.tup kx rfl
    obtain ⟨v, h1, h2⟩ := k.atI e1
    exact .inr (.inl ⟨p, vs, _, v, rfl, Dn.intv ky, .of hp, h1, q v H (Same.refl H) h2⟩)
  · obtain ⟨ds, e0, e⟩ := Option.bind_eq_some_iff.mp e
    obtain ⟨d, e1, e2⟩ := Option.map_eq_some_iff.mp e
    subst e2
    obtain ⟨p, vs, rfl, hp, k⟩ := ROk.sql kx e0
    obtain ⟨v, h1, h2⟩ := k.atI e1
    exact .inl ⟨p, vs, _, v, rfl, Dn.intv ky, hp, h1, q v H (Same.refl H) h2⟩
  · cases e
section
variable {X : Cx} {a b c e : Expr} {f g h : XE} {pos : Pos}
theorem x_ix (ha : PE X a (tX X.K f)) (hb : PE X b (tX X.K g)) (hs : PlainIx b := by exact fun _ _ => rfl) : PE X (.Subscript a b pos) (tX X.K (xBin ixR f g)) := pe_weak (pe_ix ix_seq ha hb hs) fun _ _ _ q => bin_run ix_ok q
end
/-- a part of a slice -/
abbrev XO := Env → Option (Option Int)
def tXO (K : Fg) (f : XO) : TO := fun st H Q => ∃ H0 B pn A env r, Rep K H0 B pn A env st H ∧ f env = some r ∧ ∀ H', Same H H' → Q r H'
def xoNone : XO := fun _ => some none
def xoSome (f : XE) : XO := fun env => (f env).bind fun x => match x with
  | .im (.int i) => some (some i)
  | _ => none
def cutD (xs : List D) (lo hi : Option Int) : List D := (xs.drop (HT.sIx xs.length 0 lo)).take (HT.sIx xs.length xs.length hi - HT.sIx xs.length 0 lo)
theorem DnL.cut {K : Fg} {O : AS} {H : Hp} {vs : List V} {ds : List D} (k : DnL K O H vs ds) (lo hi : Option Int) : DnL K O H (cutV vs lo hi) (cutD ds lo hi) := by
  unfold cutV cutD
  rw [k.len]
  exact (k.drop _).take _
def sliceR (x : R) (lo hi : Option Int) : Option R := match x with
  | .im (.str z) => if z.length ≤ 100000 then some (.im (.str (cutS z lo hi))) else none
  | .im (.tuple ds) => some (.im (.tuple (cutD ds lo hi)))
  | x => x.sql?.map fun ds => .fr (cutD ds lo hi)
def xSlice (f : XE) (l u : XO) : XE := fun env => (f env).bind fun x => (l env).bind fun lo => (u env).bind fun hi => sliceR x lo hi
theorem take_all {α : Type} (l : List α) : (l.drop 0).take (l.length - 0) = l := by
  rw [Nat.sub_zero, List.drop_zero, List.take_length]
section
variable {X : Cx} {a b c e : Expr} {lo hi : Option Expr} {f g h : XE} {l u : XO} {pos p2 : Pos}
theorem o_none : PO X none (tXO X.K xoNone) := ⟨fun pins s st H Q I ⟨H0, B, pn, A, env, r, rp, er, q⟩ => by
  cases er
  exact po_none.run pins s st H Q I (q H (Same.refl H))⟩
theorem o_some (ha : PE X e (tX X.K f)) : PO X (some e) (tXO X.K (xoSome f)) := ⟨fun pins s st H Q I ⟨H0, B, pn, A, env, r, rp, er, q⟩ => by
  obtain ⟨x, ex, er⟩ := Option.bind_eq_some_iff.mp er
  refine (po_some ha).run pins s st H Q I ⟨H0, B, pn, A, env, x, rp, ex, fun v H1 s1 k1 => ?_⟩
  split at er
  · cases er
    exact ⟨_, Dn.intv k1, q H1 s1⟩
  · cases er⟩
def rSlAll (K : Fg) : V → Option Int → Option Int → Hp → VK → Prop := fun x lo hi H Q => rSlS x lo hi H Q ∨ rSlA K x lo hi H Q ∨ rSlL K x lo hi H Q
theorem sl_all : SlR X (rSlAll X.K) := sl_str.or (sl_tupA.or sl_list)
theorem x_slice (he : PE X e (tX X.K f)) (hl : PO X lo (tXO X.K l)) (hu : PO X hi (tXO X.K u)) : PE X (.Subscript e (.Slice lo hi none p2) pos) (tX X.K (xSlice f l u)) :=
  pe_weak (pe_slice sl_all he hl hu) fun st H Q ⟨H0, B, pn, A, env, r, rp, er, q⟩ => by
    obtain ⟨x, ex, er⟩ := Option.bind_eq_some_iff.mp er
    obtain ⟨i, ei, er⟩ := Option.bind_eq_some_iff.mp er
    obtain ⟨j, ej, er⟩ := Option.bind_eq_some_iff.mp er
    refine ⟨H0, B, pn, A, env, x, rp, ex, fun v H1 s1 k1 => ⟨H0, B, pn, A, env, i, rp.mono s1, ei, fun H2 s2 => ⟨H0, B, pn, A, env, j, (rp.mono s1).mono s2, ej, fun H3 s3 => ?_⟩⟩⟩
    have s4 : Same H H3 := (s1.trans s2).trans s3
    have k4 : ROk X.K (Ob B A) H H3 v x := (k1.mono s2).mono s3
    unfold sliceR at er
    split at er
    · split at er
      · rename_i hl
        cases er
        exact .inl ⟨_, Dn.strv k4, szl hl, q _ H3 s4 (.str _)⟩
      · cases er
    · cases er
      obtain ⟨p, vs, rfl, hp, k⟩ := ROk.tup k4 rfl
      refine .inr (.inl ⟨p, vs, rfl, .of hp, fun z => ?_, fun z p' hp' => q _ _ (s4.trans (same_new hp')) (new_tup hp' (k.cut i j))⟩)
      refine q _ H3 s4 ?_
      have k' := k.cut i j
      unfold cutV at k'
      rw [z.1, z.2, take_all] at k'
      exact Dn.tup hp k'
    · obtain ⟨ds, e0, er⟩ := Option.map_eq_some_iff.mp er
      cases er
      obtain ⟨p, vs, rfl, hp, k⟩ := ROk.sql k4 e0
      exact .inr (.inr ⟨p, vs, rfl, hp, fun p' hp' => q _ _ (s4.trans (same_new hp')) (new_fr s4 hp' (k.cut i j))⟩)
def revR : Sem1 := fun x => x.sql?.map fun ds => .fr ds.reverse
/-- xs[::-1] of a list -/
theorem x_rev {k : Nat} {p1 p2 p3 : Pos} (he : PE X e (tX X.K f)) : PE X (.Subscript e (.Slice none none (some (.UnaryOp .USub (.Constant (.int 1) k p1) p2)) p3) pos) (tX X.K (xUn revR f)) :=
  pe_weak (pe_revL he) fun st H Q ⟨H0, B, pn, A, env, r, rp, er, q⟩ => by
    obtain ⟨x, ex, er⟩ := Option.bind_eq_some_iff.mp er
    obtain ⟨ds, e0, er⟩ := Option.map_eq_some_iff.mp er
    cases er
    refine ⟨H0, B, pn, A, env, x, rp, ex, fun v H1 s1 k1 => ?_⟩
    obtain ⟨p, vs, rfl, hp, k⟩ := ROk.sql k1 e0
    exact ⟨p, vs, rfl, hp, fun p' hp' => q _ _ (s1.trans (same_new hp')) (new_fr s1 hp' k.rev)⟩
end

/-! ### calls of built-ins by values -/
abbrev SemN := List R → Option R
def xCB (s : SemN) (g : XA) : XE := fun env => (g env).bind s
def OpN (K : Fg) (s : SemN) (r : List V → Hp → VK → Prop) : Prop := ∀ (O : AS) (H0 H : Hp) (vs : List V) (rs : List R) (rz : R) (Q : VK), (∀ a, O a → H0 a ≠ none) → Same H0 H → RAll K O H0 H vs rs → s rs = some rz →
  (∀ v H', Same H H' → ROk K O H0 H' v rz → Q v H') → r vs H Q
theorem cb_run {K : Fg} {s : SemN} {r : List V → Hp → VK → Prop} {g : XA} (o : OpN K s r) {st : L2.St} {H : Hp} {Q : VK} (h : tX K (xCB s g) st H Q) : tCB r (tXA K g) st H Q := by
  obtain ⟨H0, B, pn, A, env, rz, rp, er, q⟩ := h
  obtain ⟨rs, ers, er⟩ := Option.bind_eq_some_iff.mp er
  exact ⟨H0, B, pn, A, env, rs, rp, ers, fun vs H1 s1 k1 => o _ H H1 vs rs rz Q rp.odom s1 k1 er fun v H' s2 k2 => q v H' (s1.trans s2) k2⟩
section
variable {X : Cx} {x : Str} {p pos : Pos} {e : Expr} {es : List Expr} {g : XA} {id T : String} {s : SemN} {r : List V → Hp → VK → Prop}
theorem x_callB (o : OpN X.K s r) (hc : CallR X (.builtin id) r) (hg : Gl X x) (hm : X.mg x = none) (hv : bootBuiltins x = some (.builtin id)) (ha : PA X (e :: es) (tXA X.K g)) (hn : x ≠ "__name__" := by decide) (hdb : (x == ("__debug__" : Str)) = false := by decide)
    (he : starEach (e :: es) X.env = (false, eval e X.env) :: starEach es X.env := by rfl) (hpl : (backTo pos (starEach es X.env)).any (·.1) = false := by rfl) : PE X (.Call (.Name x p) (e :: es) [] pos) (tX X.K (xCB s g)) :=
  pe_weak (pe_callB hc hg hm hv ha hn hdb he hpl) fun _ _ _ q => cb_run o q
theorem x_callTy (o : OpN X.K s r) (hc : CallR X (.type T) r) (hg : Gl X x) (hm : X.mg x = none) (hv : bootBuiltins x = some (.type T)) (ha : PA X (e :: es) (tXA X.K g)) (hn : x ≠ "__name__" := by decide) (hdb : (x == ("__debug__" : Str)) = false := by decide)
    (he : starEach (e :: es) X.env = (false, eval e X.env) :: starEach es X.env := by rfl) (hpl : (backTo pos (starEach es X.env)).any (·.1) = false := by rfl) : PE X (.Call (.Name x p) (e :: es) [] pos) (tX X.K (xCB s g)) :=
  pe_weak (pe_callTy hc hg hm hv ha hn hdb he hpl) fun _ _ _ q => cb_run o q
end
theorem RAll.one {K : Fg} {O : AS} {H0 H : Hp} {vs : List V} {r : R} (h : RAll K O H0 H vs [r]) : ∃ v, vs = [v] ∧ ROk K O H0 H v r := by
  cases h with
  | cons h t =>
    cases t
    exact ⟨_, rfl, h⟩
theorem RAll.two {K : Fg} {O : AS} {H0 H : Hp} {vs : List V} {r r2 : R} (h : RAll K O H0 H vs [r, r2]) : ∃ v w, vs = [v, w] ∧ ROk K O H0 H v r ∧ ROk K O H0 H w r2 := by
  cases h with
  | cons h t =>
    obtain ⟨w, rfl, k⟩ := t.one
    exact ⟨_, w, rfl, h, k⟩
def lenR : SemN
  | [.im (.str z)] => if z.length ≤ 100000 then some (.im (.int z.length)) else none
  | [.im (.tuple ds)] => some (.im (.int ds.length))
  | [x] => x.sql?.map fun ds => .im (.int ds.length)
  | _ => none
def rLenAll (K : Fg) : List V → Hp → VK → Prop := fun xs H Q => (∃ p ys, xs = [.ref p] ∧ (SqL K H p ys ∨ SqT K H p ys) ∧ Q (.int ys.length) H) ∨ ∃ z, xs = [.str z] ∧ z.length ≤ sizeLine ∧ Q (.int z.length) H
theorem len_cr {X : Cx} : CallR X (.builtin "len") (rLenAll X.K) := call_len_seq.or call_len_str
theorem len_ok {K : Fg} : OpN K lenR (rLenAll K) := fun O H0 H vs rs rz Q hd hs k e q => by
  unfold lenR at e
  split at e
  · split at e
    · rename_i hl
      cases e
      obtain ⟨v, rfl, k1⟩ := k.one
      exact .inr ⟨_, by rw [Dn.strv k1], szl hl, q _ H (Same.refl H) (.int _)⟩
    · cases e
  · cases e
    obtain ⟨v, rfl, k1⟩ := k.one
    obtain ⟨p, vs, rfl, hp, k⟩ := ROk.tup k1 rfl
    refine .inl ⟨p, vs, rfl, .inr (.of hp), ?_⟩
    rw [k.len]
    exact q _ H (Same.refl H) (.int _)
  · obtain ⟨ds, e0, e⟩ := Option.map_eq_some_iff.mp e
    cases e
    obtain ⟨v, rfl, k1⟩ := k.one
    obtain ⟨p, vs, rfl, hp, k⟩ := ROk.sql k1 e0
    refine .inl ⟨p, vs, rfl, .inl hp, ?_⟩
    rw [k.len]
    exact q _ H (Same.refl H) (.int _)
  · cases e
def dInts : List D → Option (List Int)
  | [] => some []
  | .int i :: ds => (dInts ds).map (i :: ·)
  | _ => none
def dBools : List D → Option (List Bool)
  | [] => some []
  | .bool i :: ds => (dBools ds).map (i :: ·)
  | _ => none
theorem DnL.dInts {K : Fg} {O : AS} {H : Hp} : ∀ {vs : List V} {ds : List D} {ns : List Int}, DnL K O H vs ds → Ct.dInts ds = some ns → vs = ns.map V.int
  | _, _, _, .nil, e => by
    cases e
    rfl
  | _, _, ns, .cons (d := d) h t, e => by
    cases d <;> try (cases e; done)
    obtain ⟨ms, e1, e2⟩ := Option.map_eq_some_iff.mp e
    subst e2
    rw [h.intv, t.dInts e1]
    rfl
theorem DnL.dBools {K : Fg} {O : AS} {H : Hp} : ∀ {vs : List V} {ds : List D} {ns : List Bool}, DnL K O H vs ds → Ct.dBools ds = some ns → vs = ns.map V.bl
  | _, _, _, .nil, e => by
    cases e
    rfl
  | _, _, ns, .cons (d := d) h t, e => by
    cases d <;> try (cases e; done)
    obtain ⟨ms, e1, e2⟩ := Option.map_eq_some_iff.mp e
    subst e2
    rw [h.blv, t.dBools e1]
    rfl
def sumR : SemN
  | [x] => x.lst?.bind fun ds => (dInts ds).map fun ns => .im (.int ns.sum)
  | _ => none
def allR : SemN
  | [x] => x.lst?.bind fun ds => (dBools ds).map fun ns => .im (.bool (ns.all id))
  | _ => none
def anyR : SemN
  | [x] => x.lst?.bind fun ds => (dBools ds).map fun ns => .im (.bool (ns.any id))
  | _ => none
theorem sum_ok {K : Fg} : OpN K sumR (rSum K) := fun O H0 H vs rs rz Q hd hs k e q => by
  unfold sumR at e
  split at e
  · obtain ⟨ds, e0, e⟩ := Option.bind_eq_some_iff.mp e
    obtain ⟨ns, e1, e⟩ := Option.map_eq_some_iff.mp e
    cases e
    obtain ⟨v, rfl, k1⟩ := k.one
    obtain ⟨p, vs, rfl, hp, k⟩ := ROk.lst k1 e0
    rw [k.dInts e1] at hp
    exact ⟨p, ns, rfl, .of hp, q _ H (Same.refl H) (.int _)⟩
  · cases e
theorem all_ok {K : Fg} : OpN K allR (rAll K) := fun O H0 H vs rs rz Q hd hs k e q => by
  unfold allR at e
  split at e
  · obtain ⟨ds, e0, e⟩ := Option.bind_eq_some_iff.mp e
    obtain ⟨ns, e1, e⟩ := Option.map_eq_some_iff.mp e
    cases e
    obtain ⟨v, rfl, k1⟩ := k.one
    obtain ⟨p, vs, rfl, hp, k⟩ := ROk.lst k1 e0
    rw [k.dBools e1] at hp
    exact ⟨p, ns, rfl, .of hp, q _ H (Same.refl H) (.bl _)⟩
  · cases e
theorem any_ok {K : Fg} : OpN K anyR (rAny K) := fun O H0 H vs rs rz Q hd hs k e q => by
  unfold anyR at e
  split at e
  · obtain ⟨ds, e0, e⟩ := Option.bind_eq_some_iff.mp e
    obtain ⟨ns, e1, e⟩ := Option.map_eq_some_iff.mp e
    cases e
    obtain ⟨v, rfl, k1⟩ := k.one
    obtain ⟨p, vs, rfl, hp, k⟩ := ROk.lst k1 e0
    rw [k.dBools e1] at hp
    exact ⟨p, ns, rfl, .of hp, q _ H (Same.refl H) (.bl _)⟩
  · cases e
def tupleR : SemN
  | [.im (.tuple ds)] => some (.im (.tuple ds))
  | [x] => x.lst?.map fun ds => .im (.tuple ds)
  | _ => none
def rTupAll (K : Fg) : List V → Hp → VK → Prop := fun xs H Q => ∃ p ys, xs = [.ref p] ∧ ((SqL K H p ys ∧ ∀ l, H l = none → Q (.ref l) (upd H l (.tup ys))) ∨ (SqT K H p ys ∧ Q (.ref p) H))
theorem tuple_cr {X : Cx} : CallR X (.type "tuple") (rTupAll X.K) := call_tuple_of
theorem tuple_ok {K : Fg} : OpN K tupleR (rTupAll K) := fun O H0 H vs rs rz Q hd hs k e q => by
  unfold tupleR at e
  split at e
  · cases e
    obtain ⟨v, rfl, k1⟩ := k.one
    obtain ⟨p, vs, rfl, hp, k⟩ := ROk.tup k1 rfl
    exact ⟨p, vs, rfl, .inr ⟨.of hp, q _ H (Same.refl H) (Dn.tup hp k)⟩⟩
  · obtain ⟨ds, e0, e⟩ := Option.map_eq_some_iff.mp e
    cases e
    obtain ⟨v, rfl, k1⟩ := k.one
    obtain ⟨p, vs, rfl, hp, k⟩ := ROk.lst k1 e0
    exact ⟨p, vs, rfl, .inl ⟨.of hp, fun l hl => q _ _ (same_new hl) (new_tup hl k)⟩⟩
  · cases e
def listR : SemN
  | [.im (.tuple ds)] => some (.fr ds)
  | [x] => x.lst?.map fun ds => .fr ds
  | _ => none
def rListAll (K : Fg) : List V → Hp → VK → Prop := fun xs H Q => ∃ p ys, xs = [.ref p] ∧ (SqL K H p ys ∨ SqT K H p ys) ∧ ∀ l, H l = none → Q (.ref l) (upd H l (.lst ys))
theorem list_cr {X : Cx} : CallR X (.type "list") (rListAll X.K) := call_list_of
theorem list_ok {K : Fg} : OpN K listR (rListAll K) := fun O H0 H vs rs rz Q hd hs k e q => by
  unfold listR at e
  split at e
  · cases e
    obtain ⟨v, rfl, k1⟩ := k.one
    obtain ⟨p, vs, rfl, hp, k⟩ := ROk.tup k1 rfl
    exact ⟨p, vs, rfl, .inr (.of hp), fun l hl => q _ _ (same_new hl) (new_fr hs hl k)⟩
  · obtain ⟨ds, e0, e⟩ := Option.map_eq_some_iff.mp e
    cases e
    obtain ⟨v, rfl, k1⟩ := k.one
    obtain ⟨p, vs, rfl, hp, k⟩ := ROk.lst k1 e0
    exact ⟨p, vs, rfl, .inl (.of hp), fun l hl => q _ _ (same_new hl) (new_fr hs hl k)⟩
  · cases e
def intR : SemN
  | [.im (.int i)] => some (.im (.int i))
  | [.im (.bool b)] => some (.im (.int (if b then 1 else 0)))
  | [.im (.str z)] => if z.length ≤ 640 then (PySem.intText? z).map fun n => .im (.int n) else none
  | _ => none
def rIntAll : List V → Hp → VK → Prop := fun xs H Q => ((∃ i, xs = [.int i] ∧ Q (.int i) H) ∨ ∃ k, xs = [.bl k] ∧ Q (.int (if k then 1 else 0)) H) ∨ ∃ a n, xs = [.str a] ∧ PySem.intText? a = some n ∧ a.length ≤ 640 ∧ Q (.int n) H
theorem int_cr {X : Cx} : CallR X (.type "int") rIntAll := call_int1.or call_int_str
theorem int_ok {K : Fg} : OpN K intR rIntAll := fun O H0 H vs rs rz Q hd hs k e q => by
  unfold intR at e
  split at e
  · cases e
    obtain ⟨v, rfl, k1⟩ := k.one
    exact .inl (.inl ⟨_, by rw [Dn.intv k1], q _ H (Same.refl H) (.int _)⟩)
  · cases e
    obtain ⟨v, rfl, k1⟩ := k.one
    exact .inl (.inr ⟨_, by rw [Dn.blv k1], q _ H (Same.refl H) (.int _)⟩)
  · split at e
    · rename_i hl
      obtain ⟨n, e0, e⟩ := Option.map_eq_some_iff.mp e
      cases e
      obtain ⟨v, rfl, k1⟩ := k.one
      exact .inr ⟨_, n, by rw [Dn.strv k1], e0, hl, q _ H (Same.refl H) (.int _)⟩
    · cases e
  · cases e
def strR : SemN
  | [.im (.int i)] => if i.natAbs.log2 < 1920 then some (.im (.str (toString i))) else none
  | _ => none
theorem str_ok {K : Fg} : OpN K strR (fun xs H Q => ∃ i, xs = [.int i] ∧ i.natAbs.log2 < 1920 ∧ Q (.str (toString i)) H) := fun O H0 H vs rs rz Q hd hs k e q => by
  unfold strR at e
  split at e
  · split at e
    · rename_i hl
      cases e
      obtain ⟨v, rfl, k1⟩ := k.one
      exact ⟨_, by rw [Dn.intv k1], hl, q _ H (Same.refl H) (.str _)⟩
    · cases e
  · cases e
def max2R : SemN
  | [.im (.int i), .im (.int j)] => some (.im (.int (if j > i then j else i)))
  | _ => none
def min2R : SemN
  | [.im (.int i), .im (.int j)] => some (.im (.int (if j < i then j else i)))
  | _ => none
theorem max2_ok {K : Fg} : OpN K max2R (fun xs H Q => ∃ i j, xs = [.int i, .int j] ∧ Q (.int (if j > i then j else i)) H) := fun O H0 H vs rs rz Q hd hs k e q => by
  unfold max2R at e
  split at e
  · cases e
    obtain ⟨v, w, rfl, k1, k2⟩ := k.two
    exact ⟨_, _, by rw [Dn.intv k1, Dn.intv k2], q _ H (Same.refl H) (.int _)⟩
  · cases e
theorem min2_ok {K : Fg} : OpN K min2R (fun xs H Q => ∃ i j, xs = [.int i, .int j] ∧ Q (.int (if j < i then j else i)) H) := fun O H0 H vs rs rz Q hd hs k e q => by
  unfold min2R at e
  split at e
  · cases e
    obtain ⟨v, w, rfl, k1, k2⟩ := k.two
    exact ⟨_, _, by rw [Dn.intv k1, Dn.intv k2], q _ H (Same.refl H) (.int _)⟩
  · cases e
/-! ### isinstance -/
def typ : D → String
  | .none => "NoneType"
  | .bool _ => "bool"
  | .int _ => "int"
  | .str _ => "str"
  | .list _ => "list"
  | .tuple _ => "tuple"
  | .dict _ => "dict"
def isiR (T : String) : Sem1
  | .im d => (kitB (typ d) T).map fun b => .im (.bool b)
  | _ => none
theorem Dn.ty {K : Fg} {O : AS} {H : Hp} {v : V} {d : D} (k : Dn K O H v d) : TyX K H v (.type (typ d)) := by
  cases k with
  | non => exact .base .non
  | bl b => exact .base (.bl b)
  | int i => exact .base (.int i)
  | str x => exact .base (.str x)
  | lst _ h _ => exact .base (.lst h)
  | tup h _ => exact .base (.tup h)
def tIsi (K : Fg) (T : String) (f : XE) : TE := fun st H Q => tX K (xUn (isiR T) f) st H Q
section
variable {X : Cx} {a : Expr} {f : XE} {p p2 pos : Pos} {T : String} {y : Str}
theorem x_isi (T : String) (hg : Gl X "isinstance") (hm : X.mg "isinstance" = none) (hg2 : Gl X y) (hm2 : X.mg y = none) (hv2 : bootBuiltins y = some (.type T)) (ha : PE X a (tX X.K f)) (hn : y ≠ "__name__" := by decide) (hdb : (y == ("__debug__" : Str)) = false := by decide)
    (he : starEach [a, .Name y p2] X.env = (false, eval a X.env) :: starEach [.Name y p2] X.env := by rfl) (he2 : starEach [.Name y p2] X.env = [(false, eval (.Name y p2) X.env)] := by rfl) : PE X (.Call (.Name "isinstance" p) [a, .Name y p2] [] pos) (tX X.K (xUn (isiR T) f)) := by
  have hb : PE X (.Name y p2) (tC (.ty T)) := pe_bltn hg2 hm2 hv2 rfl hn hdb
  refine pe_weak (pe_callB call_isi hg hm (by decide +kernel) (pa_cons ha (pa_cons hb pa_nil (by rw [he2]; rfl)) he) (by decide) (by decide) he (by rw [he2]; rfl)) fun st H Q ⟨H0, B, pn, A, env, r, rp, er, q⟩ => ?_
  obtain ⟨x, ex, er⟩ := Option.bind_eq_some_iff.mp er
  refine ⟨H0, B, pn, A, env, x, rp, ex, fun v H1 s1 k1 => ?_⟩
  unfold isiR at er
  split at er
  · obtain ⟨b, e0, er⟩ := Option.map_eq_some_iff.mp er
    cases er
    exact ⟨v, .ty T, _, _, b, rfl, .ty T, Dn.ty k1, kit_ty e0, q _ H1 s1 (.bl b)⟩
  · cases er
end
end Ct

end
section
set_option maxRecDepth 100000
namespace Ct
open PySem PySem.Spec PyProof.Rows L2

def updA (A : Ownr) (i : Nat) (as : List Addr) : Ownr := fun j => if j = i then as else A j
theorem updA_same {A : Ownr} {i : Nat} {as : List Addr} : updA A i as i = as := if_pos rfl
theorem updA_ne {A : Ownr} {i j : Nat} {as : List Addr} (h : j ≠ i) : updA A i as j = A j := if_neg h
theorem ow_nil {A : Ownr} {i : Nat} {a : Addr} (h : Ow (updA A i []) a) : Ow A a := by
  obtain ⟨j, h⟩ := h
  by_cases e : j = i
  · subst e
    rw [updA_same] at h
    cases h
  · rw [updA_ne e] at h
    exact ⟨j, h⟩
theorem ob_nil {B : AS} {A : Ownr} {i : Nat} {a : Addr} (h : Ob B (updA A i []) a) : Ob B A a := h.elim .inl fun z => .inr (ow_nil z)
theorem ow_one {A : Ownr} {i : Nat} {a b : Addr} (h : Ow (updA A i [b]) a) : Ow A a ∨ a = b := by
  obtain ⟨j, h⟩ := h
  by_cases e : j = i
  · subst e
    rw [updA_same] at h
    exact .inr (List.mem_singleton.mp h)
  · rw [updA_ne e] at h
    exact .inl ⟨j, h⟩
theorem ob_one {B : AS} {A : Ownr} {i : Nat} {a b : Addr} (h : Ob B (updA A i [b]) a) : Ob B A a ∨ a = b := by
  rcases h with h | h
  · exact .inl (.inl h)
  · rcases ow_one h with h | h
    · exact .inl (.inr h)
    · exact .inr h
theorem SlOk.anti {K : Fg} {O O' W W' : AS} {H : Hp} {v : Option V} {as : List Addr} {s : Sl} (e : ∀ b, O' b → O b) (e' : ∀ b, W' b → W b) (h : SlOk K O W H v as s) : SlOk K O' W' H v as s := by
  cases s with
  | no => exact h
  | im d =>
    obtain ⟨h1, x, h2, h3⟩ := h
    exact ⟨h1, x, h2, h3.anti e⟩
  | bo ds =>
    obtain ⟨h1, a, vs, h2, h3, h4, h5⟩ := h
    exact ⟨h1, a, vs, h2, fun z => h3 (e' _ z), h4, h5.anti e⟩
  | sc ds =>
    obtain ⟨h1, a, vs, h2, h3, h4⟩ := h
    exact ⟨h1, a, vs, h2, h3.anti e', h4.anti e⟩
  | ml ds =>
    obtain ⟨a, vs, h1, h2, h3, h4⟩ := h
    exact ⟨a, vs, h1, h2, h3, h4.anti e⟩
theorem SlOk.wide {K : Fg} {O O' W W' : AS} {H : Hp} {v : Option V} {as : List Addr} {s : Sl} (e : ∀ b, O' b → O b ∨ H b = none) (e' : ∀ b, W' b → W b ∨ H b = none) (h : SlOk K O W H v as s) : SlOk K O' W' H v as s := by
  cases s with
  | no => exact h
  | im d =>
    obtain ⟨h1, x, h2, h3⟩ := h
    exact ⟨h1, x, h2, h3.wide e⟩
  | bo ds =>
    obtain ⟨h1, a, vs, h2, h3, h4, h5⟩ := h
    refine ⟨h1, a, vs, h2, fun z => ?_, h4, h5.wide e⟩
    rcases e' _ z with z | z
    · exact h3 z
    · rw [h4] at z
      cases z
  | sc ds =>
    obtain ⟨h1, a, vs, h2, h3, h4⟩ := h
    refine ⟨h1, a, vs, h2, ?_, h4.wide e⟩
    rcases h3 with ⟨n, h3⟩ | h3
    · refine .inl ⟨fun z => ?_, h3⟩
      rcases e' _ z with z | z
      · exact n z
      · rcases h3 with h3 | ⟨o, h3⟩ <;> (rw [h3] at z; cases z)
    · exact .inr h3
  | ml ds =>
    obtain ⟨a, vs, h1, h2, h3, h4⟩ := h
    exact ⟨a, vs, h1, h2, h3, h4.wide e⟩
theorem join_set {st : L2.St} {i : Nat} {x : Option V} (h : i < st.length) : ((st.set i x)[i]?).join = x := by
  rw [List.getElem?_set_self h]
  rfl
section
variable {K : Fg} {H0 Hb H H' : Hp} {B : AS} {pn pn' : Pins} {A : Ownr} {env : Env} {st : L2.St} {i j : Nat} {v : V} {d : D} {ds : List D} {vs : List V} {a : Addr}
/-- slot i gets a thing that owns nothing -/
theorem Rep.put {s : Sl} {x : Option V} (r : Rep K H0 B pn A env st H) (k : SlOk K (Ob B (updA A i [])) (Ow (updA A i [])) H x [] s) : Rep K H0 B pn (updA A i []) (env.set i s) (st.set i x) H := by
  have hsub : ∀ j a, a ∈ updA A i [] j → a ∈ A j := fun j a h => by
    by_cases e : j = i
    · subst e
      rw [updA_same] at h
      cases h
    · rw [updA_ne e] at h
      exact h
  refine ⟨by rw [List.length_set, List.length_set, r.len], r.same, r.bdom, fun j a h => r.new j a (hsub j a h), fun j a h => r.dom j a (hsub j a h), fun j k a h h' => r.disj j k a (hsub j a h) (hsub k a h'), fun j h => ?_, fun j s' h => ?_, fun p hp => ⟨fun z => (r.pins p hp).1 (ow_nil z), (r.pins p hp).2⟩, fun p hp => (r.keep p hp).anti fun b => ob_nil⟩
  · rw [List.length_set] at h
    by_cases e : j = i
    · rw [e, updA_same]
    · rw [updA_ne e]
      exact r.out j h
  · by_cases e : i = j
    · subst e
      have hl : i < env.length := by
        have z := (List.getElem?_eq_some_iff.mp h).1
        rw [List.length_set] at z
        exact z
      rw [List.getElem?_set_self hl] at h
      cases h
      rw [updA_same, join_set (by rw [r.len]; exact hl)]
      exact k
    · rw [List.getElem?_set_ne e] at h
      rw [updA_ne (Ne.symm e), List.getElem?_set_ne e]
      exact (r.slots j s' h).anti (fun b => ob_nil) fun b => ow_nil
theorem Rep.setIm (r : Rep K H0 B pn A env st H) (k : Dn K (Ob B A) H v d) : Rep K H0 B pn (updA A i []) (env.set i (.im d)) (st.set i (some v)) H :=
  r.put ⟨rfl, v, rfl, k.anti fun b => ob_nil⟩
theorem set_same {α : Type} {l : List α} {i : Nat} {x : α} (h : l[i]? = some x) : l.set i x = l := by
  refine List.ext_getElem? fun j => ?_
  by_cases e : i = j
  · subst e
    rw [List.getElem?_set_self (List.getElem?_eq_some_iff.mp h).1, h]
  · rw [List.getElem?_set_ne e]
/-- slot i is forgotten (its value may stay) -/
theorem Rep.wipe (r : Rep K H0 B pn A env st H) : Rep K H0 B pn (updA A i []) (env.set i .no) st H := by
  by_cases hl : i < st.length
  · have q := r.put (i := i) (s := .no) (x := st[i]) rfl
    rw [set_same (List.getElem?_eq_getElem hl)] at q
    exact q
  · have q := r.put (i := i) (s := .no) (x := none) rfl
    have hl2 : st.length ≤ i := by omega
    rw [List.set_eq_of_length_le (l := st) hl2] at q
    exact q
theorem Rep.wipeN (r : Rep K H0 B pn A env st H) : Rep K H0 B pn (updA A i []) (env.set i .no) (st.set i none) H := r.put rfl
/-- a new list is taken over -/
theorem Rep.setFr (r : Rep K H0 B pn A env st Hb) (e : Same Hb H) (hb : Hb a = none) (ha : H a = some (.lst vs)) (hi : i < env.length) (k : DnL K (fun b => Ob B A b ∨ b = a) H vs ds) : Rep K H0 B pn (updA A i [a]) (env.set i (.ml ds)) (st.set i (some (.ref a))) H := by
  have r2 := r.mono e
  have hO : ∀ b, Ob B (updA A i [a]) b → Ob B A b ∨ Hb b = none := fun b z => by
    rcases ob_one z with z | z
    · exact .inl z
    · rw [z]
      exact .inr hb
  have hW : ∀ b, Ow (updA A i [a]) b → Ow A b ∨ Hb b = none := fun b z => by
    rcases ow_one z with z | z
    · exact .inl z
    · rw [z]
      exact .inr hb
  have mem : ∀ j b, b ∈ updA A i [a] j → (j = i ∧ b = a) ∨ (j ≠ i ∧ b ∈ A j) := fun j b h => by
    by_cases q : j = i
    · subst q
      rw [updA_same] at h
      exact .inl ⟨rfl, List.mem_singleton.mp h⟩
    · rw [updA_ne q] at h
      exact .inr ⟨q, h⟩
  refine ⟨by rw [List.length_set, List.length_set, r.len], r2.same, r2.bdom, fun j b h => ?_, fun j b h => ?_, fun j l b h h' => ?_, fun j h => ?_, fun j s' h => ?_, fun p hp => ⟨fun z => ?_, (r2.pins p hp).2⟩, fun p hp => ((r.keep p hp).wide hO).ext (Ext.of e)⟩
  · rcases mem j b h with ⟨_, z⟩ | ⟨_, z⟩
    · rw [z]
      exact r.same.free hb
    · exact r.new j b z
  · rcases mem j b h with ⟨_, z⟩ | ⟨_, z⟩
    · rw [z, ha]
      exact fun q => nomatch q
    · exact r2.dom j b z
  · rcases mem j b h with ⟨z1, z2⟩ | ⟨z1, z2⟩
    · rcases mem l b h' with ⟨z3, z4⟩ | ⟨z3, z4⟩
      · rw [z1, z3]
      · rw [z2] at z4
        exact absurd hb (r.dom l a z4)
    · rcases mem l b h' with ⟨z3, z4⟩ | ⟨z3, z4⟩
      · rw [z4] at z2
        exact absurd hb (r.dom j a z2)
      · exact r.disj j l b z2 z4
  · rw [List.length_set] at h
    rw [updA_ne (by omega)]
    exact r.out j h
  · by_cases q : i = j
    · subst q
      rw [List.getElem?_set_self hi] at h
      cases h
      rw [updA_same, join_set (by rw [r.len]; exact hi)]
      exact ⟨a, vs, rfl, rfl, ha, k.anti fun b z => ob_one z⟩
    · rw [List.getElem?_set_ne q] at h
      rw [updA_ne (Ne.symm q), List.getElem?_set_ne q]
      exact ((r.slots j s' h).wide hO hW).mono e
  · rcases ow_one z with z | z
    · exact (r2.pins p hp).1 z
    · have q := (r.pins p hp).2
      rw [z, hb] at q
      cases q
theorem Rep.ml (r : Rep K H0 B pn A env st H) (e : env[i]? = some (.ml ds)) : ∃ a vs, st[i]? = some (some (.ref a)) ∧ A i = [a] ∧ H a = some (.lst vs) ∧ DnL K (Ob B A) H vs ds := by
  obtain ⟨a, vs, h1, h2, h3, h4⟩ := r.slots i _ e
  have hl : i < st.length := by
    rw [r.len]
    exact (List.getElem?_eq_some_iff.mp e).1
  refine ⟨a, vs, ?_, h1, h3, h4⟩
  rw [List.getElem?_eq_getElem hl] at h2 ⊢
  exact congrArg some h2
/-- slot i's own list is changed -/
theorem Rep.mut {es : List D} {ws : List V} (r : Rep K H0 B pn A env st H) (e : env[i]? = some (.ml ds)) (hA : A i = [a]) (hs : st[i]? = some (some (.ref a))) (ha : H a = some (.lst vs)) (k : DnL K (Ob B A) H ws es) : Rep K H0 B pn A (env.set i (.ml es)) st (upd H a (.lst ws)) := by
  have hi : i < env.length := (List.getElem?_eq_some_iff.mp e).1
  have own : Ow A a := ⟨i, by rw [hA]; exact List.mem_singleton.mpr rfl⟩
  have ex : Ext (Ob B A) H (upd H a (.lst ws)) := fun b o q => by
    by_cases z : b = a
    · subst z
      rw [ha] at q
      cases q
      exact .inr ⟨.inr own, rfl⟩
    · exact .inl (by rw [upd_ne z]; exact q)
  have exW : Ext (Ow A) H (upd H a (.lst ws)) := fun b o q => by
    by_cases z : b = a
    · subst z
      rw [ha] at q
      cases q
      exact .inr ⟨own, rfl⟩
    · exact .inl (by rw [upd_ne z]; exact q)
  refine ⟨by rw [List.length_set, r.len], fun b o q => ?_, fun b h => ?_, r.new, fun j b h => ?_, r.disj, fun j h => r.out j (by rw [List.length_set] at h; exact h), fun j s' h => ?_, fun p hp => ⟨(r.pins p hp).1, ?_⟩, fun p hp => (r.keep p hp).ext ex⟩
  · rw [upd_ne (ne_of_none q (r.new i a (by rw [hA]; exact List.mem_singleton.mpr rfl)))]
    exact r.same b o q
  · by_cases z : b = a
    · subst z
      rw [upd_same]
      exact fun q => nomatch q
    · rw [upd_ne z]
      exact r.bdom b h
  · by_cases z : b = a
    · subst z
      rw [upd_same]
      exact fun q => nomatch q
    · rw [upd_ne z]
      exact r.dom j b h
  · by_cases q : i = j
    · subst q
      rw [List.getElem?_set_self hi] at h
      cases h
      exact ⟨a, ws, hA, by rw [hs]; rfl, upd_same, k.ext ex⟩
    · rw [List.getElem?_set_ne q] at h
      have z := r.slots j s' h
      cases s' with
      | no => exact z
      | im d =>
        obtain ⟨h1, x, h2, h3⟩ := z
        exact ⟨h1, x, h2, h3.ext ex⟩
      | bo ds' =>
        obtain ⟨h1, a', vs', h2, h3, h4, h5⟩ := z
        exact ⟨h1, a', vs', h2, h3, exW.lst h3 h4, h5.ext ex⟩
      | sc ds' =>
        obtain ⟨h1, a', vs', h2, h3, h4⟩ := z
        exact ⟨h1, a', vs', h2, exW.li h3, h4.ext ex⟩
      | ml ds' =>
        obtain ⟨a', vs', h1, h2, h3, h4⟩ := z
        refine ⟨a', vs', h1, h2, ?_, h4.ext ex⟩
        rw [upd_ne fun z => ?_]
        · exact h3
        · subst z
          exact q (r.disj i j a' (by rw [hA]; exact List.mem_singleton.mpr rfl) (by rw [h1]; exact List.mem_singleton.mpr rfl))
  · rw [upd_ne fun z => (r.pins p hp).1 (by rw [z]; exact own)]
    exact (r.pins p hp).2
/-- pins less -/
structure PSub (pn pn' : Pins) : Prop where
  ad : ∀ p ∈ pn.ad, p ∈ pn'.ad
  kd : ∀ p ∈ pn.kd, p ∈ pn'.kd
theorem PSub.refl (pn : Pins) : PSub pn pn := ⟨fun _ h => h, fun _ h => h⟩
theorem PSub.trans {pn'' : Pins} (a : PSub pn pn') (b : PSub pn' pn'') : PSub pn pn'' := ⟨fun p h => b.ad p (a.ad p h), fun p h => b.kd p (a.kd p h)⟩
theorem Rep.unpin (s : PSub pn pn') (r : Rep K H0 B pn' A env st H) : Rep K H0 B pn A env st H :=
  ⟨r.len, r.same, r.bdom, r.new, r.dom, r.disj, r.out, r.slots, fun p hp => r.pins p (s.ad p hp), fun p hp => r.keep p (s.kd p hp)⟩
def Pins.add (pn : Pins) (a : Addr) (o : HO) (vs : List V) (ds : List D) : Pins := ⟨(a, o) :: pn.ad, vs.zip ds ++ pn.kd⟩
theorem PSub.add (pn : Pins) (a : Addr) (o : HO) (vs : List V) (ds : List D) : PSub pn (pn.add a o vs ds) := ⟨fun _ h => List.mem_cons_of_mem _ h, fun _ h => List.mem_append_right _ h⟩
theorem DnL.mem {O : AS} : ∀ {vs : List V} {ds : List D}, DnL K O H vs ds → ∀ p ∈ vs.zip ds, Dn K O H p.1 p.2
  | _, _, .nil, _, h => by cases h
  | _, _, .cons k t, p, h => by
    rcases List.mem_cons.mp h with h | h
    · subst h
      exact k
    · exact t.mem p h
theorem Rep.pin {o : HO} (r : Rep K H0 B pn A env st H) (n : ¬ Ow A a) (h : H a = some o) (k : DnL K (Ob B A) H vs ds) : Rep K H0 B (pn.add a o vs ds) A env st H :=
  ⟨r.len, r.same, r.bdom, r.new, r.dom, r.disj, r.out, r.slots, fun p hp => by
    rcases List.mem_cons.mp hp with z | z
    · subst z
      exact ⟨n, h⟩
    · exact r.pins p z, fun p hp => (List.mem_append.mp hp).elim (k.mem p) (r.keep p)⟩
theorem ow_gone (r : Rep K H0 B pn A env st H) (hA : A i = [a]) : ¬ Ow (updA A i []) a := fun z => by
  obtain ⟨j, z⟩ := z
  by_cases e : j = i
  · subst e
    rw [updA_same] at z
    cases z
  · rw [updA_ne e] at z
    exact e (r.disj j i a z (by rw [hA]; exact List.mem_singleton.mpr rfl))
/-- slot i's own list is walked from now on: nobody changes it -/
theorem Rep.borrow (r : Rep K H0 B pn A env st H) (e : env[i]? = some (.ml ds)) : ∃ a vs, st[i]? = some (some (.ref a)) ∧ H a = some (.lst vs) ∧ DnL K (Ob B (updA A i [])) H vs ds ∧ Rep K H0 B (pn.add a (.lst vs) vs ds) (updA A i []) (env.set i (.bo ds)) st H := by
  obtain ⟨a, vs, h1, h2, h3, h4⟩ := r.ml e
  have k := h4.anti (O' := Ob B (updA A i [])) fun b => ob_nil
  have n := ow_gone r h2
  have q := r.put (i := i) (s := .bo ds) (x := some (.ref a)) ⟨rfl, a, vs, rfl, n, h3, k⟩
  rw [set_same h1] at q
  exact ⟨a, vs, h1, h3, k, q.pin n h3 k⟩
/-- slot j's list goes to slot i -/
theorem Rep.move (r : Rep K H0 B pn A env st H) (e : env[j]? = some (.ml ds)) (hi : i < env.length) (hij : i ≠ j) : ∃ a, st[j]? = some (some (.ref a)) ∧ Rep K H0 B pn (updA (updA A j []) i [a]) ((env.set j .no).set i (.ml ds)) (st.set i (some (.ref a))) H := by
  obtain ⟨a, vs, h1, h2, h3, h4⟩ := r.ml e
  refine ⟨a, h1, ?_⟩
  have hO : ∀ b, Ob B (updA (updA A j []) i [a]) b → Ob B A b := fun b z => by
    rcases ob_one z with z | z
    · exact ob_nil z
    · rw [z]
      exact .inr ⟨j, by rw [h2]; exact List.mem_singleton.mpr rfl⟩
  have hW : ∀ b, Ow (updA (updA A j []) i [a]) b → Ow A b := fun b z => by
    rcases ow_one z with z | z
    · exact ow_nil z
    · rw [z]
      exact ⟨j, by rw [h2]; exact List.mem_singleton.mpr rfl⟩
  have mem : ∀ l b, b ∈ updA (updA A j []) i [a] l → (l = i ∧ b = a) ∨ (l ≠ i ∧ l ≠ j ∧ b ∈ A l) := fun l b h => by
    by_cases q : l = i
    · subst q
      rw [updA_same] at h
      exact .inl ⟨rfl, List.mem_singleton.mp h⟩
    · rw [updA_ne q] at h
      by_cases q2 : l = j
      · subst q2
        rw [updA_same] at h
        cases h
      · rw [updA_ne q2] at h
        exact .inr ⟨q, q2, h⟩
  have aj : a ∈ A j := by
    rw [h2]
    exact List.mem_singleton.mpr rfl
  refine ⟨by rw [List.length_set, List.length_set, List.length_set, r.len], r.same, r.bdom, fun l b h => ?_, fun l b h => ?_, fun l m b h h' => ?_, fun l h => ?_, fun l s' h => ?_, fun p hp => ⟨fun z => (r.pins p hp).1 (hW _ z), (r.pins p hp).2⟩, fun p hp => (r.keep p hp).anti hO⟩
  · rcases mem l b h with ⟨_, z⟩ | ⟨_, _, z⟩
    · rw [z]
      exact r.new j a aj
    · exact r.new l b z
  · rcases mem l b h with ⟨_, z⟩ | ⟨_, _, z⟩
    · rw [z]
      exact r.dom j a aj
    · exact r.dom l b z
  · rcases mem l b h with ⟨z1, z2⟩ | ⟨z1, z2, z3⟩
    · rcases mem m b h' with ⟨y1, y2⟩ | ⟨y1, y2, y3⟩
      · rw [z1, y1]
      · rw [z2] at y3
        exact absurd (r.disj m j a y3 aj) y2
    · rcases mem m b h' with ⟨y1, y2⟩ | ⟨y1, y2, y3⟩
      · rw [y2] at z3
        exact absurd (r.disj l j a z3 aj) z2
      · exact r.disj l m b z3 y3
  · rw [List.length_set, List.length_set] at h
    rw [updA_ne (by omega)]
    by_cases q : l = j
    · rw [q, updA_same]
    · rw [updA_ne q]
      exact r.out l h
  · by_cases q : i = l
    · subst q
      rw [List.getElem?_set_self (by rw [List.length_set]; exact hi)] at h
      cases h
      rw [updA_same, join_set (by rw [r.len]; exact hi)]
      exact ⟨a, vs, rfl, rfl, h3, h4.anti hO⟩
    · rw [List.getElem?_set_ne q] at h
      rw [updA_ne (Ne.symm q), List.getElem?_set_ne q]
      by_cases q2 : j = l
      · subst q2
        rw [List.getElem?_set_self (List.getElem?_eq_some_iff.mp e).1] at h
        cases h
        exact updA_same
      · rw [List.getElem?_set_ne q2] at h
        rw [updA_ne (Ne.symm q2)]
        exact (r.slots l s' h).anti hO hW
end
end Ct

end
section
set_option maxRecDepth 100000
namespace Ct
open PySem PySem.Spec PyProof.Rows L2

/-! ### plain statements -/
def sSkip : XS := fun env => some (.nx env)
def sSeq (f g : XS) : XS := fun env => (f env).bind fun o => match o with
  | .nx env' => g env'
  | o => some o
def R.ret : R → Option Out
  | .im d => some (.rt (.im d))
  | .fr ds => some (.rt (.fr ds))
  | _ => none
def sRet (f : XE) : XS := fun env => (f env).bind R.ret
def sRetV (i : Nat) : XS := fun env => match env[i]? with
  | some (.ml ds) => some (.rt (.fr ds))
  | some (.im d) => some (.rt (.im d))
  | _ => none
def sIf (c : XE) (a b : XS) : XS := fun env => (c env).bind fun x => match x with
  | .im (.bool true) => a env
  | .im (.bool false) => b env
  | _ => none
def putR (env : Env) (i : Nat) (r : R) : Option Env := if i < env.length then (match r with
  | .im d => some (env.set i (.im d))
  | .fr ds => some (env.set i (.ml ds))
  | _ => none) else none
def sSet (i : Nat) (f : XE) : XS := fun env => (f env).bind fun r => (putR env i r).map .nx
/-- x = y -/
def sMove (i j : Nat) : XS := fun env => if i < env.length ∧ i ≠ j then (match env[j]? with
  | some (.im d) => some (.nx (env.set i (.im d)))
  | some (.ml ds) => some (.nx ((env.set j .no).set i (.ml ds)))
  | _ => none) else none
def wipeE : List Nat → Env → Env
  | [], env => env
  | i :: is, env => (wipeE is env).set i .no
def sWipe (f : XS) (is : List Nat) : XS := fun env => (f env).map fun o => match o with
  | .nx env' => .nx (wipeE is env')
  | o => o
theorem Rep.wipes {K : Fg} {H0 H : Hp} {B : AS} {pn : Pins} {env : Env} {st : L2.St} : ∀ (is : List Nat) {A : Ownr}, Rep K H0 B pn A env st H → ∃ A', Rep K H0 B pn A' (wipeE is env) st H
  | [], A, r => ⟨A, r⟩
  | i :: is, A, r => by
    obtain ⟨A', r'⟩ := Rep.wipes is r
    exact ⟨_, r'.wipe⟩
section
variable {X : Cx} {st : Stmt} {rest a b : List Stmt} {f g : XS} {e c : Expr} {h : XE} {pos pos' : Pos} {i j : Nat} {x : Str}
theorem ss_nil : PSs X [] (tXS X.K sSkip) := pss_weak pss_nil fun E st H ⟨H0, B, pn, A, env, o, rp, eo, q⟩ => by
  cases eo
  exact q st H A rp
theorem ss_cons (h1 : PS X st (tXS X.K f)) (h2 : PSs X rest (tXS X.K g)) : PSs X (st :: rest) (tXS X.K (sSeq f g)) := pss_weak (pss_cons h1 h2) fun E st H ⟨H0, B, pn, A, env, o, rp, eo, q⟩ => by
  obtain ⟨o1, e1, eo⟩ := Option.bind_eq_some_iff.mp eo
  refine ⟨H0, B, pn, A, env, o1, rp, e1, ?_⟩
  cases o1 with
  | nx env' => exact fun st' H' A' rp' => ⟨H0, B, pn, A', env', o, rp', eo, q⟩
  | rt r =>
    cases eo
    exact q
  | bk env' =>
    cases eo
    exact q
  | ct env' =>
    cases eo
    exact q
theorem ss_one (h1 : PS X st (tXS X.K f)) : PSs X [st] (tXS X.K f) := pss_one h1
theorem ss_wipe (is : List Nat) (h1 : PSs X rest (tXS X.K f)) : PSs X rest (tXS X.K (sWipe f is)) := pss_weak h1 fun E st H ⟨H0, B, pn, A, env, o, rp, eo, q⟩ => by
  obtain ⟨o1, e1, eo⟩ := Option.map_eq_some_iff.mp eo
  refine ⟨H0, B, pn, A, env, o1, rp, e1, ?_⟩
  cases o1 with
  | nx env' =>
    cases eo
    intro st' H' A' rp'
    obtain ⟨A2, r2⟩ := rp'.wipes is
    exact q st' H' A2 r2
  | rt r =>
    cases eo
    exact q
  | bk env' =>
    cases eo
    exact q
  | ct env' =>
    cases eo
    exact q
theorem s_wipe (is : List Nat) (h1 : PS X st (tXS X.K f)) : PS X st (tXS X.K (sWipe f is)) := ps_weak h1 fun E st H ⟨H0, B, pn, A, env, o, rp, eo, q⟩ => by
  obtain ⟨o1, e1, eo⟩ := Option.map_eq_some_iff.mp eo
  refine ⟨H0, B, pn, A, env, o1, rp, e1, ?_⟩
  cases o1 with
  | nx env' =>
    cases eo
    intro st' H' A' rp'
    obtain ⟨A2, r2⟩ := rp'.wipes is
    exact q st' H' A2 r2
  | rt r =>
    cases eo
    exact q
  | bk env' =>
    cases eo
    exact q
  | ct env' =>
    cases eo
    exact q
theorem s_ret (he : PE X e (tX X.K h)) : PS X (.Return (some e) pos) (tXS X.K (sRet h)) := ps_weak (ps_ret he) fun E st H ⟨H0, B, pn, A, env, o, rp, eo, q⟩ => by
  obtain ⟨r, er, eo⟩ := Option.bind_eq_some_iff.mp eo
  refine ⟨H0, B, pn, A, env, r, rp, er, fun v H' s1 k1 => ?_⟩
  cases r with
  | im d =>
    cases eo
    exact q v H' (rp.same.trans s1) (Dn.anti (fun b z => .inl z) k1)
  | fr ds =>
    cases eo
    obtain ⟨a, vs, e1, e2, e3, e4⟩ := k1
    exact q v H' (rp.same.trans s1) ⟨a, vs, e1, rp.same.free e2, e3, e4.anti fun b z => z.elim (fun z => .inl (.inl z)) .inr⟩
  | ls ds => cases eo
  | sc ds => cases eo
theorem s_retV (i : Nat) (hN : X.N[i]? = some x := by rfl) (hv : Vis X.env.scope x := by first | exact Or.inl rfl | exact Or.inr (Or.inl rfl) | exact Or.inr (Or.inr rfl)) (hd : (x == ("__debug__" : Str)) = false := by decide)
    (hcd : (x == ("__classdict__" : Str)) = false := by decide) : PS X (.Return (some (.Name x pos')) pos) (tXS X.K (sRetV i)) := ps_weak (ps_ret (pe_var hN hv hd hcd)) fun E st H ⟨H0, B, pn, A, env, o, rp, eo, q⟩ => by
  unfold sRetV at eo
  split at eo
  · rename_i ds e1
    cases eo
    obtain ⟨a, vs, h1, h2, h3, h4⟩ := rp.ml e1
    refine ⟨_, h1, q _ H rp.same ⟨a, vs, rfl, rp.new i a (by rw [h2]; exact List.mem_singleton.mpr rfl), h3, h4.anti fun b z => ?_⟩⟩
    rcases z with z | z
    · exact .inl z
    · rw [z]
      exact .inr ⟨i, by rw [h2]; exact List.mem_singleton.mpr rfl⟩
  · rename_i d e1
    cases eo
    obtain ⟨v, h1, h2⟩ := rp.var (i := i) (r := .im d) (by unfold xVar; rw [e1]; rfl)
    exact ⟨v, h1, q v H rp.same (Dn.anti (fun b z => .inl z) h2)⟩
  · cases eo
theorem s_if (hc : PT X c (tXT X.K h)) (ha : PSs X a (tXS X.K f)) (hb : PSs X b (tXS X.K g)) : PS X (.If c a b pos) (tXS X.K (sIf h f g)) := ps_weak (ps_if hc ha hb) fun E st H ⟨H0, B, pn, A, env, o, rp, eo, q⟩ => by
  obtain ⟨x, ex, eo⟩ := Option.bind_eq_some_iff.mp eo
  split at eo
  · exact ⟨H0, B, pn, A, env, true, rp, ex, fun H1 s1 => iteT ⟨H0, B, pn, A, env, o, rp.mono s1, eo, q⟩⟩
  · exact ⟨H0, B, pn, A, env, false, rp, ex, fun H1 s1 => iteF ⟨H0, B, pn, A, env, o, rp.mono s1, eo, q⟩⟩
  · cases eo
theorem put_run {K : Fg} {H0 H H' : Hp} {B : AS} {pn : Pins} {A : Ownr} {env env' : Env} {st : L2.St} {r : R} {v : V} (rp : Rep K H0 B pn A env st H) (s1 : Same H H') (k1 : ROk K (Ob B A) H H' v r) (e : putR env i r = some env') : ∃ A', Rep K H0 B pn A' env' (st.set i (some v)) H' := by
  unfold putR at e
  split at e
  · rename_i hi
    cases r with
    | im d =>
      cases e
      exact ⟨_, (rp.mono s1).setIm k1⟩
    | fr ds =>
      cases e
      obtain ⟨a, vs, rfl, e2, e3, e4⟩ := k1
      exact ⟨_, rp.setFr s1 e2 e3 hi e4⟩
    | ls ds => cases e
    | sc ds => cases e
  · cases e
theorem set_run {K : Fg} {E : Ends} {st : L2.St} {H : Hp} (q : tXS K (sSet i h) E st H) : tAsg (tX K h) (gName i) E st H := by
  obtain ⟨H0, B, pn, A, env, o, rp, eo, q⟩ := q
  obtain ⟨r, er, eo⟩ := Option.bind_eq_some_iff.mp eo
  obtain ⟨env', e1, eo⟩ := Option.map_eq_some_iff.mp eo
  cases eo
  refine ⟨H0, B, pn, A, env, r, rp, er, fun v H' s1 k1 => ?_⟩
  obtain ⟨A', r'⟩ := put_run rp s1 k1 e1
  exact q _ H' A' r'
theorem s_set (hN : X.N.Nodup) (hi : X.N[i]? = some x) (hx : Loc X.env.scope x) (he : PE X e (tX X.K h)) (hs : swapsWith e (some (.Name x pos')) pos.line X.env = pure false := by rfl) (hf : X.fn x = true ∨ X.env.scope.names.lookup x = some .local := by first | exact .inl rfl | exact .inr rfl | assumption) :
    PS X (.Assign [.Name x pos'] e pos) (tXS X.K (sSet i h)) := ps_weak (ps_set hN hi hx he hs hf) fun E st H q => set_run q
theorem s_move {y : Str} {p3 : Pos} (hN : X.N.Nodup) (hi : X.N[i]? = some x) (hx : Loc X.env.scope x) (hj : X.N[j]? = some y) (hy : Vis X.env.scope y) (hs : swapsWith (.Name y p3) (some (.Name x pos')) pos.line X.env = pure false := by rfl) (hf : X.fn x = true ∨ X.env.scope.names.lookup x = some .local := by first | exact .inl rfl | exact .inr rfl | assumption)
    (hd : (y == ("__debug__" : Str)) = false := by decide) (hcd : (y == ("__classdict__" : Str)) = false := by decide) :
    PS X (.Assign [.Name x pos'] (.Name y p3) pos) (tXS X.K (sMove i j)) := ps_weak (ps_set hN hi hx (pe_var hj hy hd hcd) hs hf) fun E st H ⟨H0, B, pn, A, env, o, rp, eo, q⟩ => by
  unfold sMove at eo
  split at eo
  · rename_i hc
    split at eo
    · rename_i d e1
      cases eo
      obtain ⟨v, h1, h2⟩ := rp.var (i := j) (r := .im d) (by unfold xVar; rw [e1]; rfl)
      exact ⟨v, h1, q _ H _ (rp.setIm h2)⟩
    · rename_i ds e1
      cases eo
      obtain ⟨a, h1, h2⟩ := rp.move e1 hc.1 hc.2
      exact ⟨_, h1, q _ H _ h2⟩
    · cases eo
  · cases eo
end

/-! ### lists that are changed -/
def sApp (i : Nat) (f : XE) : XS := fun env => match env[i]? with
  | some (.ml ds) => (f env).bind fun r => r.dat?.bind fun d => if ds.length < 100000 then some (.nx (env.set i (.ml (ds ++ [d])))) else none
  | _ => none
def sExt (i : Nat) (f : XE) : XS := fun env => match env[i]? with
  | some (.ml ds) => (f env).bind fun r => r.lst?.bind fun es => if ds.length + es.length ≤ 100000 then some (.nx (env.set i (.ml (ds ++ es)))) else none
  | _ => none
/-- xs[k] = e -/
def sStore (i : Nat) (g f : XE) : XS := fun env => (f env).bind fun r => r.dat?.bind fun d => match env[i]? with
  | some (.ml ds) => (g env).bind fun k => (match k with
    | .im (.int n) => (ixN ds.length n).map fun j => .nx (env.set i (.ml (ds.set j d)))
    | _ => none)
  | _ => none
theorem xVar_ml {env : Env} {i : Nat} {ds : List D} (e : env[i]? = some (.ml ds)) : xVar i env = some (.ls ds) := by
  unfold xVar
  rw [e]
  rfl
section
variable {X : Cx} {e c : Expr} {h g : XE} {pos pos' p2 p3 : Pos} {i j : Nat} {x : Str}
theorem s_app (hN : X.N[i]? = some x) (hv : Vis X.env.scope x) (he : PE X e (tX X.K h)) (hd : (x == ("__debug__" : Str)) = false := by decide) (hcd : (x == ("__classdict__" : Str)) = false := by decide)
    (b1 : attributeBase (.Name x p3) "append" X.env (eval (.Name x p3) X.env) = eval (.Name x p3) X.env := by rfl)
    (b2 : ((backTo pos' (starEach [e] X.env)).all (fun x => !x.1) && (backToKw pos' (keywordEach [] X.env)).all (fun x => x.1.isSome) && decide ([e].length + ([] : List Keyword).length + (if ([] : List Keyword).isEmpty then 0 else 1) < 30)) = true := by rfl)
    (b3 : (p2.endLine == pos'.line) = true := by rfl) (b4 : starEach [e] X.env = (false, eval e X.env) :: starEach [] X.env := by rfl) (b5 : swapsWith (.Call (.Attribute (.Name x p3) "append" p2) [e] [] pos') none pos.line X.env = pure false := by rfl) :
    PS X (.Expr (.Call (.Attribute (.Name x p3) "append" p2) [e] [] pos') pos) (tXS X.K (sApp i h)) := ps_weak (ps_expr (pe_bm PySem.F.plainAttrs_list PySem.F.slot_list_append PySem.F.type_list_append mt_append (pe_var hN hv hd hcd) (pa_cons he pa_nil b4) b1 b2 b3 b4 rfl) b5) fun E st H ⟨H0, B, pn, A, env, o, rp, eo, q⟩ => by
  unfold sApp at eo
  split at eo
  · rename_i ds e1
    obtain ⟨r, er, eo⟩ := Option.bind_eq_some_iff.mp eo
    obtain ⟨d, ed, eo⟩ := Option.bind_eq_some_iff.mp eo
    split at eo
    · rename_i hl
      cases eo
      obtain ⟨a, vs, h1, h2, h3, h4⟩ := rp.ml e1
      refine ⟨_, h1, .inl ⟨rfl, _, .of h3⟩, ⟨H0, B, pn, A, env, r, rp, er, fun v H' s1 k1 => ?_⟩⟩
      have k := k1.dat rp.odom ed
      refine ⟨a, vs, v, rfl, rfl, s1 _ _ h3, by rw [h4.len]; exact szlt hl, ?_⟩
      exact q _ _ _ ((rp.mono s1).mut e1 h2 h1 (s1 _ _ h3) ((h4.ext (Ext.of s1)).app (.cons k .nil)))
    · cases eo
  · cases eo
theorem s_ext (hN : X.N[i]? = some x) (hv : Vis X.env.scope x) (he : PE X e (tX X.K h)) (hd : (x == ("__debug__" : Str)) = false := by decide) (hcd : (x == ("__classdict__" : Str)) = false := by decide)
    (b1 : attributeBase (.Name x p3) "extend" X.env (eval (.Name x p3) X.env) = eval (.Name x p3) X.env := by rfl)
    (b2 : ((backTo pos' (starEach [e] X.env)).all (fun x => !x.1) && (backToKw pos' (keywordEach [] X.env)).all (fun x => x.1.isSome) && decide ([e].length + ([] : List Keyword).length + (if ([] : List Keyword).isEmpty then 0 else 1) < 30)) = true := by rfl)
    (b3 : (p2.endLine == pos'.line) = true := by rfl) (b4 : starEach [e] X.env = (false, eval e X.env) :: starEach [] X.env := by rfl) (b5 : swapsWith (.Call (.Attribute (.Name x p3) "extend" p2) [e] [] pos') none pos.line X.env = pure false := by rfl) :
    PS X (.Expr (.Call (.Attribute (.Name x p3) "extend" p2) [e] [] pos') pos) (tXS X.K (sExt i h)) := ps_weak (ps_expr (pe_bm PySem.F.plainAttrs_list PySem.F.slot_list_extend PySem.F.type_list_extend mt_extend (pe_var hN hv hd hcd) (pa_cons he pa_nil b4) b1 b2 b3 b4 rfl) b5) fun E st H ⟨H0, B, pn, A, env, o, rp, eo, q⟩ => by
  unfold sExt at eo
  split at eo
  · rename_i ds e1
    obtain ⟨r, er, eo⟩ := Option.bind_eq_some_iff.mp eo
    obtain ⟨es, ed, eo⟩ := Option.bind_eq_some_iff.mp eo
    split at eo
    · rename_i hl
      cases eo
      obtain ⟨a, vs, h1, h2, h3, h4⟩ := rp.ml e1
      refine ⟨_, h1, .inl ⟨rfl, _, .of h3⟩, ⟨H0, B, pn, A, env, r, rp, er, fun v H' s1 k1 => ?_⟩⟩
      obtain ⟨b, ws, rfl, hb, k⟩ := ROk.lst k1 ed
      refine ⟨a, b, vs, ws, rfl, rfl, s1 _ _ h3, hb, by rw [h4.len, k.len]; exact szl hl, ?_⟩
      exact q _ _ _ ((rp.mono s1).mut e1 h2 h1 (s1 _ _ h3) ((h4.ext (Ext.of s1)).app k))
    · cases eo
  · cases eo
theorem s_store (hN : X.N[i]? = some x) (hv : Vis X.env.scope x) (hk : PE X c (tX X.K g)) (he : PE X e (tX X.K h)) (hd : (x == ("__debug__" : Str)) = false := by decide) (hcd : (x == ("__classdict__" : Str)) = false := by decide)
    (hg : ∀ v, assign (.Subscript (.Name x p3) c p2) X.env v = (do
      let ov ← holding [v] (eval (.Name x p3) X.env)
      let iv ← holding [v, ov] (eval c X.env)
      standAt p2
      holding [v, ov, iv] (setItem ov iv v)
      release [v, ov, iv] []) := by intro _; rfl)
    (hs : swapsWithSole [.Subscript (.Name x p3) c p2] e pos.line X.env = pure false := by rfl) (hw : swappedStores [.Subscript (.Name x p3) c p2] e X.env = pure none := by rfl)
    (h1 : (assignEach [.Subscript (.Name x p3) c p2] X.env).map (·.2) = [assign (.Subscript (.Name x p3) c p2) X.env] := by rfl) :
    PS X (.Assign [.Subscript (.Name x p3) c p2] e pos) (tXS X.K (sStore i g h)) := ps_weak (ps_asg he (pg_sub (pe_var hN hv hd hcd) hk set_list hg) hs hw h1) fun E st H ⟨H0, B, pn, A, env, o, rp, eo, q⟩ => by
  obtain ⟨r, er, eo⟩ := Option.bind_eq_some_iff.mp eo
  obtain ⟨d, ed, eo⟩ := Option.bind_eq_some_iff.mp eo
  split at eo
  · rename_i ds e1
    obtain ⟨k, ek, eo⟩ := Option.bind_eq_some_iff.mp eo
    split at eo
    · rename_i n
      obtain ⟨l, el, eo⟩ := Option.map_eq_some_iff.mp eo
      cases eo
      obtain ⟨a, vs, h1, h2, h3, h4⟩ := rp.ml e1
      refine ⟨H0, B, pn, A, env, r, rp, er, fun v H' s1 k1 => ⟨_, h1, ⟨H0, B, pn, A, env, _, rp.mono s1, ek, fun w H2 s2 k2 => ?_⟩⟩⟩
      have s3 := s1.trans s2
      have k := (k1.mono s2).dat rp.odom ed
      refine ⟨a, vs, n, l, rfl, Dn.intv k2, s3 _ _ h3, by rw [h4.len]; exact el, ?_⟩
      exact q _ _ _ ((rp.mono s3).mut e1 h2 h1 (s3 _ _ h3) (DnL.set k l (h4.ext (Ext.of s3))))
    · cases eo
  · cases eo
end

/-! ### calls of defs -/
def R.arg : R → R
  | .fr ds => .ls ds
  | r => r
theorem ROk.arg {K : Fg} {O : AS} {H0 H : Hp} {v : V} {r : R} (k : ROk K O H0 H v r) : ROk K O H H v r.arg := by
  cases r with
  | im d => exact k
  | ls ds => exact k
  | sc ds => exact k
  | fr ds =>
    obtain ⟨a, vs, e1, e2, e3, e4⟩ := k
    exact ⟨a, vs, e1, e3, e4.anti fun b => .inl⟩
theorem RAll.arg {K : Fg} {O : AS} {H0 H : Hp} : ∀ {vs : List V} {rs : List R}, RAll K O H0 H vs rs → RAll K O H H vs (rs.map R.arg)
  | _, _, .nil => .nil
  | _, _, .cons h t => .cons h.arg (RAll.arg t)
def spF (K : Fg) (F : SemN) : Sp := fun vs H Q _ => ∃ (B : AS) (rs : List R) (r : R), (∀ a, B a → H a ≠ none) ∧ RAll K B H H vs rs ∧ F rs = some r ∧ ∀ v H', Same H H' → ROk K B H H' v r → Q v H'
/-- a def that may be called -/
def Cal (P : Program) (w : World) (K : Fg) (mg : Str → Option Value) (base : Heap) (k : Nat) (x : Str) (F : SemN) : Prop :=
  ∃ f fd ps, FnOk P w K mg base CX0 k f fd ps (spF K F) ∧ mg x = some (.ref f) ∧ PySem.W.keepIn K (.ref f) = true ∧ Binds K fd ps []
theorem Cal.mono {P : Program} {w : World} {K : Fg} {mg : Str → Option Value} {base : Heap} {j k : Nat} {x : Str} {F : SemN} (h : j ≤ k) (c : Cal P w K mg base j x F) : Cal P w K mg base k x F := by
  obtain ⟨f, fd, ps, a, b⟩ := c
  exact ⟨f, fd, ps, a.mono h, b⟩
def xCall (F : SemN) (g : XA) : XE := fun env => (g env).bind fun rs => F (rs.map R.arg)
section
variable {X : Cx} {x : Str} {p pos : Pos} {e : Expr} {es : List Expr} {g : XA} {F : SemN} {k : Nat}
theorem x_call (c : Cal X.prog X.w X.K X.mg X.base k x F) (hr : Room k X.A) (ha : PA X (e :: es) (tXA X.K g)) (hg : Gl X x := by rfl) (hdb : (x == ("__debug__" : Str)) = false := by decide)
    (he : starEach (e :: es) X.env = (false, eval e X.env) :: starEach es X.env := by rfl) (hpl : (backTo pos (starEach es X.env)).any (·.1) = false := by rfl) : PE X (.Call (.Name x p) (e :: es) [] pos) (tX X.K (xCall F g)) := by
  obtain ⟨f, fd, ps, a, b, c, d⟩ := c
  refine pe_weak (pe_call (E := E0) a hr hg b c d .nil pass0 ha hdb he hpl) fun st H Q ⟨H0, B, pn, A, env, r, rp, er, q⟩ => ?_
  obtain ⟨rs, ers, er⟩ := Option.bind_eq_some_iff.mp er
  refine ⟨H0, B, pn, A, env, rs, rp, ers, fun vs H1 s1 k1 => ?_⟩
  refine ⟨Ob B A, rs.map R.arg, r, (rp.mono s1).odom, ?_, er, fun v H' s2 k2 => q v H' (s1.trans s2) (k2.back s1)⟩
  rw [List.append_nil]
  exact k1.arg
end

/-! ### a def's body -/
def R.slot : R → Sl
  | .im d => .im d
  | .ls ds => .bo ds
  | .fr ds => .bo ds
  | .sc ds => .sc ds
def startE (n : Nat) (rs : List R) : Env := rs.map R.slot ++ List.replicate (n - rs.length) .no
def runF (n p : Nat) (m : XS) : SemN := fun rs => if rs.length = p then (m (startE n rs)).bind fun o => (match o with
  | .rt r => some r
  | .nx _ => some (.im .none)
  | _ => none) else none
theorem RAll.getS {K : Fg} {B : AS} {H : Hp} : ∀ {vs : List V} {rs : List R} {i : Nat} {s : Sl}, RAll K B H H vs rs → (rs.map R.slot)[i]? = some s → ∃ v, vs[i]? = some v ∧ SlOk K (Ob B fun _ => []) (Ow fun _ => []) H (some v) [] s
  | _, _, _, _, .nil, e => by cases e
  | _, _, 0, s, .cons (v := v) (r := r) h _, e => by
    have e' : r.slot = s := by simpa using e
    subst e'
    refine ⟨v, rfl, ?_⟩
    have hO : ∀ b, Ob B (fun _ => []) b → B b := fun b z => by
      rcases z with z | ⟨_, z⟩
      · exact z
      · cases z
    have hW : ∀ b, ¬ Ow (fun _ => []) b := fun b ⟨_, z⟩ => by cases z
    cases r with
    | im d => exact ⟨rfl, v, rfl, Dn.anti hO h⟩
    | ls ds =>
      obtain ⟨a, vs, e1, e2, e3⟩ := h
      exact ⟨rfl, a, vs, by rw [e1], hW a, e2, e3.anti hO⟩
    | fr ds =>
      obtain ⟨a, vs, e1, e2, e3, e4⟩ := h
      exact ⟨rfl, a, vs, by rw [e1], hW a, e3, e4.anti fun b z => .inl (hO b z)⟩
    | sc ds =>
      obtain ⟨a, vs, e1, e2, e3⟩ := h
      refine ⟨rfl, a, vs, by rw [e1], ?_, e3.anti hO⟩
      rcases sql_cases e2 with z | z
      · exact .inl ⟨hW a, z⟩
      · exact .inr z
  | _, _, i + 1, s, .cons _ t, e => by
    obtain ⟨v, h1, h2⟩ := RAll.getS (i := i) (s := s) t (by simpa using e)
    exact ⟨v, by simpa using h1, h2⟩
theorem start_rep {K : Fg} {B : AS} {H : Hp} {N : List Str} {vs : List V} {rs : List R} (hd : ∀ a, B a → H a ≠ none) (k : RAll K B H H vs rs) : Rep K H B ⟨[], []⟩ (fun _ => []) (startE N.length rs) (L2.start N vs) H := by
  refine ⟨?_, Same.refl H, hd, fun i a h => (by cases h), fun i a h => (by cases h), fun i j a h => (by cases h), fun i h => rfl, fun i s h => ?_, fun p h => (by cases h), fun p h => (by cases h)⟩
  · unfold L2.start startE
    rw [List.length_append, List.length_append, List.length_map, List.length_map, List.length_replicate, List.length_replicate, k.len]
  · unfold startE at h
    by_cases hi : i < rs.length
    · rw [List.getElem?_append_left (by rw [List.length_map]; exact hi)] at h
      obtain ⟨v, h1, h2⟩ := k.getS h
      have e : (L2.start N vs)[i]? = some (some v) := by
        unfold L2.start
        rw [List.getElem?_append_left (by rw [List.length_map, k.len]; exact hi), List.getElem?_map, h1]
        rfl
      rw [e]
      exact h2
    · rw [List.getElem?_append_right (by rw [List.length_map]; omega)] at h
      have e : s = .no := (List.mem_replicate.mp (List.mem_of_getElem? h)).2
      subst e
      rfl
section
variable {P : Program} {w : World} {K : Fg} {mg : Str → Option Value} {base : Heap}
theorem fn_ok {x qual : Str} {st : Stmt} {f : Addr} {fd : FuncData} {N ps : List Str} {k : Nat} {m : XS} (F : Fun K x qual st f fd) (S : FnScope N ps (defScope st))
    (hb : ∀ (cdv : Value) (A : Around) (outer : List PySem.Env) (s : Shared) (H : Hp) (E : XK), Room k (A.deeper (envOfC qual (defScope st) s.heap.objs.size f cdv)) → PSs (cxOf CX0 P w K mg base N qual (defScope st) f cdv A outer s H E).nox (defBody st) (tXS K m)) :
    FnOk P w K mg base CX0 (k + 1) f fd ps (spF K (runF N.length ps.length m)) := by
  refine F.ok S (fun vs H Q E h => ?_) (fun cdv A outer s H vs Q E hr h => ?_)
  · obtain ⟨B, rs, r, h1, h2, h3, h4⟩ := h
    unfold runF at h3
    split at h3
    · rename_i hl
      rw [h2.len]
      exact hl
    · cases h3
  · obtain ⟨B, rs, r, h1, h2, h3, h4⟩ := h
    refine ⟨_, hb cdv A outer s H E hr, ?_⟩
    unfold runF at h3
    split at h3
    · obtain ⟨o, eo, h3⟩ := Option.bind_eq_some_iff.mp h3
      refine ⟨H, B, ⟨[], []⟩, _, _, o, start_rep h1 h2, eo, ?_⟩
      cases o with
      | rt r' =>
        cases h3
        exact fun v H' s1 k1 => h4 v H' s1 k1
      | nx env =>
        cases h3
        exact fun st' H' A' rp => h4 _ H' rp.same .non
      | bk env => cases h3
      | ct env => cases h3
    · cases h3
end
end Ct

end
section
set_option maxRecDepth 100000
namespace Ct
open PySem PySem.Spec PyProof.Rows L2

/-! ### what is walked -/
theorem Rep.owned {K : Fg} {H0 H : Hp} {B : AS} {pn : Pins} {A : Ownr} {env : Env} {st : L2.St} {a : Addr} (r : Rep K H0 B pn A env st H) (h : Ow A a) : ∃ xs, H a = some (.lst xs) := by
  obtain ⟨i, h⟩ := h
  have hi : i < env.length := by
    refine Nat.lt_of_not_le fun z => ?_
    rw [r.out i z] at h
    cases h
  have q := r.slots i _ (List.getElem?_eq_getElem hi)
  cases e : env[i] <;> rw [e] at q
  · rw [show A i = [] from q] at h
    cases h
  · rw [q.1] at h
    cases h
  · rw [q.1] at h
    cases h
  · obtain ⟨b, vs, h1, h2, h3, h4⟩ := q
    rw [h1] at h
    rw [List.mem_singleton.mp h]
    exact ⟨vs, h3⟩
  · rw [q.1] at h
    cases h
def hoOf (k : Bool) (vs : List V) : HO := if k then .tup vs else .lst vs
/-- a sequence that is walked: whether it is a tuple, its items, the slots behind -/
abbrev XQ := Env → Option (Bool × List D × Env)
def tQ (K : Fg) (q : XQ) : TE := fun st H Q => ∃ H0 B pn A env k ds env', Rep K H0 B pn A env st H ∧ q env = some (k, ds, env') ∧
  ∀ a vs A' H', Same H H' → DnL K (Ob B A') H' vs ds → Rep K H0 B (pn.add a (hoOf k vs) vs ds) A' env' st H' → Q (.ref a) H'
def xqVar (i : Nat) : XQ := fun env => match env[i]? with
  | some (.ml ds) => some (false, ds, env.set i (.bo ds))
  | some (.bo ds) => some (false, ds, env)
  | some (.im (.list ds)) => some (false, ds, env)
  | some (.im (.tuple ds)) => some (true, ds, env)
  | _ => none
def xqE (f : XE) : XQ := fun env => (f env).bind fun r => match r with
  | .im (.list ds) => some (false, ds, env)
  | .im (.tuple ds) => some (true, ds, env)
  | .fr ds => some (false, ds, env)
  | _ => none
section
variable {X : Cx} {e : Expr} {f : XE} {pos : Pos} {x : Str}
theorem q_im {K : Fg} {H0 H : Hp} {B : AS} {pn : Pins} {A : Ownr} {env : Env} {st : L2.St} {v : V} {k : Bool} {ds : List D} {Q : VK} (rp : Rep K H0 B pn A env st H) (h : Dn K (Ob B A) H v (if k then .tuple ds else .list ds))
    (q : ∀ a vs A' H', Same H H' → DnL K (Ob B A') H' vs ds → Rep K H0 B (pn.add a (hoOf k vs) vs ds) A' env st H' → Q (.ref a) H') : Q v H := by
  cases k with
  | true =>
    cases h with
    | tup ha hk =>
      refine q _ _ A H (Same.refl H) hk (rp.pin (fun z => ?_) ha hk)
      obtain ⟨xs, z⟩ := rp.owned z
      rw [ha] at z
      cases z
  | false =>
    cases h with
    | lst hn ha hk => exact q _ _ A H (Same.refl H) hk (rp.pin (fun z => hn (.inr z)) ha hk)
theorem q_var (i : Nat) (hN : X.N[i]? = some x := by rfl) (hv : Vis X.env.scope x := by first | exact Or.inl rfl | exact Or.inr (Or.inl rfl) | exact Or.inr (Or.inr rfl)) (hd : (x == ("__debug__" : Str)) = false := by decide)
    (hcd : (x == ("__classdict__" : Str)) = false := by decide) : PE X (.Name x pos) (tQ X.K (xqVar i)) :=
  pe_weak (pe_var hN hv hd hcd) fun st H Q ⟨H0, B, pn, A, env, k, ds, env', rp, er, q⟩ => by
    unfold xqVar at er
    split at er
    · rename_i es e1
      cases er
      obtain ⟨a, vs, h1, h2, h3, h4⟩ := rp.borrow e1
      exact ⟨_, h1, q a vs _ H (Same.refl H) h3 h4⟩
    · rename_i es e1
      cases er
      obtain ⟨v, h1, h2⟩ := rp.var (i := i) (r := .ls ds) (by unfold xVar; rw [e1]; rfl)
      obtain ⟨_, a, vs, z1, z2, z3, z4⟩ := rp.slots i _ e1
      have e2 : st[i]? = some (some (.ref a)) := by
        rw [h1] at z1 ⊢
        exact congrArg some z1
      exact ⟨_, e2, q a vs A H (Same.refl H) z4 (rp.pin z2 z3 z4)⟩
    · rename_i es e1
      cases er
      obtain ⟨v, h1, h2⟩ := rp.var (i := i) (r := .im (.list ds)) (by unfold xVar; rw [e1]; rfl)
      exact ⟨v, h1, q_im (k := false) rp h2 q⟩
    · rename_i es e1
      cases er
      obtain ⟨v, h1, h2⟩ := rp.var (i := i) (r := .im (.tuple ds)) (by unfold xVar; rw [e1]; rfl)
      exact ⟨v, h1, q_im (k := true) rp h2 q⟩
    · cases er
theorem q_e (he : PE X e (tX X.K f)) : PE X e (tQ X.K (xqE f)) :=
  pe_weak he fun st H Q ⟨H0, B, pn, A, env, k, ds, env', rp, er, q⟩ => by
    obtain ⟨r, er1, er⟩ := Option.bind_eq_some_iff.mp er
    refine ⟨H0, B, pn, A, env, r, rp, er1, fun v H1 s1 k1 => ?_⟩
    split at er
    · cases er
      exact q_im (k := false) (rp.mono s1) k1 fun a vs A' H' s2 => q a vs A' H' (s1.trans s2)
    · cases er
      exact q_im (k := true) (rp.mono s1) k1 fun a vs A' H' s2 => q a vs A' H' (s1.trans s2)
    · cases er
      obtain ⟨a, vs, rfl, e2, e3, e4⟩ := k1
      have k4 := e4.anti (O' := Ob B A) fun b => .inl
      refine q a vs A H1 s1 k4 ((rp.mono s1).pin (fun ⟨i, z⟩ => rp.dom i a z e2) e3 k4)
    · cases er
end
/-- while the pins stand, it goes through ds -/
def WkD (K : Fg) (pn : Pins) (J : It) (ds : List D) : Prop := Walk J ds.length (fun H => ∀ p ∈ pn.ad, H p.1 = some p.2)
  (fun i H x H' => ∀ O d, ds[i]? = some d → (∀ p ∈ pn.kd, Dn K O H p.1 p.2) → Same H H' ∧ Dn K O H' x d)
abbrev XI := Env → Option (List D × Env)
def tXI (K : Fg) (q : XI) : TI := fun st H R => ∃ H0 B pn A env ds env', Rep K H0 B pn A env st H ∧ q env = some (ds, env') ∧
  ∀ J H' A' pn', Same H H' → Rep K H0 B pn' A' env' st H' → PSub pn pn' → WkD K pn' J ds → R J H'
def xiSeq (q : XQ) : XI := fun env => (q env).map fun t => t.2
theorem pi_weak {X : Cx} {tg iter : Expr} {w w' : TI} (h : PI X tg iter w) (k : ∀ st H R, w' st H R → w st H R) : PI X tg iter w' := ⟨fun pins s st H R I q => h.run pins s st H R I (k st H R q)⟩
theorem zip_mem {vs : List V} {ds : List D} {i : Nat} {x : V} {d : D} (h1 : vs[i]? = some x) (h2 : ds[i]? = some d) : (x, d) ∈ vs.zip ds := by
  have h : (vs.zip ds)[i]? = some (x, d) := by
    rw [List.getElem?_zip_eq_some]
    exact ⟨h1, h2⟩
  exact List.mem_of_getElem? h
theorem wk_list {K : Fg} {pn : Pins} {a : Addr} {vs : List V} {ds : List D} (hl : vs.length = ds.length) (ha : (a, HO.lst vs) ∈ pn.ad) (hk : ∀ p ∈ vs.zip ds, p ∈ pn.kd) : WkD K pn (Itl K a) ds := by
  unfold WkD
  rw [← hl]
  refine walk_list.mono (fun H h => .of (h _ ha)) fun i H x H' hi _ y O d hd h => ?_
  obtain ⟨rfl, hx⟩ := y
  exact ⟨Same.refl _, h _ (hk _ (zip_mem hx hd))⟩
theorem wk_tup {K : Fg} {pn : Pins} {a : Addr} {vs : List V} {ds : List D} (hl : vs.length = ds.length) (ha : (a, HO.tup vs) ∈ pn.ad) (hk : ∀ p ∈ vs.zip ds, p ∈ pn.kd) : WkD K pn (Itt K a) ds := by
  unfold WkD
  rw [← hl]
  refine walk_tup.mono (fun H h => .of (h _ ha)) fun i H x H' hi _ y O d hd h => ?_
  obtain ⟨rfl, hx⟩ := y
  exact ⟨Same.refl _, h _ (hk _ (zip_mem hx hd))⟩
/-- iter of a list or a tuple, whichever comes -/
def iAny (K : Fg) (tl : TE) : TI := fun st H R => tl st H fun x H1 => ∃ a, x = .ref a ∧ (((∃ xs, SqL K H1 a xs) ∧ R (Itl K a) H1) ∨ ((∃ xs, SqT K H1 a xs) ∧ R (Itt K a) H1))
section
variable {X : Cx} {tg l : Expr} {tl : TE}
theorem pi_any (hl : PE X l tl) : PI X tg l (iAny X.K tl) := by
  refine ⟨fun pins s st H R I h => ?_⟩
  refine thn (hl.run pins s st H _ I h) fun v s1 ⟨x, H1, I1, r1, a, ex, q1⟩ => ?_
  subst ex
  cases r1
  rcases q1 with ⟨⟨xs, hq⟩, q⟩ | ⟨⟨xs, hq⟩, q⟩
  · obtain ⟨its, _, p, _⟩ := I1.list hq
    exact wpAny_pyIter_list p.isList (pi_one (tk := s1.toks) I1 _ (turn_list a _) ⟨_, Heap.get?_push_size _ rfl, rfl, rfl⟩ q)
  · obtain ⟨its, _, p, _⟩ := I1.tuple hq
    exact wpAny_pyIter_tuple (show s1.heap.IsTuple a its.toArray from p) (pi_one (tk := s1.toks) I1 _ (turn_tuple a _) ⟨_, Heap.get?_push_size _ rfl, rfl, rfl⟩ q)
theorem i_seq {q : XQ} (h : PE X l (tQ X.K q)) : PI X tg l (tXI X.K (xiSeq q)) := pi_weak (pi_any h) fun st H R ⟨H0, B, pn, A, env, ds, env', rp, er, k⟩ => by
  obtain ⟨⟨kd, ds', env2⟩, e1, e2⟩ := Option.map_eq_some_iff.mp er
  cases e2
  refine ⟨H0, B, pn, A, env, kd, ds, env', rp, e1, fun a vs A' H' s1 k1 rp' => ⟨a, rfl, ?_⟩⟩
  cases kd with
  | true => exact .inr ⟨⟨vs, .of (rp'.pins _ List.mem_cons_self).2⟩, k _ H' A' _ s1 rp' (PSub.add ..) (wk_tup k1.len List.mem_cons_self fun p hp => List.mem_append_left _ hp)⟩
  | false => exact .inl ⟨⟨vs, .of (rp'.pins _ List.mem_cons_self).2⟩, k _ H' A' _ s1 rp' (PSub.add ..) (wk_list k1.len List.mem_cons_self fun p hp => List.mem_append_left _ hp)⟩
end
/-! ### range -/
def upTo (lo : Int) (n : Nat) : List D := (List.range n).map fun (k : Nat) => PyData.int (lo + (k : Int))
def byStep (lo c : Int) (n : Nat) : List D := (List.range n).map fun (k : Nat) => PyData.int (lo + (k : Int) * c)
theorem wk_range {K : Fg} {pn : Pins} {lo : Int} {n : Nat} : WkD K pn (Itr lo n) (upTo lo n) := by
  unfold WkD
  have e : (upTo lo n).length = n := by
    unfold upTo
    rw [List.length_map, List.length_range]
  rw [e]
  refine walk_range.mono (fun _ _ => trivial) fun i H x H' hi _ y O d hd h => ?_
  obtain ⟨rfl, rfl⟩ := y
  unfold upTo at hd
  rw [List.getElem?_map, List.getElem?_range hi] at hd
  cases hd
  exact ⟨Same.refl _, .int _⟩
theorem wk_rangeC {K : Fg} {pn : Pins} {lo c : Int} {n : Nat} : WkD K pn (Itc lo c n) (byStep lo c n) := by
  unfold WkD
  have e : (byStep lo c n).length = n := by
    unfold byStep
    rw [List.length_map, List.length_range]
  rw [e]
  refine walk_rangeC.mono (fun _ _ => trivial) fun i H x H' hi _ y O d hd h => ?_
  obtain ⟨rfl, rfl⟩ := y
  unfold byStep at hd
  rw [List.getElem?_map, List.getElem?_range hi] at hd
  cases hd
  exact ⟨Same.refl _, .int _⟩
def inRg (i : Int) : Bool := decide (-1000000 ≤ i) && decide (i ≤ 1000000)
def xiR1 (g : XA) : XI := fun env => (g env).bind fun rs => match rs with
  | [.im (.int j)] => if inRg j then some (upTo 0 j.toNat, env) else none
  | _ => none
def xiR2 (g : XA) : XI := fun env => (g env).bind fun rs => match rs with
  | [.im (.int i), .im (.int j)] => if inRg i && inRg j then some (upTo i (j - i).toNat, env) else none
  | _ => none
theorem inRg_ok {i : Int} (h : inRg i = true) : -1000000 ≤ i ∧ i ≤ 1000000 := by
  unfold inRg at h
  simpa using h
section
variable {X : Cx} {tg a b c : Expr} {g : XA} {p pos : Pos}
theorem i_r1 (hg : Gl X "range") (hm : X.mg "range" = none) (ha : PA X [a] (tXA X.K g)) (hs : starEach [a] X.env = [(false, eval a X.env)] := by rfl) : PI X tg (.Call (.Name "range" p) [a] [] pos) (tXI X.K (xiR1 g)) := pi_weak (pi_range1 hg hm ha hs) fun st H R ⟨H0, B, pn, A, env, ds, env', rp, er, k⟩ => by
  obtain ⟨rs, e1, er⟩ := Option.bind_eq_some_iff.mp er
  refine ⟨H0, B, pn, A, env, rs, rp, e1, fun vs H1 s1 k1 => ?_⟩
  split at er
  · rename_i j
    split at er
    · rename_i hc
      cases er
      obtain ⟨v, rfl, k2⟩ := k1.one
      have z := inRg_ok hc
      exact ⟨j, by rw [Dn.intv k2], by omega, by omega, k _ H1 A pn s1 (rp.mono s1) (PSub.refl pn) wk_range⟩
    · cases er
  · cases er
theorem i_r2 (hg : Gl X "range") (hm : X.mg "range" = none) (ha : PA X [a, b] (tXA X.K g)) (hs : starEach [a, b] X.env = [(false, eval a X.env), (false, eval b X.env)] := by rfl) (hs2 : starEach [b] X.env = [(false, eval b X.env)] := by rfl) : PI X tg (.Call (.Name "range" p) [a, b] [] pos) (tXI X.K (xiR2 g)) := pi_weak (pi_range2 hg hm ha hs hs2) fun st H R ⟨H0, B, pn, A, env, ds, env', rp, er, k⟩ => by
  obtain ⟨rs, e1, er⟩ := Option.bind_eq_some_iff.mp er
  refine ⟨H0, B, pn, A, env, rs, rp, e1, fun vs H1 s1 k1 => ?_⟩
  split at er
  · rename_i i j
    split at er
    · rename_i hc
      cases er
      obtain ⟨v, w, rfl, k2, k3⟩ := k1.two
      obtain ⟨z1, z2⟩ := Bool.and_eq_true_iff.mp hc
      have z1 := inRg_ok z1
      have z2 := inRg_ok z2
      exact ⟨i, j, by rw [Dn.intv k2, Dn.intv k3], ⟨by omega, by omega, by omega, by omega⟩, k _ H1 A pn s1 (rp.mono s1) (PSub.refl pn) wk_range⟩
    · cases er
  · cases er
end
/-! ### zip of two lists, of two tuples -/
def pairD (x y : D) : D := .tuple [x, y]
def xiZip (q1 q2 : XQ) : XI := fun env => (q1 env).bind fun t1 => (q2 t1.2.2).bind fun t2 => if t1.1 = t2.1 then some (List.zipWith pairD t1.2.1 t2.2.1, t2.2.2) else none
theorem pair_new {K : Fg} {O : AS} {H : Hp} {T : Addr} {x y : V} {d e : D} (hT : H T = none) (h1 : Dn K O H x d) (h2 : Dn K O H y e) : Dn K O (upd H T (.tup [x, y])) (.ref T) (pairD d e) := new_tup hT (.cons h1 (.cons h2 .nil))
theorem wk_pair {K : Fg} {pn : Pins} {J : It} {xs ys : List V} {ds es : List D} {G : Hp → Prop} {n : Nat} (hn : n = min xs.length ys.length) (w : Walk J n G (YPair (fun i => xs[i]?) (fun i => ys[i]?))) (h1 : xs.length = ds.length) (h2 : ys.length = es.length)
    (hG : ∀ H, (∀ p ∈ pn.ad, H p.1 = some p.2) → G H) (hx : ∀ p ∈ xs.zip ds, p ∈ pn.kd) (hy : ∀ p ∈ ys.zip es, p ∈ pn.kd) : WkD K pn J (List.zipWith pairD ds es) := by
  unfold WkD
  rw [List.length_zipWith, ← h1, ← h2, ← hn]
  refine w.mono hG fun i H x H' hi _ y O d hd h => ?_
  obtain ⟨T, x1, y1, rfl, hT, rfl, f1, f2⟩ := y
  rw [List.getElem?_zipWith_eq_some] at hd
  obtain ⟨d1, d2, e1, e2, rfl⟩ := hd
  exact ⟨same_new hT, pair_new hT (h _ (hx _ (zip_mem f1 e1))) (h _ (hy _ (zip_mem f2 e2)))⟩
theorem walk_zipT {K : Fg} {a b : Addr} {xs ys : List V} : Walk (RZ.ItzT K a b) (min xs.length ys.length) (fun H => SqT K H a xs ∧ SqT K H b ys) (YPair (fun i => xs[i]?) (fun i => ys[i]?)) := by
  refine ⟨fun i H hi q => ?_, fun H q => ⟨xs, ys, q.1, q.2, by omega⟩, fun i H v H' hi q y => ?_⟩
  · have l1 : i < xs.length := Nat.lt_of_lt_of_le hi (Nat.min_le_left _ _)
    have l2 : i < ys.length := Nat.lt_of_lt_of_le hi (Nat.min_le_right _ _)
    exact ⟨xs, ys, _, _, q.1, q.2, List.getElem?_eq_getElem l1, List.getElem?_eq_getElem l2⟩
  · obtain ⟨T, x, z, t1, t2, t3, t4, t5⟩ := y
    exact ⟨T, x, z, t1, t2, t3, t4 xs q.1, t5 ys q.2⟩
section
variable {X : Cx} {a b : Expr} {q1 q2 : XQ} {p pos tpos : Pos} {elts : List Expr} {kk : Nat}
theorem i_zip (hg : Gl X "zip") (hm : X.mg "zip" = none) (ha : PE X a (tQ X.K q1)) (hb : PE X b (tQ X.K q2)) (hs0 : starEach [b] X.env = (false, eval b X.env) :: starEach [] X.env := by rfl)
    (hs : starEach [a, b] X.env = (false, eval a X.env) :: starEach [b] X.env := by rfl) (hpl : (backTo pos (starEach [b] X.env)).any (·.1) = false := by rfl) :
    PI X (.Tuple elts kk tpos) (.Call (.Name "zip" p) [a, b] [] pos) (tXI X.K (xiZip q1 q2)) := pi_weak (RZ.pi_zipA hg hm (pa_cons ha (pa_cons hb pa_nil hs0) hs) hs hpl) fun st H R ⟨H0, B, pn, A, env, ds, env', rp, er, k⟩ => by
  obtain ⟨⟨k1, d1, env1⟩, e1, er⟩ := Option.bind_eq_some_iff.mp er
  obtain ⟨⟨k2, d2, env2⟩, e2, er⟩ := Option.bind_eq_some_iff.mp er
  split at er
  · rename_i hk
    cases er
    have hk' : k1 = k2 := hk
    subst hk'
    refine ⟨H0, B, pn, A, env, k1, d1, env1, rp, e1, fun a' vs A1 H1 s1 n1 rp1 => ⟨H0, B, _, A1, env1, k1, d2, _, rp1, e2, fun b' ws A2 H2 s2 n2 rp2 => ⟨a', b', vs, ws, rfl, ?_⟩⟩⟩
    have sub : PSub pn ((pn.add a' (hoOf k1 vs) vs d1).add b' (hoOf k1 ws) ws d2) := (PSub.add ..).trans (PSub.add ..)
    have m1 : (a', hoOf k1 vs) ∈ ((pn.add a' (hoOf k1 vs) vs d1).add b' (hoOf k1 ws) ws d2).ad := List.mem_cons_of_mem _ List.mem_cons_self
    have m2 : (b', hoOf k1 ws) ∈ ((pn.add a' (hoOf k1 vs) vs d1).add b' (hoOf k1 ws) ws d2).ad := List.mem_cons_self
    have c1 : ∀ p ∈ vs.zip d1, p ∈ ((pn.add a' (hoOf k1 vs) vs d1).add b' (hoOf k1 ws) ws d2).kd := fun p hp => List.mem_append_right _ (List.mem_append_left _ hp)
    have c2 : ∀ p ∈ ws.zip d2, p ∈ ((pn.add a' (hoOf k1 vs) vs d1).add b' (hoOf k1 ws) ws d2).kd := fun p hp => List.mem_append_left _ hp
    cases k1 with
    | false => exact .inl ⟨.of (rp2.pins _ m1).2, .of (rp2.pins _ m2).2, k _ H2 A2 _ (s1.trans s2) rp2 sub (wk_pair rfl (walk_zip rfl) n1.len n2.len (fun H h => ⟨.of (h _ m1), .of (h _ m2)⟩) c1 c2)⟩
    | true => exact .inr ⟨.of (rp2.pins _ m1).2, .of (rp2.pins _ m2).2, k _ H2 A2 _ (s1.trans s2) rp2 sub (wk_pair rfl walk_zipT n1.len n2.len (fun H h => ⟨.of (h _ m1), .of (h _ m2)⟩) c1 c2)⟩
  · cases er
end

/-! ### targets -/
abbrev XG := Env → D → Option Env
def tXG (K : Fg) (g : XG) : TG := fun v st H Q => ∃ H0 B pn A env d env', Rep K H0 B pn A env st H ∧ Dn K (Ob B A) H v d ∧ g env d = some env' ∧ ∀ st' A', Rep K H0 B pn A' env' st' H → Q st' H
def gOne (i : Nat) : XG := fun env d => if i < env.length then some (env.set i (.im d)) else none
def gTwo (i j : Nat) : XG := fun env d => match d with
  | .tuple [x, y] => if i < env.length ∧ j < env.length then some ((env.set i (.im x)).set j (.im y)) else none
  | _ => none
theorem pg_weak {X : Cx} {e : Expr} {t t' : TG} (h : PG X e t) (w : ∀ v st H Q, t' v st H Q → t v st H Q) : PG X e t' := ⟨fun pins s st H v u Q I r q => h.run pins s st H v u Q I r (w v st H Q q)⟩
section
variable {X : Cx} {x y : Str} {i j : Nat} {pos p1 p2 : Pos} {kk : Nat}
theorem g_one (hN : X.N.Nodup) (hi : X.N[i]? = some x) (hx : Loc X.env.scope x) (hf : X.fn x = true ∨ X.env.scope.names.lookup x = some .local := by first | exact .inl rfl | exact .inr rfl | assumption) : PG X (.Name x pos) (tXG X.K (gOne i)) :=
  pg_weak (pg_name hN hi hx hf) fun v st H Q ⟨H0, B, pn, A, env, d, env', rp, k, e, q⟩ => by
    unfold gOne at e
    split at e
    · cases e
      exact q _ _ (rp.setIm k)
    · cases e
theorem g_two (hc : X.calm = true) (hN : X.N.Nodup) (hi : X.N[i]? = some x) (hj : X.N[j]? = some y) (hx : Loc X.env.scope x) (hy : Loc X.env.scope y) (hf : X.fn x = true ∨ X.env.scope.names.lookup x = some .local := by first | exact .inl rfl | exact .inr rfl | assumption)
    (hf2 : X.fn y = true ∨ X.env.scope.names.lookup y = some .local := by first | exact .inl rfl | exact .inr rfl | assumption)
    (hs : (assignEach [.Name x p1, .Name y p2] X.env).map (·.2) = assign (.Name x p1) X.env :: (assignEach [.Name y p2] X.env).map (·.2) := by rfl) (hs2 : (assignEach [.Name y p2] X.env).map (·.2) = assign (.Name y p2) X.env :: (assignEach [] X.env).map (·.2) := by rfl)
    (hn : (assignEach [.Name x p1, .Name y p2] X.env).length = 2 := by rfl) (hst : (assignEach [.Name x p1, .Name y p2] X.env).findIdx? (·.1) = none := by rfl) : PG X (.Tuple [.Name x p1, .Name y p2] kk pos) (tXG X.K (gTwo i j)) :=
  pg_weak (pg_tup hc (pgs_cons (pg_name (pos := p1) hN hi hx hf) (pgs_cons (pg_name (pos := p2) hN hj hy hf2) pgs_nil hs2) hs) hn hst) fun v st H Q ⟨H0, B, pn, A, env, d, env', rp, k, e, q⟩ => by
    unfold gTwo at e
    split at e
    · split at e
      · cases e
        cases k with
        | tup ha hk =>
          cases hk with
          | cons h1 t =>
            cases t with
            | cons h2 t =>
              cases t
              refine ⟨_, _, rfl, .of ha, rfl, _, _, rfl, _, _, rfl, rfl, ?_⟩
              exact q _ _ ((rp.setIm h1).setIm (h2.anti fun b => ob_nil))
      · cases e
    · cases e
end

/-! ### for -/
def forL (g : XG) (body : XS) : List D → Env → Option Out
  | [], env => some (.nx env)
  | d :: ds, env => (g env d).bind fun e1 => (body e1).bind fun o => match o with
    | .nx e2 => forL g body ds e2
    | .ct e2 => forL g body ds e2
    | .bk e2 => some (.nx e2)
    | .rt r => some (.rt r)
def sFor (q : XI) (g : XG) (body : XS) : XS := fun env => (q env).bind fun t => forL g body t.1 t.2
section
variable {X : Cx} {tg iter : Expr} {body : List Stmt} {q : XI} {g : XG} {b : XS} {pos : Pos}
theorem OutOk.unpin {K : Fg} {H0 : Hp} {B : AS} {pn pn' : Pins} {E : Ends} {o : Out} (s : PSub pn pn') (h : OutOk K H0 B pn E o) : OutOk K H0 B pn' E o := by
  cases o with
  | nx env => exact fun st H A rp => h st H A (rp.unpin s)
  | bk env => exact fun st H A rp => h st H A (rp.unpin s)
  | ct env => exact fun st H A rp => h st H A (rp.unpin s)
  | rt r => exact h
theorem s_for (hi : PI X tg iter (tXI X.K q)) (hg : PG X tg (tXG X.K g)) (hb : PSs X body (tXS X.K b)) (hp : PassesOwn (model X.prog X.w) X.A X.env X.xe := by exact PassesOwn.never) (hc : X.calm = true := by rfl)
    (hs : ∀ x, foldedSetIterable iter X.env x = pure x := by intro _; rfl) : PS X (.For tg iter body [] pos) (tXS X.K (sFor q g b)) := ps_weak (ps_for hp hc hi hg hb hs) fun E st H ⟨H0, B, pn, A, env, o, rp, eo, qo⟩ => by
  obtain ⟨⟨ds, env'⟩, e1, eo⟩ := Option.bind_eq_some_iff.mp eo
  refine ⟨H0, B, pn, A, env, ds, env', rp, e1, fun J H1 A1 pn' s1 rp1 sub wk => ?_⟩
  have qo' := qo.unpin sub
  refine for_it wk (fun i st' H' => ∃ A' env', Rep X.K H0 B pn' A' env' st' H' ∧ forL g b (ds.drop i) env' = some o) ⟨A1, env', rp1, eo⟩ (fun i st' H' _ ⟨A', env2, rp2, _⟩ p hp => (rp2.pins p hp).2) (fun i x st' H' H2 hi ⟨A', env2, rp2, e2⟩ y => ?_) fun st' H' ⟨A', env2, rp2, e2⟩ => ?_
  · have hd : ds[i]? = some ds[i] := List.getElem?_eq_getElem hi
    obtain ⟨s2, k2⟩ := y _ _ hd rp2.keep
    rw [List.drop_eq_getElem_cons hi] at e2
    obtain ⟨env3, e3, e2⟩ := Option.bind_eq_some_iff.mp e2
    obtain ⟨o2, e4, e2⟩ := Option.bind_eq_some_iff.mp e2
    refine ⟨H0, B, pn', A', env2, ds[i], env3, rp2.mono s2, k2, e3, fun st3 A3 rp3 => ⟨H0, B, pn', A3, env3, o2, rp3, e4, ?_⟩⟩
    cases o2 with
    | nx env4 => exact fun st4 H4 A4 rp4 => ⟨A4, env4, rp4, e2⟩
    | ct env4 => exact fun st4 H4 A4 rp4 => ⟨A4, env4, rp4, e2⟩
    | bk env4 =>
      cases e2
      exact qo'
    | rt r =>
      cases e2
      exact qo'
  · rw [List.drop_length] at e2
    cases e2
    exact qo' st' H' A' rp2
end

/-! ### while -/
/-- at most n turns -/
def whileN (c : XE) (body : XS) : Nat → Env → Option Out
  | 0, _ => none
  | n + 1, env => (c env).bind fun x => match x with
    | .im (.bool false) => some (.nx env)
    | .im (.bool true) => (body env).bind fun o => (match o with
      | .nx e2 => whileN c body n e2
      | .ct e2 => whileN c body n e2
      | .bk e2 => some (.nx e2)
      | .rt r => some (.rt r))
    | _ => none
def sWhile (c : XE) (body : XS) : XS := fun env => whileN c body 100000 env
section
variable {X : Cx} {c : Expr} {body : List Stmt} {f : XE} {b : XS} {pos : Pos}
theorem s_while (hc : PT X c (tXT X.K f)) (hb : PSs X body (tXS X.K b)) (hp : PassesOwn (model X.prog X.w) X.A X.env X.xe := by exact PassesOwn.never) : PS X (.While c body [] pos) (tXS X.K (sWhile f b)) := ps_weak (ps_while hp hc hb) fun E st H ⟨H0, B, pn, A, env, o, rp, eo, qo⟩ => by
  refine ⟨fun m st' H' => ∃ A' env', Rep X.K H0 B pn A' env' st' H' ∧ whileN f b m env' = some o, ⟨_, A, env, rp, eo⟩, fun m st' H' ⟨A', env', rp', e'⟩ => ?_⟩
  cases m with
  | zero => cases e'
  | succ m =>
    obtain ⟨x, ex, e'⟩ := Option.bind_eq_some_iff.mp e'
    split at e'
    · cases e'
      exact ⟨H0, B, pn, A', env', false, rp', ex, fun H1 s1 => iteF (qo _ _ A' (rp'.mono s1))⟩
    · obtain ⟨o2, e4, e'⟩ := Option.bind_eq_some_iff.mp e'
      refine ⟨H0, B, pn, A', env', true, rp', ex, fun H1 s1 => iteT ⟨fun st2 H2 => ∃ A2 env2, Rep X.K H0 B pn A2 env2 st2 H2 ∧ whileN f b m env2 = some o, fun st2 H2 ⟨A2, env2, rp2, e2⟩ => ⟨m, Nat.lt_succ_self m, A2, env2, rp2, e2⟩, H0, B, pn, A', env', o2, rp'.mono s1, e4, ?_⟩⟩
      cases o2 with
      | nx env4 => exact fun st4 H4 A4 rp4 => ⟨A4, env4, rp4, e'⟩
      | ct env4 => exact fun st4 H4 A4 rp4 => ⟨A4, env4, rp4, e'⟩
      | bk env4 =>
        cases e'
        exact qo
      | rt r =>
        cases e'
        exact qo
    · cases e'
end
end Ct

end
section
set_option maxRecDepth 100000
namespace Ct
open PySem PySem.Spec PyProof.Rows L2

def Sl.bor : Sl → Sl
  | .ml ds => .bo ds
  | s => s
def bor (env : Env) : Env := env.map Sl.bor
/-- all own lists are only looked at from here on -/
theorem Rep.freeze {K : Fg} {H0 H : Hp} {B : AS} {pn : Pins} {A : Ownr} {env : Env} {st : L2.St} (r : Rep K H0 B pn A env st H) : Rep K H0 (Ob B A) pn (fun _ => []) (bor env) st H := by
  have hO : ∀ b, Ob (Ob B A) (fun _ => []) b → Ob B A b := fun b z => by
    rcases z with z | ⟨_, z⟩
    · exact z
    · cases z
  have hW : ∀ b, ¬ Ow (fun _ => []) b := fun b ⟨_, z⟩ => by cases z
  refine ⟨?_, r.same, r.odom, fun i a h => (by cases h), fun i a h => (by cases h), fun i j a h => (by cases h), fun i h => rfl, fun i s h => ?_, fun p hp => ⟨hW _, (r.pins p hp).2⟩, fun p hp => (r.keep p hp).anti hO⟩
  · unfold bor
    rw [List.length_map, r.len]
  · unfold bor at h
    rw [List.getElem?_map] at h
    obtain ⟨s', e1, e2⟩ := Option.map_eq_some_iff.mp h
    subst e2
    have q := r.slots i s' e1
    cases s' with
    | no => rfl
    | im d =>
      obtain ⟨_, x, h2, h3⟩ := q
      exact ⟨rfl, x, h2, h3.anti hO⟩
    | bo ds =>
      obtain ⟨_, a, vs, h2, h3, h4, h5⟩ := q
      exact ⟨rfl, a, vs, h2, hW a, h4, h5.anti hO⟩
    | sc ds =>
      obtain ⟨_, a, vs, h2, h3, h4⟩ := q
      exact ⟨rfl, a, vs, h2, h3.anti fun b z => (hW b z).elim, h4.anti hO⟩
    | ml ds =>
      obtain ⟨a, vs, _, h2, h3, h4⟩ := q
      exact ⟨rfl, a, vs, h2, hW a, h3, h4.anti hO⟩
/-- a new object that nothing knows is barred -/
theorem Rep.bar {K : Fg} {H0 H1 H : Hp} {B : AS} {pn : Pins} {A : Ownr} {env : Env} {st : L2.St} {p : Addr} (r : Rep K H0 B pn A env st H1) (hp : H1 p = none) (s : Same H1 H) (hd : H p ≠ none) : Rep K H0 (fun b => B b ∨ b = p) pn A env st H := by
  have r2 := r.mono s
  have hO : ∀ b, Ob (fun b => B b ∨ b = p) A b → Ob B A b ∨ H1 b = none := fun b z => by
    rcases z with (z | z) | z
    · exact .inl (.inl z)
    · rw [z]
      exact .inr hp
    · exact .inl (.inr z)
  refine ⟨r2.len, r2.same, fun a h => ?_, r2.new, r2.dom, r2.disj, r2.out, fun i s' h => ((r.slots i s' h).wide hO fun b => .inl).mono s, r2.pins, fun q hq => ((r.keep q hq).wide hO).ext (Ext.of s)⟩
  rcases h with h | h
  · exact r2.bdom a h
  · rw [h]
    exact hd
theorem Rep.wipesN {K : Fg} {H0 H : Hp} {B : AS} {pn : Pins} {env : Env} {st : L2.St} : ∀ (is : List Nat) {A : Ownr}, Rep K H0 B pn A env st H → ∃ A', Rep K H0 B pn A' (wipeE is env) (L2.wipe st is) H
  | [], A, r => ⟨A, r⟩
  | i :: is, A, r => by
    obtain ⟨A', r'⟩ := Rep.wipesN is r
    exact ⟨_, r'.wipeN⟩
def compL (g : XG) (t f : XE) (env : Env) : List D → Option (List D)
  | [] => some []
  | d :: ds => (g env d).bind fun e1 => (t e1).bind fun b => match b with
    | .im (.bool true) => (f e1).bind fun r => r.dat?.bind fun y => (compL g t f env ds).map (y :: ·)
    | .im (.bool false) => compL g t f env ds
    | _ => none
def xComp (vs : List Nat) (q : XI) (g : XG) (t f : XE) : XE := fun env => (q (bor env)).bind fun u => if u.1.length ≤ 50000 then (compL g t f (wipeE vs u.2) u.1).map .fr else none
/-- what a target does, in the layer's own words -/
def TgOk (K : Fg) (vs : List Nat) (g : XG) (tg : TG) : Prop := ∀ (H0 H : Hp) (B : AS) (pn : Pins) (A : Ownr) (env : Env) (st : L2.St) (v : V) (d : D) (env' : Env) (Q : L2.St → Hp → Prop), Rep K H0 B pn A env (L2.wipe st vs) H → Dn K (Ob B A) H v d → g env d = some env' →
  (∀ st' A', Rep K H0 B pn A' env' st' H → L2.wipe st' vs = L2.wipe st vs → Q st' H) → tg v (L2.wipe st vs) H Q
theorem comp_run {K : Fg} {vs : List Nat} {q : XI} {g : XG} {t f : XE} {tg : TG} (hg : TgOk K vs g tg) {st : L2.St} {H : Hp} {Q : VK} (h : tX K (xComp vs q g t f) st H Q) : tLc (tXI K q) tg (tXT K t) (tX K f) vs st H Q := by
  obtain ⟨H0, B, pn, A, env, r, rp, er, h⟩ := h
  obtain ⟨⟨ds, env'⟩, e1, er⟩ := Option.bind_eq_some_iff.mp er
  split at er
  · rename_i hlen
    obtain ⟨out, e2, er⟩ := Option.map_eq_some_iff.mp er
    cases er
    refine ⟨H0, Ob B A, pn, _, bor env, ds, env', rp.freeze, e1, fun J H1 A1 pn' s1 rp1 sub wk p hp => ?_⟩
    obtain ⟨A2, rp2⟩ := rp1.wipesN vs
    refine lc_it wk (fun i H' => Same H1 H' ∧ ∃ acc ys rest, H' p = some (.lst acc) ∧ DnL K (fun b => Ob B A b ∨ b = p) H' acc ys ∧ acc.length ≤ i ∧ compL g t f (wipeE vs env') (ds.drop i) = some rest ∧ ys ++ rest = out)
      ⟨same_new hp, [], [], out, upd_same, .nil, Nat.zero_le _, e2, rfl⟩ (fun i H' _ ⟨s2, _⟩ z hz => s2 _ _ (rp2.pins z hz).2) (fun i x H' H2 hi ⟨s2, acc, ys, rest, h1, h2, h3, h4, h5⟩ y => ?_) fun H' ⟨s2, acc, ys, rest, h1, h2, h3, h4, h5⟩ => ?_
    · have rp3 := rp2.bar hp s2 (by rw [h1]; exact fun z => nomatch z)
      have hd : ds[i]? = some ds[i] := List.getElem?_eq_getElem hi
      obtain ⟨s3, k3⟩ := y _ _ hd rp3.keep
      rw [List.drop_eq_getElem_cons hi] at h4
      obtain ⟨env3, e3, h4⟩ := Option.bind_eq_some_iff.mp h4
      obtain ⟨b, e4, h4⟩ := Option.bind_eq_some_iff.mp h4
      refine hg _ _ _ _ _ _ _ _ _ _ _ (rp3.mono s3) k3 e3 fun st' A' rp4 hw => ⟨hw, ?_⟩
      split at h4
      · obtain ⟨r, e5, h4⟩ := Option.bind_eq_some_iff.mp h4
        obtain ⟨yd, e6, h4⟩ := Option.bind_eq_some_iff.mp h4
        obtain ⟨rest', e7, h4⟩ := Option.map_eq_some_iff.mp h4
        refine ⟨_, _, _, _, _, true, rp4, e4, fun H3 s4 => iteT ⟨_, _, _, _, _, r, rp4.mono s4, e5, fun w H4 s5 k5 => ?_⟩⟩
        have s6 : Same H' H4 := (s3.trans s4).trans s5
        have hk : Dn K (fun b => Ob B A b ∨ b = p) H4 w yd := (k5.dat (rp4.mono s4).odom e6).anti fun b z => .inl z
        refine ⟨acc, s6 _ _ h1, szlt (by have z : ds.length ≤ 50000 := hlen; omega), ?_, acc ++ [w], ys ++ [yd], rest', upd_same, ?_, ?_, e7, ?_⟩
        · intro a o ha
          rw [upd_ne (ne_of_none ha hp)]
          exact s6 _ _ (s2 _ _ ha)
        · have ex : Ext (fun b => Ob B A b ∨ b = p) H4 (upd H4 p (.lst (acc ++ [w]))) := fun a o ha => by
            by_cases z : a = p
            · subst z
              rw [s6 _ _ h1] at ha
              cases ha
              exact .inr ⟨.inr rfl, rfl⟩
            · exact .inl (by rw [upd_ne z]; exact ha)
          exact DnL.ext ex ((h2.ext (Ext.of s6)).app (.cons hk .nil))
        · rw [List.length_append]
          show acc.length + 1 ≤ i + 1
          omega
        · rw [← h5, ← h4, List.append_assoc]
          rfl
      · refine ⟨_, _, _, _, _, false, rp4, e4, fun H3 s4 => iteF ?_⟩
        have s6 : Same H' H3 := s3.trans s4
        exact ⟨s2.trans s6, acc, ys, rest, s6 _ _ h1, h2.ext (Ext.of s6), by omega, h4, h5⟩
      · cases h4
    · rw [List.drop_length] at h4
      cases h4
      rw [List.append_nil] at h5
      subst h5
      exact h _ H' (s1.trans s2) ⟨p, acc, rfl, s1.free hp, h1, h2⟩
  · cases er
theorem TgOk.one {K : Fg} {i : Nat} : TgOk K [i] (gOne i) (gName i) := fun H0 H B pn A env st v d env' Q rp k e q => by
  unfold gOne at e
  split at e
  · cases e
    refine q _ _ (rp.setIm k) ?_
    show (((st.set i none).set i (some v)).set i none) = st.set i none
    rw [List.set_set, List.set_set]
  · cases e
theorem TgOk.two {K : Fg} {i j : Nat} : TgOk K [i, j] (gTwo i j) (gTup K 2 (gCons (gName i) (gCons (gName j) gNil))) := fun H0 H B pn A env st v d env' Q rp k e q => by
  unfold gTwo at e
  split at e
  · split at e
    · cases e
      cases k with
      | tup ha hk =>
        cases hk with
        | cons h1 t =>
          cases t with
          | cons h2 t =>
            cases t
            refine ⟨_, _, rfl, .of ha, rfl, _, _, rfl, _, _, rfl, rfl, q _ _ ((rp.setIm h1).setIm (h2.anti fun b => ob_nil)) ?_⟩
            show ((((((st.set j none).set i none).set i _).set j _).set j none).set i none) = (st.set j none).set i none
            by_cases z : i = j
            · subst z
              simp only [List.set_set]
            · rw [List.set_set, List.set_set, List.set_comm _ _ (Ne.symm z), List.set_set, List.set_comm _ _ z, List.set_set]
    · cases e
  · cases e
/-- the tests of a clause -/
theorem t_none {X : Cx} : PTs X [] (tXT X.K (xC (.bool true))) := ⟨fun pins s st H Q I ⟨H0, B, pn, A, env, b, rp, er, q⟩ => by
  cases er
  exact pts_nil.run pins s st H Q I (q H (Same.refl H))⟩
theorem t_one {X : Cx} {c : Expr} {f : XE} (h : PT X c (tXT X.K f)) : PTs X [c] (tXT X.K f) := pts_one h
section
variable {X : Cx} {elt iter : Expr} {ifs : List Expr} {scope : Scope} {pos spos : Pos} {q : XI} {t f : XE}
theorem x_comp1 {x : Str} {i : Nat} {px : Pos} (hN : X.N.Nodup) (hi : PI X (.Name x px) iter (tXI X.K q)) (ok : BlkOk X.N X.env.scope scope [(x, i)])
    (hg : ∀ (s : Shared) (H : Hp) (C : Addr) (cl : List (Str × Addr)) (fp : List Addr), PG (X.blk s H scope (compEnvC scope cl C X.env) fp) (.Name x px) (gName i)) (ht : ∀ (s : Shared) (H : Hp) (C : Addr) (cl : List (Str × Addr)) (fp : List Addr), PTs (X.blk s H scope (compEnvC scope cl C X.env) fp) ifs (tXT X.K t))
    (he : ∀ (s : Shared) (H : Hp) (C : Addr) (cl : List (Str × Addr)) (fp : List Addr), PE (X.blk s H scope (compEnvC scope cl C X.env) fp) elt (tX X.K f)) (hc : X.calm = true := by rfl) (hs : ∀ x, foldedSetIterable iter X.env x = pure x := by intro _; rfl) :
    PE X (.ListComp elt [⟨.Name x px, iter, ifs, 0⟩] scope pos) (tX X.K (xComp [i] q (gOne i) t f)) := pe_weak (pe_lc hc hN hi ok hg ht he hs) fun st H Q h => comp_run TgOk.one h
theorem x_comp2 {x y : Str} {i j kk : Nat} {px py pt : Pos} (hN : X.N.Nodup) (hi : PI X (.Tuple [.Name x px, .Name y py] kk pt) iter (tXI X.K q)) (ok : BlkOk X.N X.env.scope scope [(x, i), (y, j)])
    (hg : ∀ (s : Shared) (H : Hp) (C : Addr) (cl : List (Str × Addr)) (fp : List Addr), PG (X.blk s H scope (compEnvC scope cl C X.env) fp) (.Tuple [.Name x px, .Name y py] kk pt) (gTup X.K 2 (gCons (gName i) (gCons (gName j) gNil)))) (ht : ∀ (s : Shared) (H : Hp) (C : Addr) (cl : List (Str × Addr)) (fp : List Addr), PTs (X.blk s H scope (compEnvC scope cl C X.env) fp) ifs (tXT X.K t))
    (he : ∀ (s : Shared) (H : Hp) (C : Addr) (cl : List (Str × Addr)) (fp : List Addr), PE (X.blk s H scope (compEnvC scope cl C X.env) fp) elt (tX X.K f)) (hc : X.calm = true := by rfl) (hs : ∀ x, foldedSetIterable iter X.env x = pure x := by intro _; rfl) :
    PE X (.ListComp elt [⟨.Tuple [.Name x px, .Name y py] kk pt, iter, ifs, 0⟩] scope pos) (tX X.K (xComp [i, j] q (gTwo i j) t f)) := pe_weak (pe_lc hc hN hi ok hg ht he hs) fun st H Q h => comp_run TgOk.two h
/-- y = [..] on one line, y a local -/
theorem s_comp1 {x y : Str} {i n : Nat} {px py : Pos} (hN : X.N.Nodup) (hy : X.N[n]? = some y) (hyl : X.env.scope.names.lookup y = some .local)
    (hsw : swapsWith (.ListComp elt [⟨.Name x px, iter, ifs, 0⟩] scope pos) (some (.Name y py)) spos.line X.env = pure true) (hi : PI X (.Name x px) iter (tXI X.K q)) (ok : BlkOk X.N X.env.scope scope [(x, i)])
    (hg : ∀ (s : Shared) (H : Hp) (C : Addr) (cl : List (Str × Addr)) (fp : List Addr), PG (X.blk s H scope (compEnvC scope cl C X.env) fp) (.Name x px) (gName i)) (ht : ∀ (s : Shared) (H : Hp) (C : Addr) (cl : List (Str × Addr)) (fp : List Addr), PTs (X.blk s H scope (compEnvC scope cl C X.env) fp) ifs (tXT X.K t))
    (he : ∀ (s : Shared) (H : Hp) (C : Addr) (cl : List (Str × Addr)) (fp : List Addr), PE (X.blk s H scope (compEnvC scope cl C X.env) fp) elt (tX X.K f)) (hc : X.calm = true := by rfl) (hs : ∀ x, foldedSetIterable iter X.env x = pure x := by intro _; rfl) :
    PS X (.Assign [.Name y py] (.ListComp elt [⟨.Name x px, iter, ifs, 0⟩] scope pos) spos) (tXS X.K (sSet n (xComp [i] q (gOne i) t f))) := ps_weak (ps_setLc hc hN hy hyl hsw hi ok hg ht he hs) fun E st H h => comp_run (Q := fun x H1 => gName n x st H1 E.nx) TgOk.one (set_run h)
theorem s_comp2 {x z y : Str} {i j n kk : Nat} {px pz pt py : Pos} (hN : X.N.Nodup) (hy : X.N[n]? = some y) (hyl : X.env.scope.names.lookup y = some .local)
    (hsw : swapsWith (.ListComp elt [⟨.Tuple [.Name x px, .Name z pz] kk pt, iter, ifs, 0⟩] scope pos) (some (.Name y py)) spos.line X.env = pure true) (hi : PI X (.Tuple [.Name x px, .Name z pz] kk pt) iter (tXI X.K q)) (ok : BlkOk X.N X.env.scope scope [(x, i), (z, j)])
    (hg : ∀ (s : Shared) (H : Hp) (C : Addr) (cl : List (Str × Addr)) (fp : List Addr), PG (X.blk s H scope (compEnvC scope cl C X.env) fp) (.Tuple [.Name x px, .Name z pz] kk pt) (gTup X.K 2 (gCons (gName i) (gCons (gName j) gNil)))) (ht : ∀ (s : Shared) (H : Hp) (C : Addr) (cl : List (Str × Addr)) (fp : List Addr), PTs (X.blk s H scope (compEnvC scope cl C X.env) fp) ifs (tXT X.K t))
    (he : ∀ (s : Shared) (H : Hp) (C : Addr) (cl : List (Str × Addr)) (fp : List Addr), PE (X.blk s H scope (compEnvC scope cl C X.env) fp) elt (tX X.K f)) (hc : X.calm = true := by rfl) (hs : ∀ x, foldedSetIterable iter X.env x = pure x := by intro _; rfl) :
    PS X (.Assign [.Name y py] (.ListComp elt [⟨.Tuple [.Name x px, .Name z pz] kk pt, iter, ifs, 0⟩] scope pos) spos) (tXS X.K (sSet n (xComp [i, j] q (gTwo i j) t f))) := ps_weak (ps_setLc hc hN hy hyl hsw hi ok hg ht he hs) fun E st H h => comp_run (Q := fun x H1 => gName n x st H1 E.nx) TgOk.two (set_run h)
end
end Ct

end
section
set_option maxRecDepth 100000
namespace Ct
open PySem PySem.Spec PyProof.Rows L2

/-! ### enumerate of a tuple -/
def IteT (K : Fg) (a : Addr) : It where
  go := fun i H => ∃ (xs : List V) (x : V), SqT K H a xs ∧ xs[i]? = some x
  yld := fun i H v H' => ∃ T x, v = .ref T ∧ H T = none ∧ H' = upd H T (.tup [.int (i : Nat), x]) ∧ ∀ xs, SqT K H a xs → xs[i]? = some x
  stop := fun i H => ∃ xs : List V, SqT K H a xs ∧ xs.length = i
theorem enum_apart {h : Heap} {e it a : Addr} {i j : Int} {old : Value} {n : Nat} {its : Array Value} (h1 : IsEnum h e it i old) (h2 : h.IsTupleIter it a n) (h3 : h.IsTuple a its) : e ≠ a ∧ a ≠ it := by
  obtain ⟨o, e1, c1, k, d1⟩ := h3
  refine ⟨fun z => ?_, fun z => ?_⟩
  · subst z
    have q : h.get? e = some _ := h1
    rw [e1] at q
    cases q
    cases d1
  · subst z
    obtain ⟨o2, e2, c2, d2⟩ := h2
    rw [e1] at e2
    cases e2
    rw [d1] at d2
    cases d2
theorem turn_enumT {P : Program} {w : World} {K : Fg} {elts : List Expr} {kk : Nat} {tpos : Pos} (a e it : Addr) :
    Turn P w K (.Tuple elts kk tpos) (IteT K a) [e, it] e (fun i h => (∃ old, IsEnum h e it ((i : Nat) : Int) old) ∧ h.IsTupleIter it a i ∧ e ≠ it) where
  mem := List.mem_cons_self
  obj := fun i h ⟨⟨old, he⟩, ⟨o, ho, hc, hd⟩, _⟩ b hb => by
    rcases List.mem_cons.mp hb with z | z
    · subst z
      exact ⟨_, he, fun v q => nomatch q⟩
    · have z' := List.mem_singleton.mp z
      subst z'
      refine ⟨o, ho, fun v q => ?_⟩
      rw [hd] at q
      cases q
  keep := fun i h h' ⟨⟨old, he⟩, hi, hne⟩ k => ⟨⟨old, k e List.mem_cons_self _ he⟩, hi.at fun o q => k it (by simp) o q, hne⟩
  item := by
    intro X hP hw hK hc i pins s st H E I hf ⟨⟨old, he⟩, hit, hne⟩ ⟨xs, x, hq, hx⟩
    subst hP
    subst hw
    subst hK
    obtain ⟨its, rv, p, _⟩ := I.tuple hq
    have pt : s.heap.IsTuple a its.toArray := p
    obtain ⟨u, hu, ru⟩ := rv.get hx
    obtain ⟨a1, a2⟩ := enum_apart (j := 0) he hit pt
    have hel : e < s.heap.objs.size := Heap.lt_size he
    have hil : it < s.heap.objs.size := by
      obtain ⟨_, z, _⟩ := hit
      exact Heap.lt_size z
    have hlt : i < its.toArray.size := by
      have z := (List.getElem?_eq_some_iff.mp hu).1
      simpa using z
    refine wpAny_pyNext_enum_itemD (Draws.tuple (A := X.A.in1) (I.ok.hd hc) it a a2 its.toArray) he ⟨hit, pt⟩ hlt hne (by simp [hne, a1]) fun y h' tk hy ho st' hT hsz hk => ?_
    have ey : y = u := by
      have z : its[i]? = some y := by simpa using hy
      rw [hu] at z
      exact (Option.some.inj z).symm
    subst ey
    refine ⟨_, rfl, wpAny_letOwnedTupleGo_enum (s := { s with heap := h', toks := tk + 1 }) ho fun h2 he2 sb => ?_⟩
    have hT2 := (sb.2 _ (Nat.ne_of_gt hel)).trans hT
    have I1 : Inv X pins st (upd H s.heap.objs.size (.tup [.int (i : Nat), x])) { s with heap := h2, toks := tk + 1 } := by
      refine I.turnedNew (ch := [e, it]) (fun b ob hb q => ?_) hf (Nat.le_refl _) ⟨by show 2 ≤ sizeLine; decide, [.int i tk, y], .cons ⟨_, rfl⟩ (.cons ru .nil), ⟨_, hT2, rfl, _, rfl⟩⟩
      have b1 : b ≠ e := fun z => hb (by simp [z])
      have b2 : b ≠ it := fun z => hb (by simp [z])
      exact (sb.2 b b1).trans (hk b ob b1 b2 q)
    refine ⟨.ref s.heap.objs.size, _, I1, rfl, ⟨_, x, rfl, I.hok.fresh (Nat.le_refl _), rfl, fun ys hy => ?_⟩, ⟨⟨y, ?_⟩, st'.1.at fun o q => (sb.2 it (Ne.symm hne)).trans q, hne⟩, fun b hb => ?_⟩
    · rw [I.tuple_inj hy hq]
      exact hx
    · have e1 : ((i + 1 : Nat) : Int) = (i : Int) + 1 := by omega
      rw [e1]
      exact he2
    · have hb2 : b < s.heap.objs.size := by
        rcases List.mem_cons.mp hb with z | z
        · rw [z]
          exact hel
        · rw [List.mem_singleton.mp z]
          exact hil
      rw [upd_ne (Nat.ne_of_lt hb2)]
      exact (hf b hb).1
  done := by
    intro X hP hw hK hc i pins s st H E I hf ⟨⟨old, he⟩, hit, hne⟩ ⟨xs, hq, hx⟩
    subst hP
    subst hw
    subst hK
    obtain ⟨its, rv, p, _⟩ := I.tuple hq
    have pt : s.heap.IsTuple a its.toArray := p
    obtain ⟨f0, f1, f2, f3, f4, f5⟩ := hf it (by simp)
    obtain ⟨a1, a2⟩ := enum_apart (j := 0) he hit pt
    have e1 : i = its.toArray.size := by
      have z := rv.length
      simp
      omega
    subst e1
    exact wpAny_pyNext_enum_endD (Draws.tuple (A := X.A.in1) (I.ok.hd hc) it a a2 its.toArray) he ⟨hit, pt⟩ fun h' eb => ⟨rfl, I.turned (t' := s.toks) (fun b o hb q => eb b o hb q) f0 f1 f3 f4 f5⟩
  self := fun A i s Q E ⟨⟨_, he⟩, _⟩ h => wpAny_pyIter_enum he h
theorem meets_enumT (l : Addr) (items : Array Value) (n : Nat) (dct : Option Addr) (sl : Array (Option Value)) :
    Meets (Builtin.«enumerate.__new__» ⟨[.type "enumerate", .ref l], []⟩) (fun _ G s => s.heap.get? l = some { cls := .type "tuple", dict := dct, data := .seq items n, slots := sl } ∧
      G (.ok (.ret (.ref (s.heap.push { cls := .type "tuple_iterator", data := .fields #[.ref l, .int 0 0] }).objs.size)))
        { s with heap := (s.heap.push { cls := .type "tuple_iterator", data := .fields #[.ref l, .int 0 0] }).push { cls := .type "enumerate", data := .fields #[.none, .bool false, .ref s.heap.objs.size, rawInt 0, .none, .none] } }) :=
  .of_wp fun prog w A G s ⟨hl, h⟩ => by
    obtain ⟨hp, g, d, tk, os⟩ := s
    have hsub := sub_enumerate
    have hL : Heap.IsTuple (Shared.heap ⟨hp, g, d, tk, os⟩) l items := ⟨_, hl, rfl, n, rfl⟩
    wp_walk using AutoSeq1.wpAny_loadPart' hl
    refine wpAny_stack_any fun st => wpAny_pure ?_
    split
    · rename_i c _ _ _ _ _
      cases (c == Value.type "enumerate")
      all_goals
        wp_walk using AutoSeq1.wpAny_loadPart' hl, wpAny_pyIter_tuple hL
        exact ⟨_, rfl, h⟩
    · wp_walk using AutoSeq1.wpAny_loadPart' hl, wpAny_pyIter_tuple hL
      exact ⟨_, rfl, h⟩
theorem call_enumT {prog : Program} {w : World} {A : Around} {E : Value → Shared → Prop} {s : Shared} {l : Addr} {items : Array Value} {Q : Value → Shared → Prop} (hL : s.heap.IsTuple l items)
    (h : ∀ h', IsEnum h' (s.heap.objs.size + 1) s.heap.objs.size 0 .none → h'.IsTupleIter s.heap.objs.size l 0 → (∀ b o, s.heap.get? b = some o → h'.get? b = some o) → Q (.ref (s.heap.objs.size + 1)) { s with heap := h' }) :
    wpAny (model prog w) A (call (.type "enumerate") [.ref l]) Q E s := by
  obtain ⟨⟨c, dct, dt, sl⟩, hl, hc, n, hd⟩ := hL
  have hc' : c = .type "tuple" := hc
  have hd' : dt = .seq items n := hd
  subst hc'
  subst hd'
  refine callType_new F.called_enumerate (by decide) (F.typeCall_enumerate_1 _) (F.newCall_enumerate_1 _) (fun obj => F.args_object_init_2 obj _) F.entry_enumerate_new (meets_enumT l items n dct sl) ⟨hl, ?_⟩
  have hz : (s.heap.push { cls := .type "tuple_iterator", data := .fields #[.ref l, .int 0 0] }).objs.size = s.heap.objs.size + 1 := Heap.size_push ..
  show _ ∧ _
  rw [hz]
  have hp := Heap.get?_push_size (s.heap.push { cls := .type "tuple_iterator", data := .fields #[.ref l, .int 0 0] }) (o := { cls := .type "enumerate", data := .fields #[.none, .bool false, .ref s.heap.objs.size, rawInt 0, .none, .none] }) rfl
  rw [hz] at hp
  have he : IsEnum _ (s.heap.objs.size + 1) s.heap.objs.size 0 .none := hp
  exact ⟨⟨_, he, rfl⟩, h _ he ⟨_, Heap.get?_push_of_some _ (Heap.get?_push_size _ rfl), rfl, rfl⟩ fun b o x => Heap.get?_push_of_some _ (Heap.get?_push_of_some _ x)⟩
def iEnumA (K : Fg) (ta : TA) : TI := fun st H R => ta st H fun vs H1 => ∃ a xs, vs = [.ref a] ∧ ((SqL K H1 a xs ∧ R (Ite K a) H1) ∨ (SqT K H1 a xs ∧ R (IteT K a) H1))
theorem pi_enumA {X : Cx} {e : Expr} {ta : TA} {p pos tpos : Pos} {elts : List Expr} {kk : Nat} (hg : Gl X "enumerate") (hm : X.mg "enumerate" = none) (ha : PA X [e] ta) (hs : starEach [e] X.env = [(false, eval e X.env)] := by rfl) :
    PI X (.Tuple elts kk tpos) (.Call (.Name "enumerate" p) [e] [] pos) (iEnumA X.K ta) := by
  refine ⟨fun pins s st H R I h => Call_ (ld_blt I hg hm boot_enumerate (PyProof.Rows.callWith_type1 (thn (ha.run pos pins s st H _ I h) fun us s1 ⟨vs, H1, I1, r1, a, xs, ex, q1⟩ => ?_) hs rfl))⟩
  subst ex
  obtain rfl := Vals.ref1 r1
  have fp : ∀ b ∈ [s1.heap.objs.size + 1, s1.heap.objs.size], FpOk X pins H1 b := fun b hb => by
    have hle : s1.heap.objs.size ≤ b := by
      rcases List.mem_cons.mp hb with z | z
      · rw [z]
        exact Nat.le_succ _
      · rw [List.mem_singleton.mp z]
        exact Nat.le_refl _
    exact I1.fpOk hle (I1.hok.fresh hle)
  rcases q1 with ⟨hq, q⟩ | ⟨hq, q⟩
  · obtain ⟨its, rv, p', hz⟩ := I1.list hq
    refine call_enumerate_list p'.isList fun h' he hit hsz hk => wpAny_pyIter_enum he ?_
    exact ⟨_, [s1.heap.objs.size + 1, s1.heap.objs.size], _, _, H1, rfl, I1.kept (t' := s1.toks) hk, turn_enum a _ _, ⟨⟨.none, he⟩, hit, Nat.succ_ne_self _⟩, fp, q⟩
  · obtain ⟨its, rv, p', hz⟩ := I1.tuple hq
    refine call_enumT (show s1.heap.IsTuple a its.toArray from p') fun h' he hit hk => wpAny_pyIter_enum he ?_
    exact ⟨_, [s1.heap.objs.size + 1, s1.heap.objs.size], _, _, H1, rfl, I1.kept (t' := s1.toks) hk, turn_enumT a _ _, ⟨⟨.none, he⟩, hit, Nat.succ_ne_self _⟩, fp, q⟩
theorem walk_enumT {K : Fg} {a : Addr} {xs : List V} : Walk (IteT K a) xs.length (fun H => SqT K H a xs) (YPair (fun i => some (.int (i : Nat))) (fun i => xs[i]?)) := by
  refine ⟨fun i H hi q => ⟨xs, xs[i], q, List.getElem?_eq_getElem hi⟩, fun H q => ⟨xs, q, rfl⟩, fun i H v H' hi q y => ?_⟩
  obtain ⟨T, x, t1, t2, t3, t4⟩ := y
  exact ⟨T, _, x, t1, t2, t3, rfl, t4 xs q⟩
def enumD : Nat → List D → List D
  | _, [] => []
  | n, d :: ds => pairD (.int (n : Nat)) d :: enumD (n + 1) ds
theorem enumD_len : ∀ (n : Nat) (ds : List D), (enumD n ds).length = ds.length
  | _, [] => rfl
  | n, d :: ds => congrArg (· + 1) (enumD_len (n + 1) ds)
theorem enumD_get : ∀ (n : Nat) (ds : List D) (i : Nat), (enumD n ds)[i]? = (ds[i]?).map fun d => pairD (.int ((n + i : Nat) : Int)) d
  | _, [], _ => by simp [enumD]
  | n, d :: ds, 0 => by simp [enumD]
  | n, d :: ds, i + 1 => by
    have h := enumD_get (n + 1) ds i
    have e : n + 1 + i = n + (i + 1) := by omega
    rw [e] at h
    simpa [enumD] using h
def xiEnum (q : XQ) : XI := fun env => (q env).map fun t => (enumD 0 t.2.1, t.2.2)
theorem wk_enum {K : Fg} {pn : Pins} {J : It} {xs : List V} {ds : List D} {G : Hp → Prop} (w : Walk J xs.length G (YPair (fun i => some (.int (i : Nat))) (fun i => xs[i]?))) (h1 : xs.length = ds.length)
    (hG : ∀ H, (∀ p ∈ pn.ad, H p.1 = some p.2) → G H) (hx : ∀ p ∈ xs.zip ds, p ∈ pn.kd) : WkD K pn J (enumD 0 ds) := by
  unfold WkD
  rw [enumD_len, ← h1]
  refine w.mono hG fun i H x H' hi _ y O d hd h => ?_
  obtain ⟨T, x1, y1, rfl, hT, rfl, f1, f2⟩ := y
  cases f1
  rw [enumD_get, Nat.zero_add] at hd
  obtain ⟨d2, e2, rfl⟩ := Option.map_eq_some_iff.mp hd
  exact ⟨same_new hT, pair_new hT (.int _) (h _ (hx _ (zip_mem f2 e2)))⟩
section
variable {X : Cx} {a : Expr} {q : XQ} {p pos tpos : Pos} {elts : List Expr} {kk : Nat}
theorem i_enum (hg : Gl X "enumerate") (hm : X.mg "enumerate" = none) (ha : PE X a (tQ X.K q)) (hs0 : starEach [a] X.env = (false, eval a X.env) :: starEach [] X.env := by rfl)
    (hs : starEach [a] X.env = [(false, eval a X.env)] := by rfl) : PI X (.Tuple elts kk tpos) (.Call (.Name "enumerate" p) [a] [] pos) (tXI X.K (xiEnum q)) := pi_weak (pi_enumA hg hm (pa_cons ha pa_nil hs0) hs) fun st H R ⟨H0, B, pn, A, env, ds, env', rp, er, k⟩ => by
  obtain ⟨⟨kd, ds', env2⟩, e1, e2⟩ := Option.map_eq_some_iff.mp er
  cases e2
  refine ⟨H0, B, pn, A, env, kd, _, _, rp, e1, fun a vs A' H' s1 k1 rp' => ⟨a, vs, rfl, ?_⟩⟩
  cases kd with
  | true => exact .inr ⟨.of (rp'.pins _ List.mem_cons_self).2, k _ H' A' _ s1 rp' (PSub.add ..) (wk_enum walk_enumT k1.len (fun H h => .of (h _ List.mem_cons_self)) fun p hp => List.mem_append_left _ hp)⟩
  | false => exact .inl ⟨.of (rp'.pins _ List.mem_cons_self).2, k _ H' A' _ s1 rp' (PSub.add ..) (wk_enum walk_enum k1.len (fun H h => .of (h _ List.mem_cons_self)) fun p hp => List.mem_append_left _ hp)⟩
end

/-! ### in, not in -/
def inR : Sem2
  | .im (.str z), .im (.str y) => if z.cps.toList.length = 1 then some (.im (.bool (decide (z.cps.toList.getD 0 0 ∈ y.cps.toList)))) else none
  | x, y => y.lst?.bind fun ds => if SeqAt.shaped x.see && SeqAt.shaped (.list ds) then some (.im (.bool (ds.any fun z => PyData.eqv z x.see))) else none
def notInR : Sem2
  | .im (.str z), .im (.str y) => if z.cps.toList.length = 1 then some (.im (.bool (!decide (z.cps.toList.getD 0 0 ∈ y.cps.toList)))) else none
  | x, y => y.lst?.bind fun ds => if SeqAt.shaped x.see && SeqAt.shaped (.list ds) then some (.im (.bool (!ds.any fun z => PyData.eqv z x.see))) else none
theorem ROk.seeL {K : Fg} {O : AS} {H0 H : Hp} {v : V} {r : R} {ds : List D} (k : ROk K O H0 H v r) (e : r.lst? = some ds) : Dp K H v (.list ds) := by
  obtain ⟨p, vs, rfl, hp, k2⟩ := ROk.lst k e
  exact .lst (.of hp) k2.dp
def rInAll (K : Fg) : R2 := fun x y H Q => (∃ (c : Nat) (z : Str), x = .str ⟨#[c]⟩ ∧ y = .str z ∧ Q (.bl (decide (c ∈ z.cps.toList))) H) ∨ rInD K x y H Q
def rNotInAll (K : Fg) : R2 := fun x y H Q => (∃ (c : Nat) (z : Str), x = .str ⟨#[c]⟩ ∧ y = .str z ∧ Q (.bl (!decide (c ∈ z.cps.toList))) H) ∨ rNotInD K x y H Q
theorem one_sign {z : Str} (h : z.cps.toList.length = 1) : z = ⟨#[z.cps.toList.getD 0 0]⟩ := by
  obtain ⟨⟨l⟩⟩ := z
  match l, h with
  | [c], _ => rfl
theorem in_ok {K : Fg} : Op2 K inR (rInAll K) := fun O H0 H x y rx ry rz Q hd hs kx ky e q => by
  unfold inR at e
  split at e
  · split at e
    · rename_i z y2 hl
      cases e
      refine .inl ⟨z.cps.toList.getD 0 0, y2, ?_, Dn.strv ky, q _ H (Same.refl H) (.bl _)⟩
      rw [Dn.strv kx]
      exact congrArg V.str (one_sign hl)
    · cases e
  · obtain ⟨ds, e0, e⟩ := Option.bind_eq_some_iff.mp e
    split at e
    · rename_i hc
      cases e
      obtain ⟨h1, h2⟩ := Bool.and_eq_true_iff.mp hc
      exact .inr ⟨_, ds, kx.see, ky.seeL e0, h1, h2, q _ H (Same.refl H) (.bl _)⟩
    · cases e
theorem notIn_ok {K : Fg} : Op2 K notInR (rNotInAll K) := fun O H0 H x y rx ry rz Q hd hs kx ky e q => by
  unfold notInR at e
  split at e
  · split at e
    · rename_i z y2 hl
      cases e
      refine .inl ⟨z.cps.toList.getD 0 0, y2, ?_, Dn.strv ky, q _ H (Same.refl H) (.bl _)⟩
      rw [Dn.strv kx]
      exact congrArg V.str (one_sign hl)
    · cases e
  · obtain ⟨ds, e0, e⟩ := Option.bind_eq_some_iff.mp e
    split at e
    · rename_i hc
      cases e
      obtain ⟨h1, h2⟩ := Bool.and_eq_true_iff.mp hc
      exact .inr ⟨_, ds, kx.see, ky.seeL e0, h1, h2, q _ H (Same.refl H) (.bl _)⟩
    · cases e
theorem units65 {k : Nat} {A : Around} (r : Room k A) : A.units + 65 < cLine := by
  have := r.un
  omega
section
variable {X : Cx} {a b : Expr} {f g : XE} {pos : Pos} {k : Nat}
theorem x_in (hr : Room k X.A) (ha : PE X a (tX X.K f)) (hb : PE X b (tX X.K g)) (hm : behindInMarks .In b = false := by rfl) : PE X (.Compare a [.In] [b] pos) (tX X.K (xBin inR f g)) := x_cmp in_ok (op_in_sign.or (op_inD (units65 hr))) hm ha hb
theorem y_in (hr : Room k X.A) (ha : PE X a (tX X.K f)) (hb : PE X b (tX X.K g)) (hm : behindInMarks .In b = false := by rfl) : PT X (.Compare a [.In] [b] pos) (tXT X.K (xBin inR f g)) := y_cmp in_ok (op_in_sign.or (op_inD (units65 hr))) hm ha hb
theorem x_notIn (hr : Room k X.A) (ha : PE X a (tX X.K f)) (hb : PE X b (tX X.K g)) (hm : behindInMarks .NotIn b = false := by rfl) : PE X (.Compare a [.NotIn] [b] pos) (tX X.K (xBin notInR f g)) := x_cmp notIn_ok (op_notIn_sign.or (op_notInD (units65 hr))) hm ha hb
theorem y_notIn (hr : Room k X.A) (ha : PE X a (tX X.K f)) (hb : PE X b (tX X.K g)) (hm : behindInMarks .NotIn b = false := by rfl) : PT X (.Compare a [.NotIn] [b] pos) (tXT X.K (xBin notInR f g)) := y_cmp notIn_ok (op_notIn_sign.or (op_notInD (units65 hr))) hm ha hb
end

/-! ### several targets -/
def putAll : List Nat → Env → List D → Option Env
  | [], env, [] => some env
  | i :: is, env, d :: ds => if i < env.length then putAll is (env.set i (.im d)) ds else none
  | _, _, _ => none
def sUnp (is : List Nat) (f : XE) : XS := fun env => (f env).bind fun r => match r with
  | .im (.tuple ds) => (putAll is env ds).map .nx
  | r => r.lst?.bind fun ds => (putAll is env ds).map .nx
def tGs (K : Fg) (is : List Nat) : TGs := fun vs st H Q => ∃ H0 B pn A env ds env', Rep K H0 B pn A env st H ∧ DnL K (Ob B A) H vs ds ∧ putAll is env ds = some env' ∧ ∀ st' A', Rep K H0 B pn A' env' st' H → Q st' H
theorem pgs_weak {X : Cx} {es : List Expr} {t t' : TGs} (h : PGs X es t) (w : ∀ v st H Q, t' v st H Q → t v st H Q) : PGs X es t' := ⟨fun pins s st H v u Q I r q => h.run pins s st H v u Q I r (w v st H Q q)⟩
theorem putAll_len {is : List Nat} : ∀ {env env' : Env} {ds : List D}, putAll is env ds = some env' → ds.length = is.length := by
  induction is with
  | nil =>
    intro env env' ds h
    cases ds with
    | nil => rfl
    | cons d ds => cases h
  | cons i is ih =>
    intro env env' ds h
    cases ds with
    | nil => cases h
    | cons d ds =>
      unfold putAll at h
      split at h
      · rw [List.length_cons, List.length_cons, ih h]
      · cases h
section
variable {X : Cx} {x : Str} {i : Nat} {is : List Nat} {p pos tpos : Pos} {e : Expr} {es : List Expr} {f : XE} {kk n : Nat}
theorem gs_nil : PGs X [] (tGs X.K []) := pgs_weak pgs_nil fun v st H Q ⟨H0, B, pn, A, env, ds, env', rp, k, e, q⟩ => by
  cases ds with
  | nil =>
    cases e
    cases k
    exact ⟨rfl, q st A rp⟩
  | cons d ds => cases e
theorem gs_cons (hN : X.N.Nodup) (hi : X.N[i]? = some x) (hx : Loc X.env.scope x) (h2 : PGs X es (tGs X.K is)) (hf : X.fn x = true ∨ X.env.scope.names.lookup x = some .local := by first | exact .inl rfl | exact .inr rfl | assumption)
    (hs : (assignEach (.Name x p :: es) X.env).map (·.2) = assign (.Name x p) X.env :: (assignEach es X.env).map (·.2) := by rfl) : PGs X (.Name x p :: es) (tGs X.K (i :: is)) :=
  pgs_weak (pgs_cons (pg_name (pos := p) hN hi hx hf) h2 hs) fun v st H Q ⟨H0, B, pn, A, env, ds, env', rp, k, e, q⟩ => by
    cases ds with
    | nil => cases e
    | cons d ds =>
      unfold putAll at e
      split at e
      · cases k with
        | cons k1 k2 => exact ⟨_, _, rfl, H0, B, pn, _, _, ds, env', rp.setIm k1, k2.anti fun b => ob_nil, e, q⟩
      · cases e
theorem s_unp (hg : PGs X es (tGs X.K is)) (he : PE X e (tX X.K f)) (hc : X.calm = true := by rfl) (hl : es.length = is.length := by rfl) (hn : (assignEach es X.env).length = is.length := by rfl) (hst : (assignEach es X.env).findIdx? (·.1) = none := by rfl)
    (hs : swapsWithSole [.Tuple es kk tpos] e pos.line X.env = pure false := by rfl) (hw : swappedStores [.Tuple es kk tpos] e X.env = pure none := by rfl)
    (h1 : (assignEach [.Tuple es kk tpos] X.env).map (·.2) = [assign (.Tuple es kk tpos) X.env] := by rfl) : PS X (.Assign [.Tuple es kk tpos] e pos) (tXS X.K (sUnp is f)) := by
  have g : PG X (.Tuple es kk tpos) (fun v st H Q => gTup X.K is.length (tGs X.K is) v st H Q ∨ gLst X.K is.length (tGs X.K is) v st H Q) := ⟨fun pins s st H v u Q I r q => by
    rcases q with q | q
    · exact (pg_tup hc hg hn hst).run pins s st H v u Q I r q
    · exact (pg_lst hc hg hn hst).run pins s st H v u Q I r q⟩
  refine ps_weak (ps_asg he g hs hw h1) fun E st H ⟨H0, B, pn, A, env, o, rp, eo, q⟩ => ?_
  obtain ⟨r, er, eo⟩ := Option.bind_eq_some_iff.mp eo
  refine ⟨H0, B, pn, A, env, r, rp, er, fun v H1 s1 k1 => ?_⟩
  split at eo
  · obtain ⟨env', e1, eo⟩ := Option.map_eq_some_iff.mp eo
    cases eo
    obtain ⟨a, vs, rfl, ha, k⟩ := ROk.tup k1 rfl
    exact .inl ⟨a, vs, rfl, .of ha, by rw [k.len]; exact putAll_len e1, H0, B, pn, A, env, _, env', rp.mono s1, k, e1, fun st' A' rp' => q st' H1 A' rp'⟩
  · obtain ⟨ds, e0, eo⟩ := Option.bind_eq_some_iff.mp eo
    obtain ⟨env', e1, eo⟩ := Option.map_eq_some_iff.mp eo
    cases eo
    obtain ⟨a, vs, rfl, ha, k⟩ := ROk.lst k1 e0
    exact .inr ⟨a, vs, rfl, .of ha, by rw [k.len]; exact putAll_len e1, H0, B, pn, A, env, ds, env', rp.mono s1, k, e1, fun st' A' rp' => q st' H1 A' rp'⟩
end
/-! ### a def as the head tells it -/
abbrev FnP (K : Fg) (x : Str) (st : Stmt) (f : Addr) (fd : FuncData) : Prop := FunD K x x (defArgs st) (defBody st) (defScope st) [] [] f fd
section
variable {P : Program} {w : World} {K : Fg} {mg : Str → Option Value} {base : Heap}
theorem fn_okD {x : Str} {st : Stmt} {f : Addr} {fd : FuncData} {N ps : List Str} {k n p : Nat} {m : XS} (F : FnP K x st f fd) (S : FnScope N ps (defScope st)) (hn : N.length = n) (hl : ps.length = p)
    (hb : ∀ (cdv : Value) (A : Around) (outer : List PySem.Env) (s : Shared) (H : Hp) (E : XK), Room k (A.deeper (envOfC x (defScope st) s.heap.objs.size f cdv)) → PSs (cxOf CX0 P w K mg base N x (defScope st) f cdv A outer s H E).nox (defBody st) (tXS K m)) :
    FnOk P w K mg base CX0 (k + 1) f fd ps (spF K (runF n p m)) := by
  subst hn
  subst hl
  refine FunD.ok F S (fun vs H Q E h => ?_) (fun cdv A outer s H vs Q E hr h => ?_)
  · obtain ⟨B, rs, r, h1, h2, h3, h4⟩ := h
    unfold runF at h3
    split at h3
    · rename_i hl
      rw [h2.len]
      exact hl
    · cases h3
  · obtain ⟨B, rs, r, h1, h2, h3, h4⟩ := h
    refine ⟨_, PSs.nox (hb cdv A outer s H E hr), ?_⟩
    unfold runF at h3
    split at h3
    · obtain ⟨o, eo, h3⟩ := Option.bind_eq_some_iff.mp h3
      refine ⟨H, B, ⟨[], []⟩, _, _, o, start_rep h1 h2, eo, ?_⟩
      cases o with
      | rt r' =>
        cases h3
        exact fun v H' s1 k1 => h4 v H' s1 k1
      | nx env =>
        cases h3
        exact fun st' H' A' rp => h4 _ H' rp.same .non
      | bk env => cases h3
      | ct env => cases h3
    · cases h3
theorem cal_mk {x : Str} {st : Stmt} {f : Addr} {fd : FuncData} {ps : List Str} {k : Nat} {F : SemN} (D : FnP K x st f fd) (G : FnOk P w K mg base CX0 k f fd ps (spF K F)) (hm : mg x = some (.ref f))
    (hb : ∀ (kV doc pm : Value) (an : Option Addr) (cdv ct : Value) (us : List Value), us.length = ps.length → bindArgs (PySem.W.fnOf x x (defArgs st) (defBody st) (defScope st) .none kV doc pm an cdv ct) ⟨us, []⟩ = pure (ps.zip us)) : Cal P w K mg base k x F :=
  ⟨f, fd, ps, G, hm, D.kp, D.bindsN hb⟩
end
end Ct

end
section
set_option maxRecDepth 100000
namespace Ct
open PySem PySem.Spec PyProof.Rows L2
/-! ### built-ins by name -/
structure Bi (mg : Str → Option Value) : Prop where
  len : mg "len" = none
  range : mg "range" = none
  zip : mg "zip" = none
  enumerate : mg "enumerate" = none
  sum : mg "sum" = none
  all : mg "all" = none
  any : mg "any" = none
  tuple : mg "tuple" = none
  list : mg "list" = none
  int : mg "int" = none
  str : mg "str" = none
  bool : mg "bool" = none
  isinstance : mg "isinstance" = none
  max : mg "max" = none
  min : mg "min" = none
  sorted : mg "sorted" = none
  set : mg "set" = none
  ValueError : mg "ValueError" = none
theorem bt_len : bootBuiltins "len" = some (.builtin "len") := by decide +kernel
theorem bt_sum : bootBuiltins "sum" = some (.builtin "sum") := by decide +kernel
theorem bt_all : bootBuiltins "all" = some (.builtin "all") := by decide +kernel
theorem bt_any : bootBuiltins "any" = some (.builtin "any") := by decide +kernel
theorem bt_tuple : bootBuiltins "tuple" = some (.type "tuple") := by decide +kernel
theorem bt_list : bootBuiltins "list" = some (.type "list") := by decide +kernel
theorem bt_int : bootBuiltins "int" = some (.type "int") := by decide +kernel
theorem bt_str : bootBuiltins "str" = some (.type "str") := by decide +kernel
theorem bt_bool : bootBuiltins "bool" = some (.type "bool") := by decide +kernel
theorem bt_max : bootBuiltins "max" = some (.builtin "max") := by decide +kernel
theorem bt_min : bootBuiltins "min" = some (.builtin "min") := by decide +kernel
theorem bt_sorted : bootBuiltins "sorted" = some (.builtin "sorted") := by decide +kernel
section
variable {X : Cx} {p pos : Pos} {e e2 : Expr} {g : XA} {f : XE}
theorem x_len (b : Bi X.mg) (ha : PA X [e] (tXA X.K g)) (hg : Gl X "len" := by rfl) (he : starEach [e] X.env = (false, eval e X.env) :: starEach [] X.env := by rfl) : PE X (.Call (.Name "len" p) [e] [] pos) (tX X.K (xCB lenR g)) := x_callB len_ok len_cr hg b.len bt_len ha (by decide) (by decide) he rfl
theorem x_sum (b : Bi X.mg) (ha : PA X [e] (tXA X.K g)) (hg : Gl X "sum" := by rfl) (he : starEach [e] X.env = (false, eval e X.env) :: starEach [] X.env := by rfl) (hc : X.calm = true := by rfl) : PE X (.Call (.Name "sum" p) [e] [] pos) (tX X.K (xCB sumR g)) := x_callB sum_ok (cr_sum hc) hg b.sum bt_sum ha (by decide) (by decide) he rfl
theorem x_all (b : Bi X.mg) (ha : PA X [e] (tXA X.K g)) (hg : Gl X "all" := by rfl) (he : starEach [e] X.env = (false, eval e X.env) :: starEach [] X.env := by rfl) (hc : X.calm = true := by rfl) : PE X (.Call (.Name "all" p) [e] [] pos) (tX X.K (xCB allR g)) := x_callB all_ok (cr_all hc) hg b.all bt_all ha (by decide) (by decide) he rfl
theorem x_any (b : Bi X.mg) (ha : PA X [e] (tXA X.K g)) (hg : Gl X "any" := by rfl) (he : starEach [e] X.env = (false, eval e X.env) :: starEach [] X.env := by rfl) (hc : X.calm = true := by rfl) : PE X (.Call (.Name "any" p) [e] [] pos) (tX X.K (xCB anyR g)) := x_callB any_ok (cr_any hc) hg b.any bt_any ha (by decide) (by decide) he rfl
theorem x_tuple (b : Bi X.mg) (ha : PA X [e] (tXA X.K g)) (hg : Gl X "tuple" := by rfl) (he : starEach [e] X.env = (false, eval e X.env) :: starEach [] X.env := by rfl) : PE X (.Call (.Name "tuple" p) [e] [] pos) (tX X.K (xCB tupleR g)) := x_callTy tuple_ok tuple_cr hg b.tuple bt_tuple ha (by decide) (by decide) he rfl
theorem x_list (b : Bi X.mg) (ha : PA X [e] (tXA X.K g)) (hg : Gl X "list" := by rfl) (he : starEach [e] X.env = (false, eval e X.env) :: starEach [] X.env := by rfl) : PE X (.Call (.Name "list" p) [e] [] pos) (tX X.K (xCB listR g)) := x_callTy list_ok list_cr hg b.list bt_list ha (by decide) (by decide) he rfl
theorem x_toInt (b : Bi X.mg) (ha : PA X [e] (tXA X.K g)) (hg : Gl X "int" := by rfl) (he : starEach [e] X.env = (false, eval e X.env) :: starEach [] X.env := by rfl) : PE X (.Call (.Name "int" p) [e] [] pos) (tX X.K (xCB intR g)) := x_callTy int_ok int_cr hg b.int bt_int ha (by decide) (by decide) he rfl
theorem x_toStr (b : Bi X.mg) (ha : PA X [e] (tXA X.K g)) (hg : Gl X "str" := by rfl) (he : starEach [e] X.env = (false, eval e X.env) :: starEach [] X.env := by rfl) : PE X (.Call (.Name "str" p) [e] [] pos) (tX X.K (xCB strR g)) := x_callTy Ct.str_ok call_str_int hg b.str bt_str ha (by decide) (by decide) he rfl
theorem x_max2 (b : Bi X.mg) (ha : PA X [e, e2] (tXA X.K g)) (hg : Gl X "max" := by rfl) (he : starEach [e, e2] X.env = (false, eval e X.env) :: starEach [e2] X.env := by rfl) (hpl : (backTo pos (starEach [e2] X.env)).any (·.1) = false := by rfl) (hc : X.calm = true := by rfl) : PE X (.Call (.Name "max" p) [e, e2] [] pos) (tX X.K (xCB max2R g)) := x_callB max2_ok (call_max2 hc) hg b.max bt_max ha (by decide) (by decide) he hpl
theorem x_min2 (b : Bi X.mg) (ha : PA X [e, e2] (tXA X.K g)) (hg : Gl X "min" := by rfl) (he : starEach [e, e2] X.env = (false, eval e X.env) :: starEach [e2] X.env := by rfl) (hpl : (backTo pos (starEach [e2] X.env)).any (·.1) = false := by rfl) (hc : X.calm = true := by rfl) : PE X (.Call (.Name "min" p) [e, e2] [] pos) (tX X.K (xCB min2R g)) := x_callB min2_ok (call_min2 hc) hg b.min bt_min ha (by decide) (by decide) he hpl
theorem x_isInt {p2 : Pos} (b : Bi X.mg) (ha : PE X e (tX X.K f)) (hg : Gl X "isinstance" := by rfl) (hg2 : Gl X "int" := by rfl) (he : starEach [e, .Name "int" p2] X.env = (false, eval e X.env) :: starEach [.Name "int" p2] X.env := by rfl) (he2 : starEach [.Name "int" p2] X.env = [(false, eval (.Name "int" p2) X.env)] := by rfl) : PE X (.Call (.Name "isinstance" p) [e, .Name "int" p2] [] pos) (tX X.K (xUn (isiR "int") f)) := x_isi "int" hg b.isinstance hg2 b.int bt_int ha (by decide) (by decide) he he2
theorem x_isBool {p2 : Pos} (b : Bi X.mg) (ha : PE X e (tX X.K f)) (hg : Gl X "isinstance" := by rfl) (hg2 : Gl X "bool" := by rfl) (he : starEach [e, .Name "bool" p2] X.env = (false, eval e X.env) :: starEach [.Name "bool" p2] X.env := by rfl) (he2 : starEach [.Name "bool" p2] X.env = [(false, eval (.Name "bool" p2) X.env)] := by rfl) : PE X (.Call (.Name "isinstance" p) [e, .Name "bool" p2] [] pos) (tX X.K (xUn (isiR "bool") f)) := x_isi "bool" hg b.isinstance hg2 b.bool bt_bool ha (by decide) (by decide) he he2
theorem x_isTuple {p2 : Pos} (b : Bi X.mg) (ha : PE X e (tX X.K f)) (hg : Gl X "isinstance" := by rfl) (hg2 : Gl X "tuple" := by rfl) (he : starEach [e, .Name "tuple" p2] X.env = (false, eval e X.env) :: starEach [.Name "tuple" p2] X.env := by rfl) (he2 : starEach [.Name "tuple" p2] X.env = [(false, eval (.Name "tuple" p2) X.env)] := by rfl) : PE X (.Call (.Name "isinstance" p) [e, .Name "tuple" p2] [] pos) (tX X.K (xUn (isiR "tuple") f)) := x_isi "tuple" hg b.isinstance hg2 b.tuple bt_tuple ha (by decide) (by decide) he he2
theorem x_isStr {p2 : Pos} (b : Bi X.mg) (ha : PE X e (tX X.K f)) (hg : Gl X "isinstance" := by rfl) (hg2 : Gl X "str" := by rfl) (he : starEach [e, .Name "str" p2] X.env = (false, eval e X.env) :: starEach [.Name "str" p2] X.env := by rfl) (he2 : starEach [.Name "str" p2] X.env = [(false, eval (.Name "str" p2) X.env)] := by rfl) : PE X (.Call (.Name "isinstance" p) [e, .Name "str" p2] [] pos) (tX X.K (xUn (isiR "str") f)) := x_isi "str" hg b.isinstance hg2 b.str bt_str ha (by decide) (by decide) he he2
end
end Ct
namespace Ct
open PySem PySem.Spec PyProof.Rows L2
section
variable {P : Program} {w : World} {K : Fg} {mg : Str → Option Value} {base : Heap}
theorem cal_none {x : Str} {st : Stmt} {f : Addr} {fd : FuncData} {ps : List Str} {k : Nat} (D : FnP K x st f fd) (hm : mg x = some (.ref f))
    (hb : ∀ (kV doc pm : Value) (an : Option Addr) (cdv ct : Value) (us : List Value), us.length = ps.length → bindArgs (PySem.W.fnOf x x (defArgs st) (defBody st) (defScope st) .none kV doc pm an cdv ct) ⟨us, []⟩ = pure (ps.zip us)) : Cal P w K mg base k x (fun _ => none) :=
  ⟨f, fd, ps, ⟨fun vs H Q E q => (by obtain ⟨_, _, _, _, _, h, _⟩ := q; cases h), fun A outer s H args us vs Q E _ _ _ _ q => (by obtain ⟨_, _, _, _, _, h, _⟩ := q; cases h)⟩, hm, D.kp, D.bindsN hb⟩
end
theorem dnl_ints {K : Fg} {O : AS} {H : Hp} : ∀ ns : List Int, DnL K O H (ns.map V.int) (ns.map PyData.int)
  | [] => .nil
  | n :: ns => .cons (.int n) (dnl_ints ns)
theorem law_sp {K : Fg} {H : Hp} {a : Addr} {ns : List Int} {F : SemN} (hS : SqL K H a (ns.map V.int)) (h : F [.sc (ns.map PyData.int)] = some (.im (.bool true))) : spF K F [.ref a] H (fun v _ => v = .bl true) fun _ _ _ => False :=
  ⟨fun _ => False, [.sc (ns.map PyData.int)], .im (.bool true), fun _ z => z.elim, .cons ⟨a, ns.map V.int, rfl, hS, dnl_ints ns⟩ .nil, h, fun v H' _ k => Dn.blv k⟩
end Ct

end
section
set_option maxRecDepth 100000
namespace Ct
open PySem L2
/-! ### running without binders: what each piece comes to -/
def seqO (o : Option Out) (g : XS) : Option Out := o.bind fun o => match o with
  | .nx env' => g env'
  | o => some o
theorem sSeq_eq (f g : XS) (env : Env) : sSeq f g env = seqO (f env) g := rfl
theorem seqO_nx (e : Env) (g : XS) : seqO (some (.nx e)) g = g e := rfl
theorem seqO_rt (r : R) (g : XS) : seqO (some (.rt r)) g = some (.rt r) := rfl
theorem sRet_eq (f : XE) (env : Env) : sRet f env = (f env).bind R.ret := rfl
theorem e_ret_im (d : D) : R.ret (.im d) = some (.rt (.im d)) := rfl
theorem e_ret_fr (d : List D) : R.ret (.fr d) = some (.rt (.fr d)) := rfl
def retV : Option Sl → Option Out
  | some (.ml ds) => some (.rt (.fr ds))
  | some (.im d) => some (.rt (.im d))
  | _ => none
theorem sRetV_eq (i : Nat) (env : Env) : sRetV i env = retV (env[i]?) := rfl
theorem retV_ml (ds : List D) : retV (some (.ml ds)) = some (.rt (.fr ds)) := rfl
theorem retV_im (d : D) : retV (some (.im d)) = some (.rt (.im d)) := rfl
def ifO (c : Option R) (a b : XS) (env : Env) : Option Out := c.bind fun x => match x with
  | .im (.bool true) => a env
  | .im (.bool false) => b env
  | _ => none
theorem sIf_eq (c : XE) (a b : XS) (env : Env) : sIf c a b env = ifO (c env) a b env := rfl
theorem ifO_b (k : Bool) (a b : XS) (env : Env) : ifO (some (.im (.bool k))) a b env = if k = true then a env else b env := by cases k <;> rfl
def setO (i : Nat) (r : Option R) (env : Env) : Option Out := r.bind fun r => (putR env i r).map .nx
theorem sSet_eq (i : Nat) (f : XE) (env : Env) : sSet i f env = setO i (f env) env := rfl
theorem setO_im (i : Nat) (d : D) (env : Env) (h : i < env.length) : setO i (some (.im d)) env = some (.nx (env.set i (.im d))) := by
  unfold setO putR
  rw [Option.bind_some, if_pos h]
  rfl
theorem setO_fr (i : Nat) (d : List D) (env : Env) (h : i < env.length) : setO i (some (.fr d)) env = some (.nx (env.set i (.ml d))) := by
  unfold setO putR
  rw [Option.bind_some, if_pos h]
  rfl
def moveO (i j : Nat) (s : Option Sl) (env : Env) : Option Out := match s with
  | some (.im d) => some (.nx (env.set i (.im d)))
  | some (.ml ds) => some (.nx ((env.set j .no).set i (.ml ds)))
  | _ => none
theorem sMove_eq (i j : Nat) (env : Env) (h : i < env.length) (hij : i ≠ j) : sMove i j env = moveO i j (env[j]?) env := by
  unfold sMove
  rw [if_pos ⟨h, hij⟩]
  rfl
theorem moveO_im (i j : Nat) (d : D) (env : Env) : moveO i j (some (.im d)) env = some (.nx (env.set i (.im d))) := rfl
theorem moveO_ml (i j : Nat) (d : List D) (env : Env) : moveO i j (some (.ml d)) env = some (.nx ((env.set j .no).set i (.ml d))) := rfl
def wipeO (o : Option Out) (is : List Nat) : Option Out := o.map fun o => match o with
  | .nx env' => .nx (wipeE is env')
  | o => o
theorem sWipe_eq (f : XS) (is : List Nat) (env : Env) : sWipe f is env = wipeO (f env) is := rfl
theorem wipeO_nx (e : Env) (is : List Nat) : wipeO (some (.nx e)) is = some (.nx (wipeE is e)) := rfl
theorem wipeO_rt (r : R) (is : List Nat) : wipeO (some (.rt r)) is = some (.rt r) := rfl
def appO (i : Nat) (s : Option Sl) (r : Option R) (env : Env) : Option Out := match s with
  | some (.ml ds) => r.bind fun r => r.dat?.bind fun d => if ds.length < 100000 then some (.nx (env.set i (.ml (ds ++ [d])))) else none
  | _ => none
theorem sApp_eq (i : Nat) (f : XE) (env : Env) : sApp i f env = appO i (env[i]?) (f env) env := rfl
theorem appO_im (i : Nat) (ds : List D) (d : D) (env : Env) (h : ds.length < 100000) : appO i (some (.ml ds)) (some (.im d)) env = some (.nx (env.set i (.ml (ds ++ [d])))) := by
  unfold appO
  simp [R.dat?, h]
theorem appO_fr (i : Nat) (ds d : List D) (env : Env) (h : ds.length < 100000) : appO i (some (.ml ds)) (some (.fr d)) env = some (.nx (env.set i (.ml (ds ++ [.list d])))) := by
  unfold appO
  simp [R.dat?, h]
def extO (i : Nat) (s : Option Sl) (r : Option R) (env : Env) : Option Out := match s with
  | some (.ml ds) => r.bind fun r => r.lst?.bind fun es => if ds.length + es.length ≤ 100000 then some (.nx (env.set i (.ml (ds ++ es)))) else none
  | _ => none
theorem sExt_eq (i : Nat) (f : XE) (env : Env) : sExt i f env = extO i (env[i]?) (f env) env := rfl
theorem extO_fr (i : Nat) (ds es : List D) (env : Env) (h : ds.length + es.length ≤ 100000) : extO i (some (.ml ds)) (some (.fr es)) env = some (.nx (env.set i (.ml (ds ++ es)))) := by
  unfold extO
  simp [R.lst?, h]
def storeO (i : Nat) (s : Option Sl) (k r : Option R) (env : Env) : Option Out := r.bind fun r => r.dat?.bind fun d => match s with
  | some (.ml ds) => k.bind fun k => (match k with
    | .im (.int n) => (ixN ds.length n).map fun j => .nx (env.set i (.ml (ds.set j d)))
    | _ => none)
  | _ => none
theorem sStore_eq (i : Nat) (g f : XE) (env : Env) : sStore i g f env = storeO i (env[i]?) (g env) (f env) env := rfl
theorem ixN_nat {n j : Nat} (h : j < n) : ixN n (j : Int) = some j := by
  unfold ixN
  rw [if_pos (by omega), if_pos (by omega)]
  simp
theorem storeO_im (i : Nat) (ds : List D) (j : Nat) (n : Int) (d : D) (env : Env) (e : n = (j : Int)) (h : j < ds.length) : storeO i (some (.ml ds)) (some (.im (.int n))) (some (.im d)) env = some (.nx (env.set i (.ml (ds.set j d)))) := by
  subst e
  show ((ixN ds.length (j : Int)).map fun j => Out.nx (env.set i (.ml (ds.set j d)))) = _
  rw [ixN_nat h]
  rfl
def forO (t : Option (List D × Env)) (g : XG) (b : XS) : Option Out := t.bind fun t => forL g b t.1 t.2
theorem sFor_eq (q : XI) (g : XG) (b : XS) (env : Env) : sFor q g b env = forO (q env) g b := rfl
theorem forO_some (ds : List D) (e : Env) (g : XG) (b : XS) : forO (some (ds, e)) g b = forL g b ds e := rfl
def unpO (is : List Nat) (r : Option R) (env : Env) : Option Out := r.bind fun r => match r with
  | .im (.tuple ds) => (putAll is env ds).map .nx
  | r => r.lst?.bind fun ds => (putAll is env ds).map .nx
theorem sUnp_eq (is : List Nat) (f : XE) (env : Env) : sUnp is f env = unpO is (f env) env := rfl
theorem unpO_tup (is : List Nat) (ds : List D) (env : Env) : unpO is (some (.im (.tuple ds))) env = (putAll is env ds).map .nx := rfl
theorem unpO_fr (is : List Nat) (ds : List D) (env : Env) : unpO is (some (.fr ds)) env = (putAll is env ds).map .nx := rfl
theorem putAll_nil (env : Env) : putAll [] env [] = some env := rfl
theorem putAll_cons (i : Nat) (is : List Nat) (env : Env) (d : D) (ds : List D) (h : i < env.length) : putAll (i :: is) env (d :: ds) = putAll is (env.set i (.im d)) ds := by
  show (if i < env.length then _ else _) = _
  rw [if_pos h]

/-! expressions -/
theorem xVar_eq (i : Nat) (env : Env) : xVar i env = (env[i]?).bind Sl.get := rfl
theorem e_get_im (d : D) : Sl.get (.im d) = some (.im d) := rfl
theorem e_get_bo (d : List D) : Sl.get (.bo d) = some (.ls d) := rfl
theorem e_get_ml (d : List D) : Sl.get (.ml d) = some (.ls d) := rfl
theorem e_get_sc (d : List D) : Sl.get (.sc d) = some (.sc d) := rfl
theorem xC_eq (d : D) (env : Env) : xC d env = some (.im d) := rfl
def binO (s : Sem2) (x y : Option R) : Option R := x.bind fun x => y.bind fun y => s x y
theorem xBin_eq (s : Sem2) (f g : XE) (env : Env) : xBin s f g env = binO s (f env) (g env) := rfl
theorem binO_some (s : Sem2) (x y : R) : binO s (some x) (some y) = s x y := rfl
theorem xUn_eq (s : Sem1) (f : XE) (env : Env) : xUn s f env = (f env).bind s := rfl
theorem xaNil_eq (env : Env) : xaNil env = some [] := rfl
def consO (x : Option R) (xs : Option (List R)) : Option (List R) := x.bind fun x => xs.bind fun xs => some (x :: xs)
theorem xaCons_eq (f : XE) (g : XA) (env : Env) : xaCons f g env = consO (f env) (g env) := rfl
theorem consO_some (x : R) (xs : List R) : consO (some x) (some xs) = some (x :: xs) := rfl
theorem xCB_eq (s : SemN) (g : XA) (env : Env) : xCB s g env = (g env).bind s := rfl
def callO (F : SemN) (rs : Option (List R)) : Option R := rs.bind fun rs => F (rs.map R.arg)
theorem xCall_eq (F : SemN) (g : XA) (env : Env) : xCall F g env = callO F (g env) := rfl
theorem callO_some (F : SemN) (rs : List R) : callO F (some rs) = F (rs.map R.arg) := rfl
theorem e_arg_im (d : D) : R.arg (.im d) = .im d := rfl
theorem e_arg_ls (d : List D) : R.arg (.ls d) = .ls d := rfl
theorem e_arg_fr (d : List D) : R.arg (.fr d) = .ls d := rfl
theorem e_arg_sc (d : List D) : R.arg (.sc d) = .sc d := rfl
def tupO (rs : Option (List R)) : Option R := rs.bind fun rs => (dats rs).bind fun ds => if ds.length ≤ 100000 then some (.im (.tuple ds)) else none
def lstO (rs : Option (List R)) : Option R := rs.bind fun rs => (dats rs).bind fun ds => if ds.length ≤ 100000 then some (.fr ds) else none
theorem xTup_eq (g : XA) (env : Env) : xTup g env = tupO (g env) := rfl
theorem xLst_eq (g : XA) (env : Env) : xLst g env = lstO (g env) := rfl
def allDat : List R → Option (List D) := dats
theorem tupO_ok {rs : List R} {ds : List D} (h : dats rs = some ds) (hl : ds.length ≤ 100000) : tupO (some rs) = some (.im (.tuple ds)) := by
  unfold tupO
  rw [Option.bind_some, h, Option.bind_some, if_pos hl]
theorem tupO_0 : tupO (some []) = some (.im (.tuple [])) := rfl
theorem tupO_1 (a : D) : tupO (some [.im a]) = some (.im (.tuple [a])) := rfl
theorem tupO_2 (a b : D) : tupO (some [.im a, .im b]) = some (.im (.tuple [a, b])) := rfl
theorem tupO_3 (a b c : D) : tupO (some [.im a, .im b, .im c]) = some (.im (.tuple [a, b, c])) := rfl
theorem lstO_0 : lstO (some []) = some (.fr []) := rfl
theorem lstO_1 (a : D) : lstO (some [.im a]) = some (.fr [a]) := rfl
theorem lstO_2 (a b : D) : lstO (some [.im a, .im b]) = some (.fr [a, b]) := rfl
def andO (x : Option R) (g : XE) (env : Env) : Option R := x.bind fun x => match x with
  | .im (.bool true) => g env
  | .im (.bool false) => some (.im (.bool false))
  | _ => none
def orO (x : Option R) (g : XE) (env : Env) : Option R := x.bind fun x => match x with
  | .im (.bool false) => g env
  | .im (.bool true) => some (.im (.bool true))
  | _ => none
def notO (x : Option R) : Option R := x.bind fun x => match x with
  | .im (.bool b) => some (.im (.bool (!b)))
  | _ => none
theorem xAnd_eq (f g : XE) (env : Env) : xAnd f g env = andO (f env) g env := rfl
theorem xOr_eq (f g : XE) (env : Env) : xOr f g env = orO (f env) g env := rfl
theorem xNot_eq (f : XE) (env : Env) : xNot f env = notO (f env) := rfl
theorem andO_b (k : Bool) (g : XE) (env : Env) : andO (some (.im (.bool k))) g env = if k = true then g env else some (.im (.bool false)) := by cases k <;> rfl
theorem orO_b (k : Bool) (g : XE) (env : Env) : orO (some (.im (.bool k))) g env = if k = true then some (.im (.bool true)) else g env := by cases k <;> rfl
theorem notO_b (k : Bool) : notO (some (.im (.bool k))) = some (.im (.bool (!k))) := rfl
def chainO (s s' : Sem2) (x y : Option R) (h : XE) (env : Env) : Option R := x.bind fun x => y.bind fun y => (s x y).bind fun z => match z with
  | .im (.bool true) => (h env).bind fun w => s' y w
  | .im (.bool false) => some (.im (.bool false))
  | _ => none
theorem xChain_eq (s s' : Sem2) (f g h : XE) (env : Env) : xChain s s' f g h env = chainO s s' (f env) (g env) h env := rfl
theorem chainO_int (p q : Int → Int → Bool) (a b : Int) (h : XE) (env : Env) : chainO (cmpI p) (cmpI q) (some (.im (.int a))) (some (.im (.int b))) h env = if p a b = true then binO (cmpI q) (some (.im (.int b))) (h env) else some (.im (.bool false)) := by
  show (match (R.im (.bool (p a b))) with
    | .im (.bool true) => (h env).bind fun w => cmpI q (.im (.int b)) w
    | .im (.bool false) => some (.im (.bool false))
    | _ => none) = _
  cases p a b <;> rfl
def partO (x : Option R) : Option (Option Int) := x.bind fun x => match x with
  | .im (.int i) => some (some i)
  | _ => none
theorem xoNone_eq (env : Env) : xoNone env = some none := rfl
theorem xoSome_eq (f : XE) (env : Env) : xoSome f env = partO (f env) := rfl
theorem partO_int (i : Int) : partO (some (.im (.int i))) = some (some i) := rfl
def sliceO (x : Option R) (l u : Option (Option Int)) : Option R := x.bind fun x => l.bind fun lo => u.bind fun hi => sliceR x lo hi
theorem xSlice_eq (f : XE) (l u : XO) (env : Env) : xSlice f l u env = sliceO (f env) (l env) (u env) := rfl
theorem sliceO_some (x : R) (l u : Option Int) : sliceO (some x) (some l) (some u) = sliceR x l u := rfl
theorem e_slice_tup (ds : List D) (l u : Option Int) : sliceR (.im (.tuple ds)) l u = some (.im (.tuple (cutD ds l u))) := rfl
theorem e_slice_lst (ds : List D) (l u : Option Int) : sliceR (.im (.list ds)) l u = some (.fr (cutD ds l u)) := rfl
theorem e_slice_ls (ds : List D) (l u : Option Int) : sliceR (.ls ds) l u = some (.fr (cutD ds l u)) := rfl
theorem e_slice_fr (ds : List D) (l u : Option Int) : sliceR (.fr ds) l u = some (.fr (cutD ds l u)) := rfl

/-! operations -/
theorem e_add_int (a b : Int) : addR (.im (.int a)) (.im (.int b)) = some (.im (.int (a + b))) := rfl
theorem e_add_tup (a b : List D) (h : a.length + b.length ≤ 100000) : addR (.im (.tuple a)) (.im (.tuple b)) = some (.im (.tuple (a ++ b))) := if_pos h
theorem e_add_str (a b : Str) (h : a.length + b.length ≤ 100000) : addR (.im (.str a)) (.im (.str b)) = some (.im (.str (a ++ b))) := if_pos h
theorem e_add_frfr (a b : List D) (h : a.length + b.length ≤ 100000) : addR (.fr a) (.fr b) = some (.fr (a ++ b)) := if_pos h
theorem e_add_lsfr (a b : List D) (h : a.length + b.length ≤ 100000) : addR (.ls a) (.fr b) = some (.fr (a ++ b)) := if_pos h
theorem e_add_frls (a b : List D) (h : a.length + b.length ≤ 100000) : addR (.fr a) (.ls b) = some (.fr (a ++ b)) := if_pos h
theorem e_sub_int (a b : Int) : subR (.im (.int a)) (.im (.int b)) = some (.im (.int (a - b))) := rfl
theorem e_mul_int (a b : Int) (h : small a = true ∨ small b = true) : mulR (.im (.int a)) (.im (.int b)) = some (.im (.int (a * b))) := if_pos (by rcases h with h | h <;> simp [h])
theorem e_mul_tup (a : List D) (k : Int) (h1 : a.length ≤ 1000) (h2 : a ≠ []) (h3 : 2 ≤ k) (h4 : k ≤ 1000) : mulR (.im (.tuple a)) (.im (.int k)) = some (.im (.tuple (List.replicate k.toNat a).flatten)) := if_pos ⟨h1, h2, h3, h4⟩
theorem e_mul_fr (a : List D) (k : Int) (h3 : 0 ≤ k) (h4 : k ≤ 1000) (h1 : a.length ≤ 1000) : mulR (.fr a) (.im (.int k)) = some (.fr (List.replicate k.toNat a).flatten) := if_pos ⟨h3, h4, h1⟩
theorem e_div_int (a b : Int) (h : 0 < b) (h2 : b < 1073741824) : divR (.im (.int a)) (.im (.int b)) = some (.im (.int (a / b))) := if_pos ⟨h, h2⟩
theorem e_mod_int (a b : Int) (h : 0 < b) : modR (.im (.int a)) (.im (.int b)) = some (.im (.int (a % b))) := if_pos h
theorem e_neg_int (a : Int) : negR (.im (.int a)) = some (.im (.int (-a))) := rfl
theorem e_cmp_int (p : Int → Int → Bool) (a b : Int) : cmpI p (.im (.int a)) (.im (.int b)) = some (.im (.bool (p a b))) := rfl
theorem e_shaped_int (a : Int) : SeqAt.shaped (.int a) = true := rfl
theorem e_eqv_int (a b : Int) : PyData.eqv (.int a) (.int b) = decide (a = b) := by
  simp [PyData.eqv]
  by_cases h : a = b <;> simp [h]
theorem e_eq_int (a b : Int) : eqR (.im (.int a)) (.im (.int b)) = some (.im (.bool (decide (a = b)))) := by
  rw [← e_eqv_int]
  rfl
theorem e_ne_int (a b : Int) : neR (.im (.int a)) (.im (.int b)) = some (.im (.bool (!decide (a = b)))) := by
  rw [← e_eqv_int]
  rfl
theorem e_len_tup (ds : List D) : lenR [.im (.tuple ds)] = some (.im (.int ds.length)) := rfl
theorem e_len_ls (ds : List D) : lenR [.ls ds] = some (.im (.int ds.length)) := rfl
theorem e_len_fr (ds : List D) : lenR [.fr ds] = some (.im (.int ds.length)) := rfl
theorem e_len_sc (ds : List D) : lenR [.sc ds] = some (.im (.int ds.length)) := rfl
theorem e_len_list (ds : List D) : lenR [.im (.list ds)] = some (.im (.int ds.length)) := rfl
theorem e_tuple_fr (ds : List D) : tupleR [.fr ds] = some (.im (.tuple ds)) := rfl
theorem e_tuple_ls (ds : List D) : tupleR [.ls ds] = some (.im (.tuple ds)) := rfl
theorem e_tuple_tup (ds : List D) : tupleR [.im (.tuple ds)] = some (.im (.tuple ds)) := rfl
theorem e_list_tup (ds : List D) : listR [.im (.tuple ds)] = some (.fr ds) := rfl
theorem e_list_ls (ds : List D) : listR [.ls ds] = some (.fr ds) := rfl
theorem e_toInt_bool (b : Bool) : intR [.im (.bool b)] = some (.im (.int (if b then 1 else 0))) := rfl
theorem e_toInt_int (i : Int) : intR [.im (.int i)] = some (.im (.int i)) := rfl
theorem e_ix_tup (ds : List D) (i : Int) : ixR (.im (.tuple ds)) (.im (.int i)) = (atI ds i).map .im := rfl
theorem e_ix_lst (ds : List D) (i : Int) : ixR (.im (.list ds)) (.im (.int i)) = (atI ds i).map .im := rfl
theorem e_ix_ls (ds : List D) (i : Int) : ixR (.ls ds) (.im (.int i)) = (atI ds i).map .im := rfl
theorem e_ix_fr (ds : List D) (i : Int) : ixR (.fr ds) (.im (.int i)) = (atI ds i).map .im := rfl
theorem e_ix_sc (ds : List D) (i : Int) : ixR (.sc ds) (.im (.int i)) = (atI ds i).map .im := rfl
theorem e_dat_im (d : D) : R.dat? (.im d) = some d := rfl
theorem e_dat_fr (d : List D) : R.dat? (.fr d) = some (.list d) := rfl
/-! sources -/
def r1O (g : Option (List R)) (env : Env) : Option (List D × Env) := g.bind fun rs => match rs with
  | [.im (.int j)] => if inRg j then some (upTo 0 j.toNat, env) else none
  | _ => none
theorem xiR1_eq (g : XA) (env : Env) : xiR1 g env = r1O (g env) env := rfl
theorem r1O_int (j : Int) (env : Env) (h : inRg j = true) : r1O (some [.im (.int j)]) env = some (upTo 0 j.toNat, env) := if_pos h
def r2O (g : Option (List R)) (env : Env) : Option (List D × Env) := g.bind fun rs => match rs with
  | [.im (.int i), .im (.int j)] => if inRg i && inRg j then some (upTo i (j - i).toNat, env) else none
  | _ => none
theorem xiR2_eq (g : XA) (env : Env) : xiR2 g env = r2O (g env) env := rfl
theorem r2O_int (i j : Int) (env : Env) (h : inRg i = true) (h2 : inRg j = true) : r2O (some [.im (.int i), .im (.int j)]) env = some (upTo i (j - i).toNat, env) := if_pos (by rw [h, h2]; rfl)
theorem xiSeq_eq (q : XQ) (env : Env) : xiSeq q env = (q env).map Prod.snd := rfl
def qVarO (i : Nat) (s : Option Sl) (env : Env) : Option (Bool × List D × Env) := match s with
  | some (.ml ds) => some (false, ds, env.set i (.bo ds))
  | some (.bo ds) => some (false, ds, env)
  | some (.im (.list ds)) => some (false, ds, env)
  | some (.im (.tuple ds)) => some (true, ds, env)
  | _ => none
theorem xqVar_eq (i : Nat) (env : Env) : xqVar i env = qVarO i (env[i]?) env := rfl
theorem qVarO_ml (i : Nat) (ds : List D) (env : Env) : qVarO i (some (.ml ds)) env = some (false, ds, env.set i (.bo ds)) := rfl
theorem qVarO_bo (i : Nat) (ds : List D) (env : Env) : qVarO i (some (.bo ds)) env = some (false, ds, env) := rfl
theorem qVarO_lst (i : Nat) (ds : List D) (env : Env) : qVarO i (some (.im (.list ds))) env = some (false, ds, env) := rfl
theorem qVarO_tup (i : Nat) (ds : List D) (env : Env) : qVarO i (some (.im (.tuple ds))) env = some (true, ds, env) := rfl
def qEO (r : Option R) (env : Env) : Option (Bool × List D × Env) := r.bind fun r => match r with
  | .im (.list ds) => some (false, ds, env)
  | .im (.tuple ds) => some (true, ds, env)
  | .fr ds => some (false, ds, env)
  | _ => none
theorem xqE_eq (f : XE) (env : Env) : xqE f env = qEO (f env) env := rfl
theorem qEO_lst (ds : List D) (env : Env) : qEO (some (.im (.list ds))) env = some (false, ds, env) := rfl
theorem qEO_tup (ds : List D) (env : Env) : qEO (some (.im (.tuple ds))) env = some (true, ds, env) := rfl
theorem qEO_fr (ds : List D) (env : Env) : qEO (some (.fr ds)) env = some (false, ds, env) := rfl
def zip2O (t1 : Option (Bool × List D × Env)) (q2 : XQ) : Option (List D × Env) := t1.bind fun t1 => (q2 t1.2.2).bind fun t2 => if t1.1 = t2.1 then some (List.zipWith pairD t1.2.1 t2.2.1, t2.2.2) else none
def zip1O (k : Bool) (ds : List D) (t2 : Option (Bool × List D × Env)) : Option (List D × Env) := t2.bind fun t2 => if k = t2.1 then some (List.zipWith pairD ds t2.2.1, t2.2.2) else none
theorem xiZip_eq (q1 q2 : XQ) (env : Env) : xiZip q1 q2 env = zip2O (q1 env) q2 := rfl
theorem zip2O_some (k : Bool) (ds : List D) (e : Env) (q2 : XQ) : zip2O (some (k, ds, e)) q2 = zip1O k ds (q2 e) := rfl
theorem zip1O_some (k : Bool) (ds es : List D) (e : Env) : zip1O k ds (some (k, es, e)) = some (List.zipWith pairD ds es, e) := if_pos rfl
theorem xiEnum_eq (q : XQ) (env : Env) : xiEnum q env = (q env).map fun t => (enumD 0 t.2.1, t.2.2) := rfl
theorem gOne_eq (i : Nat) (env : Env) (d : D) (h : i < env.length) : gOne i env d = some (env.set i (.im d)) := if_pos h
theorem gTwo_eq (i j : Nat) (env : Env) (x y : D) (h : i < env.length) (h2 : j < env.length) : gTwo i j env (.tuple [x, y]) = some ((env.set i (.im x)).set j (.im y)) := if_pos ⟨h, h2⟩
theorem runF_eq (n p : Nat) (m : XS) (rs : List R) (h : rs.length = p) : runF n p m rs = (m (startE n rs)).bind fun o => (match o with
  | .rt r => some r
  | .nx _ => some (.im .none)
  | _ => none) := if_pos h
def endO (o : Option Out) : Option R := o.bind fun o => (match o with
  | .rt r => some r
  | .nx _ => some (.im .none)
  | _ => none)
theorem runF_end (n p : Nat) (m : XS) (rs : List R) (h : rs.length = p) : runF n p m rs = endO (m (startE n rs)) := if_pos h
theorem endO_rt (r : R) : endO (some (.rt r)) = some r := rfl
theorem endO_nx (e : Env) : endO (some (.nx e)) = some (.im .none) := rfl
theorem bor_nil : bor [] = [] := rfl
theorem bor_cons (s : Sl) (e : Env) : bor (s :: e) = s.bor :: bor e := rfl
end Ct

end
section
set_option maxRecDepth 100000
namespace Ct
open PySem L2

/-! ### running: loops -/
/-- a loop whose slots between two turns are E a -/
theorem forL_fold {α β : Type} (E : α → Env) (enc : β → D) (g : XG) (body : XS) (step : α → β → α) : ∀ (xs : List β) (a : α), (∀ pre x post, xs = pre ++ x :: post → (g (E (pre.foldl step a)) (enc x)).bind body = some (.nx (E (step (pre.foldl step a) x)))) →
    forL g body (xs.map enc) (E a) = some (.nx (E (xs.foldl step a)))
  | [], a, _ => rfl
  | x :: xs, a, h => by
    have h1 := h [] x xs rfl
    obtain ⟨e1, h2, h3⟩ := Option.bind_eq_some_iff.mp h1
    have h2' : g (E a) (enc x) = some e1 := h2
    have h3' : body e1 = some (.nx (E (step a x))) := h3
    show ((g (E a) (enc x)).bind fun e1 => (body e1).bind fun o => _) = _
    rw [h2', Option.bind_some, h3', Option.bind_some]
    exact forL_fold E enc g body step xs (step a x) fun pre y post e => h (x :: pre) y post (by rw [e]; rfl)
/-- the same, whatever the part ahead is -/
theorem forL_foldS {α β : Type} (E : α → Env) (enc : β → D) (g : XG) (body : XS) (step : α → β → α) (xs : List β) (a : α) (h : ∀ x ∈ xs, ∀ a, (g (E a) (enc x)).bind body = some (.nx (E (step a x)))) :
    forL g body (xs.map enc) (E a) = some (.nx (E (xs.foldl step a))) :=
  forL_fold E enc g body step xs a fun pre x post e => h x (by rw [e]; exact List.mem_append_right _ List.mem_cons_self) _
theorem foldl_app {α β : Type} (f : β → α) : ∀ (xs : List β) (acc : List α), xs.foldl (fun acc x => acc ++ [f x]) acc = acc ++ xs.map f
  | [], acc => (List.append_nil acc).symm
  | x :: xs, acc => by
    rw [List.foldl_cons, foldl_app f xs, List.append_assoc]
    rfl
/-- a loop that fills a list -/
theorem forL_app {β : Type} (E : List D → Env) (enc : β → D) (g : XG) (body : XS) (f : β → D) (xs : List β) (acc : List D) (h : ∀ pre x post, xs = pre ++ x :: post → (g (E (acc ++ pre.map f)) (enc x)).bind body = some (.nx (E (acc ++ pre.map f ++ [f x])))) :
    forL g body (xs.map enc) (E acc) = some (.nx (E (acc ++ xs.map f))) := by
  rw [← foldl_app f xs acc]
  exact forL_fold E enc g body _ xs acc fun pre x post e => by
    rw [foldl_app]
    exact h pre x post e
theorem compL_map {β : Type} (g : XG) (f : XE) (env : Env) (enc : β → D) (h : β → D) : ∀ (xs : List β), (∀ x ∈ xs, (g env (enc x)).bind (fun e1 => (f e1).bind R.dat?) = some (h x)) → compL g (xC (.bool true)) f env (xs.map enc) = some (xs.map h)
  | [], _ => rfl
  | x :: xs, hx => by
    obtain ⟨e1, h2, h3⟩ := Option.bind_eq_some_iff.mp (hx x List.mem_cons_self)
    obtain ⟨r, h4, h5⟩ := Option.bind_eq_some_iff.mp h3
    show ((g env (enc x)).bind fun e1 => ((some (R.im (.bool true))).bind fun b => _)) = _
    rw [h2]
    show ((f e1).bind fun r => r.dat?.bind fun y => (compL g (xC (.bool true)) f env (xs.map enc)).map (y :: ·)) = _
    rw [h4, Option.bind_some, h5, Option.bind_some, compL_map g f env enc h xs fun y hy => hx y (List.mem_cons_of_mem _ hy)]
    rfl
theorem compL_filter {β : Type} (g : XG) (t f : XE) (env : Env) (enc : β → D) (k : β → Bool) (h : β → D) : ∀ (xs : List β), (∀ x ∈ xs, ∃ e1, g env (enc x) = some e1 ∧ t e1 = some (.im (.bool (k x))) ∧ (k x = true → (f e1).bind R.dat? = some (h x))) →
    compL g t f env (xs.map enc) = some ((xs.filter k).map h)
  | [], _ => rfl
  | x :: xs, hx => by
    obtain ⟨e1, h2, h3, h4⟩ := hx x List.mem_cons_self
    have ih := compL_filter g t f env enc k h xs fun y hy => hx y (List.mem_cons_of_mem _ hy)
    show ((g env (enc x)).bind fun e1 => ((t e1).bind fun b => _)) = _
    rw [h2, Option.bind_some, h3, Option.bind_some]
    cases hk : k x with
    | true =>
      obtain ⟨r, h5, h6⟩ := Option.bind_eq_some_iff.mp (h4 hk)
      rw [List.filter_cons, if_pos hk]
      show ((f e1).bind fun r => r.dat?.bind fun y => (compL g t f env (xs.map enc)).map (y :: ·)) = _
      rw [h5, Option.bind_some, h6, Option.bind_some, ih]
      rfl
    | false =>
      rw [List.filter_cons, if_neg (by rw [hk]; exact Bool.false_ne_true)]
      exact ih

theorem xComp_ok {β : Type} {vs : List Nat} {q : XI} {g : XG} {f : XE} {env env' : Env} (enc h : β → D) (xs : List β) (hq : q (bor env) = some (xs.map enc, env')) (hl : xs.length ≤ 50000)
    (hx : ∀ x ∈ xs, (g (wipeE vs env') (enc x)).bind (fun e1 => (f e1).bind R.dat?) = some (h x)) : xComp vs q g (xC (.bool true)) f env = some (.fr (xs.map h)) := by
  unfold xComp
  rw [hq, Option.bind_some, if_pos (by rw [List.length_map]; exact hl), compL_map g f _ enc h xs hx]
  rfl
theorem xComp_if {β : Type} {vs : List Nat} {q : XI} {g : XG} {t f : XE} {env env' : Env} (enc h : β → D) (k : β → Bool) (xs : List β) (hq : q (bor env) = some (xs.map enc, env')) (hl : xs.length ≤ 50000)
    (hx : ∀ x ∈ xs, ∃ e1, g (wipeE vs env') (enc x) = some e1 ∧ t e1 = some (.im (.bool (k x))) ∧ (k x = true → (f e1).bind R.dat? = some (h x))) : xComp vs q g t f env = some (.fr ((xs.filter k).map h)) := by
  unfold xComp
  rw [hq, Option.bind_some, if_pos (by rw [List.length_map]; exact hl), compL_filter g t f _ enc k h xs hx]
  rfl
theorem upTo_eq (lo : Int) (n : Nat) : upTo lo n = (List.range n).map fun (k : Nat) => PyData.int (lo + (k : Int)) := rfl
theorem upTo0 (n : Nat) : upTo 0 n = (List.range n).map fun (k : Nat) => PyData.int (k : Int) := by
  unfold upTo
  congr 1
  funext k
  rw [Int.zero_add]
theorem inRg_nat {n : Nat} (h : n ≤ 1000000) : inRg (n : Int) = true := by
  unfold inRg
  simp
  omega
theorem at0 {α : Type} (x : α) (xs : List α) : atI (x :: xs) 0 = some x := atI_nat (j := 0) rfl
theorem at1 {α : Type} (x y : α) (xs : List α) : atI (x :: y :: xs) 1 = some y := atI_nat (j := 1) rfl
theorem at2 {α : Type} (x y z : α) (xs : List α) : atI (x :: y :: z :: xs) 2 = some z := atI_nat (j := 2) rfl
theorem atN {α : Type} {xs : List α} {j : Nat} {v : α} (h : xs[j]? = some v) : atI xs (j : Int) = some v := atI_nat h
/-! ### tables -/
abbrev Row := List Int
abbrev Tab := List (List Int)
def rowD (r : Row) : D := .tuple (r.map .int)
def tabD (t : Tab) : D := .tuple (t.map rowD)
def plusT (p : Int) (a b : Tab) : Tab := List.zipWith (fun r s => List.zipWith (fun x y => (x + y) % p) r s) a b
def scaledT (p n : Int) (a : Tab) : Tab := a.map (·.map fun x => n * x % p)
def turnedT (a : Tab) : Tab := (List.range (a.headD []).length).map fun j => a.map (·.getD j 0)
def dot (r c : Row) : Int := (List.zipWith (· * ·) r c).sum
def timesT (p : Int) (a b : Tab) : Tab := a.map fun r => (turnedT b).map fun c => dot r c % p
theorem zip_map {α β γ δ : Type} (f : α → γ) (g : β → δ) (h : γ → δ → D) : ∀ (xs : List α) (ys : List β), List.zipWith h (xs.map f) (ys.map g) = (xs.zip ys).map fun p => h (f p.1) (g p.2)
  | [], _ => by simp
  | _ :: _, [] => by simp
  | x :: xs, y :: ys => by
    show _ :: _ = _ :: _
    rw [zip_map f g h xs ys]
    rfl
theorem dInts_map : ∀ ns : List Int, dInts (ns.map .int) = some ns
  | [] => rfl
  | n :: ns => by
    show (dInts (ns.map .int)).map (n :: ·) = _
    rw [dInts_map ns]
    rfl
theorem dBools_map : ∀ ns : List Bool, dBools (ns.map .bool) = some ns
  | [] => rfl
  | n :: ns => by
    show (dBools (ns.map .bool)).map (n :: ·) = _
    rw [dBools_map ns]
    rfl
theorem atI_nat' {α : Type} {xs : List α} {j : Nat} {z : Int} {v : α} (e : z = (j : Int)) (h : xs[j]? = some v) : atI xs z = some v := by
  rw [e]
  exact atI_nat h

/-! ### equality of data -/
theorem eqvAll_map {α : Type} [DecidableEq α] {f : α → D} (h : ∀ x y, PyData.eqv (f x) (f y) = decide (x = y)) : ∀ xs ys : List α, PyData.eqvAll (xs.map f) (ys.map f) = decide (xs = ys)
  | [], [] => by simp [PyData.eqvAll]
  | [], _ :: _ => by simp [PyData.eqvAll]
  | _ :: _, [] => by simp [PyData.eqvAll]
  | x :: xs, y :: ys => by
    rw [List.map_cons, List.map_cons, PyData.eqvAll, h x y, eqvAll_map h xs ys]
    by_cases e1 : x = y <;> by_cases e2 : xs = ys <;> simp [e1, e2]
theorem eqv_row (r s : Row) : PyData.eqv (rowD r) (rowD s) = decide (r = s) := by
  unfold rowD
  rw [PyData.eqv]
  exact eqvAll_map e_eqv_int r s
theorem eqv_tab (a b : Tab) : PyData.eqv (tabD a) (tabD b) = decide (a = b) := by
  unfold tabD
  rw [PyData.eqv]
  exact eqvAll_map eqv_row a b
theorem lay_map {α : Type} {f : α → D} : ∀ xs : List α, (∀ x ∈ xs, (f x).canLay0 = true) → PyData.canLayAll0 (xs.map f) = true
  | [], _ => rfl
  | x :: xs, h => by
    rw [List.map_cons, PyData.canLayAll0, h x List.mem_cons_self, lay_map xs fun y hy => h y (List.mem_cons_of_mem _ hy)]
    rfl
theorem depth_map {α : Type} {f : α → D} {n : Nat} : ∀ xs : List α, (∀ x ∈ xs, (f x).depth ≤ n) → PyData.depthAll (xs.map f) ≤ n
  | [], _ => Nat.zero_le _
  | x :: xs, h => by
    rw [List.map_cons, PyData.depthAll]
    exact Nat.max_le.mpr ⟨h x List.mem_cons_self, depth_map xs fun y hy => h y (List.mem_cons_of_mem _ hy)⟩
theorem row_lay (r : Row) : (rowD r).canLay0 = true := lay_map r fun _ _ => rfl
theorem row_depth (r : Row) : (rowD r).depth ≤ 1 := Nat.succ_le_succ (depth_map (n := 0) r fun _ _ => Nat.le_refl _)
theorem tab_lay (a : Tab) : (tabD a).canLay0 = true := lay_map a fun r _ => row_lay r
theorem tab_depth (a : Tab) : (tabD a).depth ≤ 2 := Nat.succ_le_succ (depth_map (n := 1) a fun r _ => row_depth r)
theorem shaped_of {d : D} (h : d.canLay0 = true) (h2 : d.depth ≤ 64) : SeqAt.shaped d = true := by
  unfold SeqAt.shaped
  rw [h, decide_eq_true h2]
  rfl
theorem shaped_row (r : Row) : SeqAt.shaped (rowD r) = true := shaped_of (row_lay r) (Nat.le_trans (row_depth r) (by decide))
theorem shaped_tab (a : Tab) : SeqAt.shaped (tabD a) = true := shaped_of (tab_lay a) (Nat.le_trans (tab_depth a) (by decide))
theorem eq_see {x y : R} {d e : D} (hx : x.see = d) (hy : y.see = e) (h1 : SeqAt.shaped d = true) (h2 : SeqAt.shaped e = true) : eqR x y = some (.im (.bool (PyData.eqv d e))) := by
  unfold eqR
  rw [hx, hy, h1, h2]
  rfl
theorem ne_see {x y : R} {d e : D} (hx : x.see = d) (hy : y.see = e) (h1 : SeqAt.shaped d = true) (h2 : SeqAt.shaped e = true) : neR x y = some (.im (.bool (!PyData.eqv d e))) := by
  unfold neR
  rw [hx, hy, h1, h2]
  rfl
theorem e_eq_tab (a b : Tab) : eqR (.im (tabD a)) (.im (tabD b)) = some (.im (.bool (decide (a = b)))) := by
  have h := eq_see (x := .im (tabD a)) (y := .im (tabD b)) (d := tabD a) (e := tabD b) rfl rfl (shaped_tab a) (shaped_tab b)
  rw [eqv_tab] at h
  exact h
theorem e_ne_tab (a b : Tab) : neR (.im (tabD a)) (.im (tabD b)) = some (.im (.bool (!decide (a = b)))) := by
  have h := ne_see (x := .im (tabD a)) (y := .im (tabD b)) (d := tabD a) (e := tabD b) rfl rfl (shaped_tab a) (shaped_tab b)
  rw [eqv_tab] at h
  exact h
theorem e_eq_tab' (a b : Tab) : eqR (.im (tabD a)) (.im (.tuple (b.map rowD))) = some (.im (.bool (decide (a = b)))) := e_eq_tab a b
theorem e_ne_tab' (a b : Tab) : neR (.im (tabD a)) (.im (.tuple (b.map rowD))) = some (.im (.bool (!decide (a = b)))) := e_ne_tab a b
theorem e_eq_ints {x y : R} (a b : Row) (hx : x.see = .list (a.map .int)) (hy : y.see = .list (b.map .int)) : eqR x y = some (.im (.bool (decide (a = b)))) := by
  have h := eq_see hx hy (shaped_of (lay_map a fun _ _ => rfl) (Nat.le_trans (Nat.succ_le_succ (depth_map (n := 0) a fun _ _ => Nat.le_refl _)) (by decide))) (shaped_of (lay_map b fun _ _ => rfl) (Nat.le_trans (Nat.succ_le_succ (depth_map (n := 0) b fun _ _ => Nat.le_refl _)) (by decide)))
  have e : PyData.eqv (.list (a.map .int)) (.list (b.map .int)) = decide (a = b) := by
    rw [PyData.eqv]
    exact eqvAll_map e_eqv_int a b
  rw [e] at h
  exact h
theorem e_ne_ints {x y : R} (a b : Row) (hx : x.see = .list (a.map .int)) (hy : y.see = .list (b.map .int)) : neR x y = some (.im (.bool (!decide (a = b)))) := by
  have h := ne_see hx hy (shaped_of (lay_map a fun _ _ => rfl) (Nat.le_trans (Nat.succ_le_succ (depth_map (n := 0) a fun _ _ => Nat.le_refl _)) (by decide))) (shaped_of (lay_map b fun _ _ => rfl) (Nat.le_trans (Nat.succ_le_succ (depth_map (n := 0) b fun _ _ => Nat.le_refl _)) (by decide)))
  have e : PyData.eqv (.list (a.map .int)) (.list (b.map .int)) = decide (a = b) := by
    rw [PyData.eqv]
    exact eqvAll_map e_eqv_int a b
  rw [e] at h
  exact h
theorem e_pow_int (a b : Int) (h1 : 0 ≤ b) (h2 : b ≤ 1000000) (h3 : a.natAbs < 18446744073709551616) : powR (.im (.int a)) (.im (.int b)) = some (.im (.int (a ^ b.toNat))) := if_pos ⟨h1, h2, h3⟩
theorem e_eq_row (a b : Row) : eqR (.im (rowD a)) (.im (rowD b)) = some (.im (.bool (decide (a = b)))) := by
  have h := eq_see (x := .im (rowD a)) (y := .im (rowD b)) (d := rowD a) (e := rowD b) rfl rfl (shaped_row a) (shaped_row b)
  rw [eqv_row] at h
  exact h
theorem e_ne_row (a b : Row) : neR (.im (rowD a)) (.im (rowD b)) = some (.im (.bool (!decide (a = b)))) := by
  have h := ne_see (x := .im (rowD a)) (y := .im (rowD b)) (d := rowD a) (e := rowD b) rfl rfl (shaped_row a) (shaped_row b)
  rw [eqv_row] at h
  exact h
theorem seq_step {f g : XS} {env e' : Env} {o : Out} (h1 : f env = some (.nx e')) (h2 : g e' = some o) : sSeq f g env = some o := by
  rw [sSeq_eq, h1, seqO_nx, h2]
theorem run_of {n p : Nat} {m : XS} {rs : List R} {r : R} (h : rs.length = p) (e : m (startE n rs) = some (.rt r)) : runF n p m rs = some r := by
  rw [runF_end _ _ _ _ h, e, endO_rt]
end Ct

end
section
set_option maxRecDepth 100000
namespace Ct
open PySem L2

/-! ### sums -/
def sumN : Nat → (Nat → Int) → Int
  | 0, _ => 0
  | n + 1, f => sumN n f + f n
theorem sumN_congr {f g : Nat → Int} : ∀ {n : Nat}, (∀ k, k < n → f k = g k) → sumN n f = sumN n g
  | 0, _ => rfl
  | n + 1, h => by
    show sumN n f + f n = sumN n g + g n
    rw [sumN_congr (n := n) fun k hk => h k (by omega), h n (by omega)]
theorem sumN_zero : ∀ n : Nat, sumN n (fun _ => 0) = 0
  | 0 => rfl
  | n + 1 => by
    show sumN n (fun _ => 0) + 0 = 0
    rw [sumN_zero n]
    rfl
theorem sumN_add (f g : Nat → Int) : ∀ n : Nat, sumN n (fun k => f k + g k) = sumN n f + sumN n g
  | 0 => rfl
  | n + 1 => by
    show sumN n (fun k => f k + g k) + (f n + g n) = sumN n f + f n + (sumN n g + g n)
    rw [sumN_add f g n]
    omega
theorem sumN_mulL (c : Int) (f : Nat → Int) : ∀ n : Nat, sumN n (fun k => c * f k) = c * sumN n f
  | 0 => (Int.mul_zero c).symm
  | n + 1 => by
    show sumN n (fun k => c * f k) + c * f n = c * (sumN n f + f n)
    rw [sumN_mulL c f n, Int.mul_add]
theorem sumN_mulR (c : Int) (f : Nat → Int) (n : Nat) : sumN n (fun k => f k * c) = sumN n f * c := by
  have h : (fun k => f k * c) = fun k => c * f k := funext fun k => Int.mul_comm _ _
  rw [h, sumN_mulL, Int.mul_comm]
theorem sumN_swap (f : Nat → Nat → Int) (m : Nat) : ∀ n : Nat, sumN n (fun i => sumN m (fun j => f i j)) = sumN m (fun j => sumN n (fun i => f i j))
  | 0 => (sumN_zero m).symm
  | n + 1 => by
    show sumN n (fun i => sumN m (fun j => f i j)) + sumN m (fun j => f n j) = sumN m (fun j => sumN n (fun i => f i j) + f n j)
    rw [sumN_swap f m n, sumN_add]
theorem sumN_mod (p : Int) (f : Nat → Int) : ∀ n : Nat, sumN n (fun k => f k % p) % p = sumN n f % p
  | 0 => rfl
  | n + 1 => by
    show (sumN n (fun k => f k % p) + f n % p) % p = (sumN n f + f n) % p
    rw [Int.add_emod, sumN_mod p f n, Int.emod_emod, ← Int.add_emod]
/-- the one place that counts -/
theorem sumN_one (f : Nat → Int) (i : Nat) : ∀ n : Nat, i < n → sumN n (fun k => if k = i then f k else 0) = f i
  | 0, h => absurd h (Nat.not_lt_zero i)
  | n + 1, h => by
    show sumN n (fun k => if k = i then f k else 0) + (if n = i then f n else 0) = f i
    by_cases e : n = i
    · subst e
      rw [if_pos rfl, sumN_congr (g := fun _ => 0) fun k hk => if_neg (by omega), sumN_zero]
      exact Int.zero_add _
    · rw [if_neg e, sumN_one f i n (by omega)]
      exact Int.add_zero _

/-! ### tables by places -/
def tmk (r c : Nat) (f : Nat → Nat → Int) : Tab := (List.range r).map fun i => (List.range c).map fun j => f i j
def tget (a : Tab) (i j : Nat) : Int := (a.getD i []).getD j 0
structure Dim (r c : Nat) (a : Tab) : Prop where
  len : a.length = r
  row : ∀ x ∈ a, x.length = c
structure Ok (p : Int) (r c : Nat) (a : Tab) : Prop extends Dim r c a where
  num : ∀ x ∈ a, ∀ y ∈ x, 0 ≤ y ∧ y < p
theorem tmk_congr {r c : Nat} {f g : Nat → Nat → Int} (h : ∀ i j, i < r → j < c → f i j = g i j) : tmk r c f = tmk r c g := by
  unfold tmk
  refine List.map_congr_left fun i hi => List.map_congr_left fun j hj => ?_
  exact h i j (List.mem_range.mp hi) (List.mem_range.mp hj)
theorem tmk_dim (r c : Nat) (f : Nat → Nat → Int) : Dim r c (tmk r c f) := by
  refine ⟨by unfold tmk; simp, fun x hx => ?_⟩
  unfold tmk at hx
  obtain ⟨i, _, rfl⟩ := List.mem_map.mp hx
  simp
theorem tget_tmk {r c : Nat} {f : Nat → Nat → Int} {i j : Nat} (hi : i < r) (hj : j < c) : tget (tmk r c f) i j = f i j := by
  unfold tget tmk
  simp [List.getD, hi, hj]
theorem range_map_getD {α : Type} (d : α) (l : List α) : (List.range l.length).map (fun i => l.getD i d) = l := by
  refine List.ext_getElem? fun i => ?_
  rw [List.getElem?_map]
  by_cases h : i < l.length
  · rw [List.getElem?_range h]
    simp [List.getD, h]
  · rw [List.getElem?_eq_none (by simp; omega), List.getElem?_eq_none (by omega)]
    rfl
theorem Dim.eq {r c : Nat} {a : Tab} (h : Dim r c a) : a = tmk r c (tget a) := by
  unfold tmk tget
  have e : a = (List.range r).map fun i => a.getD i [] := by
    have := range_map_getD ([] : List Int) a
    rw [h.len] at this
    exact this.symm
  conv => lhs; rw [e]
  refine List.map_congr_left fun i hi => ?_
  have hi' : i < a.length := by
    rw [h.len]
    exact List.mem_range.mp hi
  have m : a.getD i [] ∈ a := by
    simp [List.getD, hi']
  have := range_map_getD (0 : Int) (a.getD i [])
  rw [h.row _ m] at this
  exact this.symm
theorem Dim.ext {r c : Nat} {a b : Tab} (ha : Dim r c a) (hb : Dim r c b) (h : ∀ i j, i < r → j < c → tget a i j = tget b i j) : a = b := by
  rw [ha.eq, hb.eq]
  exact tmk_congr h
theorem mem_tmk {r c : Nat} {f : Nat → Nat → Int} {x : List Int} (h : x ∈ tmk r c f) : ∃ i, i < r ∧ x = (List.range c).map fun j => f i j := by
  unfold tmk at h
  obtain ⟨i, hi, rfl⟩ := List.mem_map.mp h
  exact ⟨i, List.mem_range.mp hi, rfl⟩
theorem tmk_ok {p : Int} {r c : Nat} {f : Nat → Nat → Int} (h : ∀ i j, i < r → j < c → 0 ≤ f i j ∧ f i j < p) : Ok p r c (tmk r c f) := by
  refine ⟨tmk_dim r c f, fun x hx y hy => ?_⟩
  obtain ⟨i, hi, rfl⟩ := mem_tmk hx
  obtain ⟨j, hj, rfl⟩ := List.mem_map.mp hy
  exact h i j hi (List.mem_range.mp hj)
theorem Ok.get {p : Int} {r c : Nat} {a : Tab} (h : Ok p r c a) {i j : Nat} (hi : i < r) (hj : j < c) : 0 ≤ tget a i j ∧ tget a i j < p := by
  have hi' : i < a.length := by
    rw [h.len]
    exact hi
  have m : a.getD i [] ∈ a := by
    simp [List.getD, hi']
  have hj' : j < (a.getD i []).length := by
    rw [h.row _ m]
    exact hj
  refine h.num _ m _ ?_
  unfold tget
  have e : (a.getD i []).getD j 0 = (a.getD i [])[j] := by
    rw [List.getD_eq_getElem?_getD, List.getElem?_eq_getElem hj']
    rfl
  rw [e]
  exact List.getElem_mem hj'
theorem Ok.mod {p : Int} {r c : Nat} {a : Tab} (h : Ok p r c a) {i j : Nat} (hi : i < r) (hj : j < c) : tget a i j % p = tget a i j := Int.emod_eq_of_lt (h.get hi hj).1 (h.get hi hj).2
theorem tmod_ok {p : Int} (hp : 0 < p) {r c : Nat} {f : Nat → Nat → Int} : Ok p r c (tmk r c fun i j => f i j % p) := tmk_ok fun i j _ _ => ⟨Int.emod_nonneg _ (by omega), Int.emod_lt_of_pos _ hp⟩

/-! ### the operations by places -/
theorem headD_len {r c : Nat} {a : Tab} (h : Dim r c a) (hr : 0 < r) : (a.headD []).length = c := by
  cases a with
  | nil =>
    have := h.len
    simp at this
    omega
  | cons x xs => exact h.row x List.mem_cons_self
theorem turnedT_eq {r c : Nat} {a : Tab} (h : Dim r c a) (hr : 0 < r) : turnedT a = tmk c r fun i j => tget a j i := by
  unfold turnedT
  rw [headD_len h hr]
  unfold tmk
  refine List.map_congr_left fun i _ => ?_
  have e : a = (List.range r).map fun i => a.getD i [] := by
    have := range_map_getD ([] : List Int) a
    rw [h.len] at this
    exact this.symm
  conv => lhs; rw [e]
  rw [List.map_map]
  rfl
theorem dot_eq : ∀ (n : Nat) (f g : Nat → Int), dot ((List.range n).map f) ((List.range n).map g) = sumN n fun k => f k * g k
  | 0, _, _ => rfl
  | n + 1, f, g => by
    show dot _ _ = sumN n (fun k => f k * g k) + f n * g n
    rw [← dot_eq n f g]
    unfold dot
    rw [List.range_succ, List.map_append, List.map_append, List.zipWith_append (by simp)]
    simp [List.sum_append]
theorem getD_row {r c : Nat} {a : Tab} (h : Dim r c a) {i : Nat} (hi : i < r) : a[i]? = some (a.getD i []) ∧ a.getD i [] ∈ a ∧ (a.getD i []).length = c := by
  have hi' : i < a.length := by
    rw [h.len]
    exact hi
  have m : a.getD i [] ∈ a := by
    simp [List.getD, hi']
  exact ⟨by simp [List.getD, hi'], m, h.row _ m⟩
theorem at_tab {r c : Nat} {a : Tab} (h : Dim r c a) {i : Nat} (hi : i < r) : atI (a.map rowD) (i : Int) = some (rowD (a.getD i [])) := by
  refine atI_nat ?_
  rw [List.getElem?_map, (getD_row h hi).1]
  rfl
theorem at_row {r c : Nat} {a : Tab} (h : Dim r c a) {i j : Nat} (hi : i < r) (hj : j < c) : atI ((a.getD i []).map PyData.int) (j : Int) = some (.int (tget a i j)) := by
  refine atI_nat ?_
  have hl := (getD_row h hi).2.2
  rw [List.getElem?_map]
  have hj' : j < (a.getD i []).length := by omega
  unfold tget
  rw [List.getD_eq_getElem?_getD (l := a.getD i []), List.getElem?_eq_getElem hj']
  rfl
theorem ix_tab {r c : Nat} {a : Tab} (h : Dim r c a) {i : Nat} (hi : i < r) : ixR (.im (tabD a)) (.im (.int (i : Int))) = some (.im (rowD (a.getD i []))) := by
  unfold tabD
  rw [e_ix_tup, at_tab h hi]
  rfl
theorem ix_row {r c : Nat} {a : Tab} (h : Dim r c a) {i j : Nat} (hi : i < r) (hj : j < c) : ixR (.im (rowD (a.getD i []))) (.im (.int (j : Int))) = some (.im (.int (tget a i j))) := by
  unfold rowD
  rw [e_ix_tup, at_row h hi hj]
  rfl
theorem len_tab {r c : Nat} {a : Tab} (h : Dim r c a) : lenR [.im (tabD a)] = some (.im (.int (r : Int))) := by
  unfold tabD
  rw [e_len_tup, List.length_map, h.len]
theorem plusT_eq {p : Int} {r c : Nat} {a b : Tab} (ha : Dim r c a) (hb : Dim r c b) : plusT p a b = tmk r c fun i j => (tget a i j + tget b i j) % p := by
  unfold plusT
  conv => lhs; rw [ha.eq, hb.eq]
  unfold tmk
  rw [List.zipWith_map, List.zipWith_self]
  refine List.map_congr_left fun i _ => ?_
  rw [List.zipWith_map, List.zipWith_self]
theorem scaledT_eq {p n : Int} {r c : Nat} {a : Tab} (ha : Dim r c a) : scaledT p n a = tmk r c fun i j => n * tget a i j % p := by
  unfold scaledT
  conv => lhs; rw [ha.eq]
  unfold tmk
  rw [List.map_map]
  refine List.map_congr_left fun i _ => ?_
  rw [Function.comp_apply, List.map_map]
  rfl
def mulF (p : Int) (n : Nat) (f g : Nat → Nat → Int) : Nat → Nat → Int := fun i j => sumN n (fun k => f i k * g k j) % p
theorem timesT_eq {p : Int} {r n c : Nat} {a b : Tab} (ha : Dim r n a) (hb : Dim n c b) (hn : 0 < n) : timesT p a b = tmk r c (mulF p n (tget a) (tget b)) := by
  unfold timesT
  rw [turnedT_eq hb hn]
  conv => lhs; rw [ha.eq]
  unfold tmk mulF
  rw [List.map_map]
  refine List.map_congr_left fun i _ => ?_
  rw [Function.comp_apply, List.map_map]
  refine List.map_congr_left fun j _ => ?_
  rw [Function.comp_apply, dot_eq]
theorem timesT_ok {p : Int} (hp : 0 < p) {r n c : Nat} {a b : Tab} (ha : Dim r n a) (hb : Dim n c b) (hn : 0 < n) : Ok p r c (timesT p a b) := by
  rw [timesT_eq ha hb hn]
  exact tmod_ok hp
theorem mulF_assoc (p : Int) (n m : Nat) (f g h : Nat → Nat → Int) (i j : Nat) : mulF p m (mulF p n f g) h i j = mulF p n f (mulF p m g h) i j := by
  unfold mulF
  have e1 : sumN m (fun k => sumN n (fun l => f i l * g l k) % p * h k j) % p = sumN m (fun k => sumN n (fun l => f i l * g l k) * h k j) % p := by
    rw [← sumN_mod p (fun k => sumN n (fun l => f i l * g l k) % p * h k j), ← sumN_mod p (fun k => sumN n (fun l => f i l * g l k) * h k j)]
    refine congrArg (· % p) (sumN_congr fun k _ => ?_)
    rw [Int.mul_emod, Int.emod_emod, ← Int.mul_emod]
  have e2 : sumN n (fun l => f i l * (sumN m (fun k => g l k * h k j) % p)) % p = sumN n (fun l => f i l * sumN m (fun k => g l k * h k j)) % p := by
    rw [← sumN_mod p (fun l => f i l * (sumN m (fun k => g l k * h k j) % p)), ← sumN_mod p (fun l => f i l * sumN m (fun k => g l k * h k j))]
    refine congrArg (· % p) (sumN_congr fun k _ => ?_)
    rw [Int.mul_emod, Int.emod_emod, ← Int.mul_emod]
  rw [e1, e2]
  refine congrArg (· % p) ?_
  rw [sumN_congr (g := fun k => sumN n (fun l => f i l * g l k * h k j)) fun k _ => (sumN_mulR (h k j) _ n).symm, sumN_swap]
  refine sumN_congr fun l _ => ?_
  rw [← sumN_mulL]
  refine sumN_congr fun k _ => ?_
  rw [Int.mul_assoc]
theorem timesT_assoc {p : Int} (hp : 0 < p) {r n m c : Nat} {a b d : Tab} (ha : Dim r n a) (hb : Dim n m b) (hd : Dim m c d) (hn : 0 < n) (hm : 0 < m) : timesT p (timesT p a b) d = timesT p a (timesT p b d) := by
  rw [timesT_eq (timesT_ok hp ha hb hn).toDim hd hm, timesT_eq ha (timesT_ok hp hb hd hm).toDim hn]
  refine tmk_congr fun i j hi hj => ?_
  have e1 : mulF p m (tget (timesT p a b)) (tget d) i j = mulF p m (mulF p n (tget a) (tget b)) (tget d) i j := by
    unfold mulF
    refine congrArg (· % p) (sumN_congr fun k hk => ?_)
    rw [timesT_eq ha hb hn, tget_tmk hi hk]
    rfl
  have e2 : mulF p n (tget a) (tget (timesT p b d)) i j = mulF p n (tget a) (mulF p m (tget b) (tget d)) i j := by
    unfold mulF
    refine congrArg (· % p) (sumN_congr fun k hk => ?_)
    rw [timesT_eq hb hd hm, tget_tmk hk hj]
    rfl
  rw [e1, e2, mulF_assoc]
def unitT (n : Nat) : Tab := tmk n n fun i j => if i = j then 1 else 0
theorem unit_ok {p : Int} (hp : 1 < p) (n : Nat) : Ok p n n (unitT n) := tmk_ok fun i j _ _ => by
  split <;> omega
theorem unit_left {p : Int} {r c : Nat} {a : Tab} (h : Ok p r c a) (hr : 0 < r) : timesT p (unitT r) a = a := by
  rw [timesT_eq (a := unitT r) (tmk_dim r r _) h.toDim hr]
  conv => rhs; rw [h.eq]
  refine tmk_congr fun i j hi hj => ?_
  unfold mulF
  rw [sumN_congr (g := fun k => if k = i then tget a k j else 0) fun k hk => ?_, sumN_one _ i r hi, h.mod hi hj]
  unfold unitT
  rw [tget_tmk hi hk]
  by_cases e : i = k
  · rw [if_pos e, if_pos e.symm, Int.one_mul]
  · rw [if_neg e, if_neg (Ne.symm e), Int.zero_mul]
theorem unit_right {p : Int} {r c : Nat} {a : Tab} (h : Ok p r c a) (hc : 0 < c) : timesT p a (unitT c) = a := by
  rw [timesT_eq (b := unitT c) h.toDim (tmk_dim c c _) hc]
  conv => rhs; rw [h.eq]
  refine tmk_congr fun i j hi hj => ?_
  unfold mulF
  rw [sumN_congr (g := fun k => if k = j then tget a i k else 0) fun k hk => ?_, sumN_one _ j c hj, h.mod hi hj]
  unfold unitT
  rw [tget_tmk hk hj]
  by_cases e : k = j
  · rw [if_pos e, if_pos e, Int.mul_one]
  · rw [if_neg e, if_neg e, Int.mul_zero]

/-! ### powers -/
def powT (p : Int) (n : Nat) (a : Tab) : Nat → Tab
  | 0 => unitT n
  | k + 1 => timesT p (powT p n a k) a
theorem powT_ok {p : Int} (hp : 1 < p) {n : Nat} {a : Tab} (h : Ok p n n a) (hn : 0 < n) : ∀ k : Nat, Ok p n n (powT p n a k)
  | 0 => unit_ok hp n
  | k + 1 => timesT_ok (by omega) (powT_ok hp h hn k).toDim h.toDim hn
theorem pow_add {p : Int} (hp : 1 < p) {n : Nat} {a : Tab} (h : Ok p n n a) (hn : 0 < n) (k : Nat) : ∀ l : Nat, powT p n a (k + l) = timesT p (powT p n a k) (powT p n a l)
  | 0 => (unit_right (powT_ok hp h hn k) hn).symm
  | l + 1 => by
    show timesT p (powT p n a (k + l)) a = timesT p (powT p n a k) (timesT p (powT p n a l) a)
    rw [pow_add hp h hn k l, timesT_assoc (by omega) (powT_ok hp h hn k).toDim (powT_ok hp h hn l).toDim h.toDim hn hn]
theorem pow_one {p : Int} {n : Nat} {a : Tab} (h : Ok p n n a) (hn : 0 < n) : powT p n a 1 = a := unit_left h hn
theorem pow_pow {p : Int} (hp : 1 < p) {n : Nat} {a : Tab} (h : Ok p n n a) (hn : 0 < n) (k : Nat) : ∀ l : Nat, powT p n (powT p n a k) l = powT p n a (k * l)
  | 0 => rfl
  | l + 1 => by
    show timesT p (powT p n (powT p n a k) l) (powT p n a k) = powT p n a (k * l + k)
    rw [pow_pow hp h hn k l, pow_add hp h hn]
end Ct

end
section
set_option maxRecDepth 100000
namespace Ct
open PySem L2
def isTup : D → Bool
  | .tuple _ => true
  | _ => false
def isInt : D → Bool
  | .int _ => true
  | .bool _ => true
  | _ => false
def isBool : D → Bool
  | .bool _ => true
  | _ => false
theorem e_isi_tuple (d : D) : isiR "tuple" (.im d) = some (.im (.bool (isTup d))) := by cases d <;> rfl
theorem e_isi_int (d : D) : isiR "int" (.im d) = some (.im (.bool (isInt d))) := by cases d <;> rfl
theorem e_isi_bool (d : D) : isiR "bool" (.im d) = some (.im (.bool (isBool d))) := by cases d <;> rfl
def partsD : D → List D
  | .tuple ds => ds
  | _ => []
def restB (p : Int) : D → Bool
  | .int n => decide (0 ≤ n) && decide (n < p)
  | _ => false
def sizeB : D → Bool
  | .tuple ds => decide (1 ≤ ds.length) && decide (ds.length ≤ 3)
  | _ => false
def tabB (p : Int) (d : D) : Bool := sizeB d && (partsD d).all fun r => sizeB r && (decide ((partsD r).length = (partsD ((partsD d).headD .none)).length) && (partsD r).all (restB p))
def nzD : D → Bool
  | .int n => !decide (n = 0)
  | _ => true
def powersB (p : Int) (d : D) : Bool := isTup d && (decide ((partsD d).length ≤ 7) && ((partsD d).all (restB p) && ((partsD d).isEmpty || nzD ((partsD d).getLastD (.int 0)))))
/-- a loop that may end the whole -/
theorem forL_find {β : Type} (E : Env) (enc : β → D) (g : XG) (body : XS) (k : β → Bool) (r : R) : ∀ (xs : List β), (∀ x ∈ xs, (g E (enc x)).bind body = if k x = true then some (.nx E) else some (.rt r)) →
    forL g body (xs.map enc) E = if xs.all k = true then some (.nx E) else some (.rt r)
  | [], _ => rfl
  | x :: xs, h => by
    have h1 := h x List.mem_cons_self
    have ih := forL_find E enc g body k r xs fun y hy => h y (List.mem_cons_of_mem _ hy)
    cases hk : k x with
    | true =>
      rw [hk, if_pos rfl] at h1
      obtain ⟨e1, h2, h3⟩ := Option.bind_eq_some_iff.mp h1
      show ((g E (enc x)).bind fun e1 => (body e1).bind fun o => _) = _
      rw [h2, Option.bind_some, h3, Option.bind_some, List.all_cons, hk, Bool.true_and]
      exact ih
    | false =>
      rw [hk, if_neg Bool.false_ne_true] at h1
      obtain ⟨e1, h2, h3⟩ := Option.bind_eq_some_iff.mp h1
      show ((g E (enc x)).bind fun e1 => (body e1).bind fun o => _) = _
      rw [h2, Option.bind_some, h3, Option.bind_some, List.all_cons, hk, Bool.false_and, if_neg Bool.false_ne_true]
theorem e_all_fr {β : Type} (f : β → Bool) (xs : List β) : allR [.fr (xs.map fun x => .bool (f x))] = some (.im (.bool (xs.all f))) := by
  show (dBools (xs.map fun x => .bool (f x))).map _ = _
  have e : xs.map (fun x => PyData.bool (f x)) = (xs.map f).map PyData.bool := by
    rw [List.map_map]
    rfl
  rw [e, dBools_map, Option.map_some, List.all_map]
  rfl
theorem e_any_fr {β : Type} (f : β → Bool) (xs : List β) : anyR [.fr (xs.map fun x => .bool (f x))] = some (.im (.bool (xs.any f))) := by
  show (dBools (xs.map fun x => .bool (f x))).map _ = _
  have e : xs.map (fun x => PyData.bool (f x)) = (xs.map f).map PyData.bool := by
    rw [List.map_map]
    rfl
  rw [e, dBools_map, Option.map_some, List.any_map]
  rfl
theorem e_ne_bool (a b : Bool) : neR (.im (.bool a)) (.im (.bool b)) = some (.im (.bool (!decide (a = b)))) := by
  cases a <;> cases b <;> rfl
theorem e_eq_bool (a b : Bool) : eqR (.im (.bool a)) (.im (.bool b)) = some (.im (.bool (decide (a = b)))) := by
  cases a <;> cases b <;> rfl
def Fine (n : Nat) (d : D) : Prop := d.canLay0 = true ∧ d.depth ≤ n
theorem Fine.mono {n m : Nat} {d : D} (h : Fine n d) (k : n ≤ m) : Fine m d := ⟨h.1, Nat.le_trans h.2 k⟩
theorem fine_all {n : Nat} : ∀ {ds : List D}, (∀ d ∈ ds, Fine n d) → PyData.canLayAll0 ds = true ∧ PyData.depthAll ds ≤ n
  | [], _ => ⟨rfl, Nat.zero_le _⟩
  | d :: ds, h => by
    have h1 := h d List.mem_cons_self
    have h2 := fine_all (ds := ds) fun x hx => h x (List.mem_cons_of_mem _ hx)
    refine ⟨?_, ?_⟩
    · rw [PyData.canLayAll0, h1.1, h2.1]
      rfl
    · rw [PyData.depthAll]
      exact Nat.max_le.mpr ⟨h1.2, h2.2⟩
theorem all_fine {n : Nat} : ∀ {ds : List D}, PyData.canLayAll0 ds = true → PyData.depthAll ds ≤ n → ∀ d ∈ ds, Fine n d
  | [], _, _, _, h => absurd h List.not_mem_nil
  | x :: xs, h1, h2, d, h => by
    rw [PyData.canLayAll0, Bool.and_eq_true] at h1
    rw [PyData.depthAll] at h2
    have h3 := Nat.max_le.mp h2
    rcases List.mem_cons.mp h with rfl | h
    · exact ⟨h1.1, h3.1⟩
    · exact all_fine h1.2 h3.2 d h
theorem fine_tuple {n : Nat} {ds : List D} (h : ∀ d ∈ ds, Fine n d) : Fine (n + 1) (.tuple ds) := by
  have z := fine_all h
  exact ⟨z.1, by rw [PyData.depth]; omega⟩
theorem fine_list {n : Nat} {ds : List D} (h : ∀ d ∈ ds, Fine n d) : Fine (n + 1) (.list ds) := by
  have z := fine_all h
  exact ⟨z.1, by rw [PyData.depth]; omega⟩
theorem tuple_fine {n : Nat} {ds : List D} (h : Fine (n + 1) (.tuple ds)) : ∀ d ∈ ds, Fine n d := by
  refine all_fine h.1 ?_
  have z := h.2
  rw [PyData.depth] at z
  omega
theorem list_fine {n : Nat} {ds : List D} (h : Fine (n + 1) (.list ds)) : ∀ d ∈ ds, Fine n d := by
  refine all_fine h.1 ?_
  have z := h.2
  rw [PyData.depth] at z
  omega
theorem Fine.shaped {n : Nat} {d : D} (h : Fine n d) (k : n ≤ 64) : SeqAt.shaped d = true := shaped_of h.1 (Nat.le_trans h.2 k)
/-- whether anything is in a list -/
theorem e_ne_nil {ds : List D} {n : Nat} (h : ∀ d ∈ ds, Fine n d) (hn : n < 64) : neR (.fr ds) (.fr []) = some (.im (.bool (!ds.isEmpty))) := by
  have z := ne_see (x := .fr ds) (y := .fr []) (d := .list ds) (e := .list []) rfl rfl ((fine_list h).shaped (by omega)) rfl
  rw [z]
  cases ds with
  | nil => simp [PyData.eqv, PyData.eqvAll]
  | cons d ds => simp [PyData.eqv, PyData.eqvAll]
end Ct

end
section
set_option maxRecDepth 100000
set_option maxHeartbeats 1000000
namespace Ct
open PySem L2
local macro_rules | `(tactic| walk_at "ct") => `(tactic| simp only [sSeq_eq, seqO_nx, seqO_rt, sRet_eq, e_ret_im, e_ret_fr, sRetV_eq, retV_ml, retV_im, sIf_eq, ifO_b, sSet_eq, setO_im, setO_fr, sMove_eq, moveO_im, moveO_ml, sWipe_eq, wipeO_nx, wipeO_rt, sApp_eq, appO_im, appO_fr, sExt_eq, extO_fr, sStore_eq, sFor_eq, forO_some, sUnp_eq, unpO_tup, unpO_fr, putAll_nil, putAll_cons, xVar_eq, e_get_im, e_get_bo, e_get_ml, e_get_sc, xC_eq, xBin_eq, binO_some, xUn_eq, xaNil_eq, xaCons_eq, consO_some, xCB_eq, xCall_eq, callO_some, e_arg_im, e_arg_ls, e_arg_fr, e_arg_sc, xTup_eq, xLst_eq, tupO_0, tupO_1, tupO_2, tupO_3, lstO_0, lstO_1, lstO_2, xAnd_eq, xOr_eq, xNot_eq, andO_b, orO_b, notO_b, xChain_eq, chainO_int, xoNone_eq, xoSome_eq, partO_int, xSlice_eq, sliceO_some, e_slice_tup, e_slice_lst, e_slice_ls, e_slice_fr, e_add_int, e_add_tup, e_add_str, e_add_frfr, e_add_lsfr, e_add_frls, e_sub_int, e_mul_int, e_mul_fr, e_div_int, e_mod_int, e_neg_int, e_cmp_int, e_shaped_int, e_eq_int, e_ne_int, e_len_tup, e_len_ls, e_len_fr, e_len_sc, e_len_list, e_tuple_fr, e_tuple_ls, e_tuple_tup, e_list_tup, e_list_ls, e_toInt_bool, e_toInt_int, e_ix_tup, e_ix_lst, e_ix_ls, e_ix_fr, e_ix_sc, e_dat_im, e_dat_fr, xiR1_eq, r1O_int, xiR2_eq, r2O_int, xiSeq_eq, xqVar_eq, qVarO_ml, qVarO_bo, qVarO_lst, qVarO_tup, xqE_eq, qEO_lst, qEO_tup, qEO_fr, xiZip_eq, zip2O_some, zip1O_some, xiEnum_eq, gOne_eq, gTwo_eq, runF_end, endO_rt, endO_nx, bor_nil, bor_cons, at0, at1, at2, pairD, wipeE, startE, R.slot, Sl.bor, e_eqv_int, sSkip, e_isi_tuple, e_isi_int, e_isi_bool, isTup, isInt, isBool, e_ne_bool, e_eq_bool, Bool.not_true, Bool.not_false, List.length_nil, List.length_cons, List.length_map, List.map_cons, List.map_nil, List.cons_append, List.nil_append, List.replicate, Nat.reduceSub, Nat.reduceAdd, Option.bind_some, Option.map_some, Option.bind_none, Option.map_none, List.getElem?_cons_zero, List.getElem?_cons_succ, List.set_cons_zero, List.set_cons_succ, if_true, if_false, Nat.reduceLT, Nat.reduceLeDiff, reduceIte, Nat.zero_lt_succ, Nat.lt_add_left_iff_pos, Nat.succ_lt_succ_iff, Nat.add_lt_add_iff_right, Bool.true_and, Bool.and_true, Bool.false_eq_true, Int.reduceLT, Int.reduceLE, Int.reduceToNat, Nat.lt_add_one, Nat.reduceMul, decide_true, decide_false, Bool.or_true, Bool.true_or, true_or, or_true, ne_eq, not_false_eq_true, Bool.false_or, Bool.or_false, Nat.zero_add, upTo0, Int.toNat_natCast, Int.reduceEq, Int.zero_add, Int.reduceToNat, Nat.reduceEqDiff, Bool.false_and, List.nil_append, forO_some, eq_self, e_eq_tab, e_ne_tab, e_eq_tab', e_ne_tab', Bool.not_not])
local macro_rules | `(tactic| walk_at "ct*") => `(tactic| simp only [sSeq_eq, seqO_nx, seqO_rt, sRet_eq, e_ret_im, e_ret_fr, sRetV_eq, retV_ml, retV_im, sIf_eq, ifO_b, sSet_eq, setO_im, setO_fr, sMove_eq, moveO_im, moveO_ml, sWipe_eq, wipeO_nx, wipeO_rt, sApp_eq, appO_im, appO_fr, sExt_eq, extO_fr, sStore_eq, sFor_eq, forO_some, sUnp_eq, unpO_tup, unpO_fr, putAll_nil, putAll_cons, xVar_eq, e_get_im, e_get_bo, e_get_ml, e_get_sc, xC_eq, xBin_eq, binO_some, xUn_eq, xaNil_eq, xaCons_eq, consO_some, xCB_eq, xCall_eq, callO_some, e_arg_im, e_arg_ls, e_arg_fr, e_arg_sc, xTup_eq, xLst_eq, tupO_0, tupO_1, tupO_2, tupO_3, lstO_0, lstO_1, lstO_2, xAnd_eq, xOr_eq, xNot_eq, andO_b, orO_b, notO_b, xChain_eq, chainO_int, xoNone_eq, xoSome_eq, partO_int, xSlice_eq, sliceO_some, e_slice_tup, e_slice_lst, e_slice_ls, e_slice_fr, e_add_int, e_add_tup, e_add_str, e_add_frfr, e_add_lsfr, e_add_frls, e_sub_int, e_mul_int, e_mul_fr, e_div_int, e_mod_int, e_neg_int, e_cmp_int, e_shaped_int, e_eq_int, e_ne_int, e_len_tup, e_len_ls, e_len_fr, e_len_sc, e_len_list, e_tuple_fr, e_tuple_ls, e_tuple_tup, e_list_tup, e_list_ls, e_toInt_bool, e_toInt_int, e_ix_tup, e_ix_lst, e_ix_ls, e_ix_fr, e_ix_sc, e_dat_im, e_dat_fr, xiR1_eq, r1O_int, xiR2_eq, r2O_int, xiSeq_eq, xqVar_eq, qVarO_ml, qVarO_bo, qVarO_lst, qVarO_tup, xqE_eq, qEO_lst, qEO_tup, qEO_fr, xiZip_eq, zip2O_some, zip1O_some, xiEnum_eq, gOne_eq, gTwo_eq, runF_end, endO_rt, endO_nx, bor_nil, bor_cons, at0, at1, at2, pairD, wipeE, startE, R.slot, Sl.bor, e_eqv_int, sSkip, e_isi_tuple, e_isi_int, e_isi_bool, isTup, isInt, isBool, e_ne_bool, e_eq_bool, Bool.not_true, Bool.not_false, List.length_nil, List.length_cons, List.length_map, List.map_cons, List.map_nil, List.cons_append, List.nil_append, List.replicate, Nat.reduceSub, Nat.reduceAdd, Option.bind_some, Option.map_some, Option.bind_none, Option.map_none, List.getElem?_cons_zero, List.getElem?_cons_succ, List.set_cons_zero, List.set_cons_succ, if_true, if_false, Nat.reduceLT, Nat.reduceLeDiff, reduceIte, Nat.zero_lt_succ, Nat.lt_add_left_iff_pos, Nat.succ_lt_succ_iff, Nat.add_lt_add_iff_right, Bool.true_and, Bool.and_true, Bool.false_eq_true, Int.reduceLT, Int.reduceLE, Int.reduceToNat, Nat.lt_add_one, Nat.reduceMul, decide_true, decide_false, Bool.or_true, Bool.true_or, true_or, or_true, ne_eq, not_false_eq_true, Bool.false_or, Bool.or_false, Nat.zero_add, upTo0, Int.toNat_natCast, Int.reduceEq, Int.zero_add, Int.reduceToNat, Nat.reduceEqDiff, Bool.false_and, List.nil_append, forO_some, eq_self, e_eq_tab, e_ne_tab, e_eq_tab', e_ne_tab', Bool.not_not, *])

def m__law_cell_at : XS := sSeq (sIf (xBin ltR (xVar 1) (xCB lenR (xaCons (xVar 0) (xaNil)))) (sRet (xBin ixR (xVar 0) (xVar 1))) (sSkip)) (sRet (xC (.int 0)))
def f__law_cell_at : SemN := runF 2 2 m__law_cell_at
/-- the script, as it is handed in or made -/
def IsSc (r : R) (ns : List Int) : Prop := r = .sc (ns.map .int) ∨ r = .ls (ns.map .int)
theorem at_ints {ns : List Int} {k : Nat} (h : k < ns.length) : atI (ns.map PyData.int) (k : Int) = some (.int (ns.getD k 0)) := by
  refine atI_nat ?_
  rw [List.getElem?_map, List.getElem?_eq_getElem h]
  simp [List.getD, h]
theorem run_cell {r : R} {ns : List Int} (hr : IsSc r ns) (k : Nat) : f__law_cell_at [r, .im (.int k)] = some (.im (.int (ns.getD k 0))) := by
  unfold f__law_cell_at m__law_cell_at
  by_cases h : k < ns.length
  · have e : decide ((k : Int) < (ns.length : Int)) = true := by
      simp
      omega
    have e3 := at_ints h
    rcases hr with rfl | rfl <;> (walk_at "ct*")
  · have e : decide ((k : Int) < (ns.length : Int)) = false := by
      simp
      omega
    have e2 : ns.getD k 0 = 0 := by
      simp [List.getD, h]
    rcases hr with rfl | rfl <;> (walk_at "ct*")

def m__law_mixed : XS := sSeq (sSet 2 (xBin modR (xBin mulR (xBin addR (xBin addR (xCall f__law_cell_at (xaCons (xVar 0) (xaCons (xVar 1) (xaNil)))) (xBin mulR (xC (.int 7919)) (xVar 1))) (xC (.int 1))) (xC (.int 48271))) (xC (.int 2147483647)))) (sRet (xBin modR (xBin addR (xBin addR (xBin mulR (xVar 2) (xVar 2)) (xBin mulR (xC (.int 7)) (xVar 2))) (xVar 1)) (xC (.int 2147483629))))
def f__law_mixed : SemN := runF 3 2 m__law_mixed
def mixedN (ns : List Int) (k : Nat) : Int := ((ns.getD k 0 + 7919 * k + 1) * 48271 % 2147483647 * ((ns.getD k 0 + 7919 * k + 1) * 48271 % 2147483647) + 7 * ((ns.getD k 0 + 7919 * k + 1) * 48271 % 2147483647) + k) % 2147483629
theorem small_rest {x m : Int} (h0 : 0 < m) (h1 : m < 2 ^ 64) : small (x % m) = true := by
  have a := Int.emod_nonneg x (by omega : m ≠ 0)
  have b := Int.emod_lt_of_pos x h0
  unfold small
  simp only [Bool.and_eq_true, decide_eq_true_eq]
  omega
theorem run_mixed {r : R} {ns : List Int} (hr : IsSc r ns) (k : Nat) : f__law_mixed [r, .im (.int k)] = some (.im (.int (mixedN ns k))) := by
  have h1 : small 7919 = true := by decide
  have h2 : small 48271 = true := by decide
  have h3 : small 7 = true := by decide
  have h4 : ∀ x : Int, small (x % 2147483647) = true := fun x => small_rest (by decide) (by decide)
  have h5 := run_cell hr k
  unfold f__law_mixed m__law_mixed mixedN
  rcases hr with rfl | rfl <;> (walk_at "ct*")
theorem mixed_pos (ns : List Int) (k : Nat) : 0 ≤ mixedN ns k ∧ mixedN ns k < 2147483629 := ⟨Int.emod_nonneg _ (by decide), Int.emod_lt_of_pos _ (by decide)⟩

def m__law_by : XS := sRet (xBin ixR (xTup (xaCons (xC (.int 2)) (xaCons (xC (.int 3)) (xaCons (xC (.int 5)) (xaNil))))) (xBin modR (xVar 0) (xC (.int 3))))
def f__law_by : SemN := runF 1 1 m__law_by
def byN (n : Int) : Int := if n % 3 = 0 then 2 else if n % 3 = 1 then 3 else 5
theorem run_by (n : Int) : f__law_by [.im (.int n)] = some (.im (.int (byN n))) := by
  unfold f__law_by m__law_by
  walk_at "ct"
  have h : n % 3 = 0 ∨ n % 3 = 1 ∨ n % 3 = 2 := by omega
  unfold byN
  rcases h with h | h | h <;> (rw [h]; rfl)
theorem by_is (n : Int) : byN n = 2 ∨ byN n = 3 ∨ byN n = 5 := by
  unfold byN
  split
  · exact .inl rfl
  · split
    · exact .inr (.inl rfl)
    · exact .inr (.inr rfl)
theorem by_pos (n : Int) : 1 < byN n ∧ byN n ≤ 5 := by
  rcases by_is n with h | h | h <;> rw [h] <;> decide

def m__law_drawn : XS := sSeq (sSet 2 (xBin modR (xBin mulR (xBin addR (xBin addR (xVar 0) (xBin mulR (xC (.int 104729)) (xVar 1))) (xC (.int 17))) (xC (.int 69621))) (xC (.int 2147483647)))) (sRet (xBin modR (xBin addR (xBin addR (xBin mulR (xVar 2) (xVar 2)) (xBin mulR (xC (.int 3)) (xVar 2))) (xVar 1)) (xC (.int 2147483629))))
def f__law_drawn : SemN := runF 3 2 m__law_drawn
def drawnN (n k : Int) : Int := ((n + 104729 * k + 17) * 69621 % 2147483647 * ((n + 104729 * k + 17) * 69621 % 2147483647) + 3 * ((n + 104729 * k + 17) * 69621 % 2147483647) + k) % 2147483629
theorem small_mod {x m : Int} (h0 : 0 < m) (h1 : m < 2 ^ 64) : small (x % m) = true := by
  have a := Int.emod_nonneg x (by omega : m ≠ 0)
  have b := Int.emod_lt_of_pos x h0
  unfold small
  simp only [Bool.and_eq_true, decide_eq_true_eq]
  omega
theorem run_drawn (n k : Int) : f__law_drawn [.im (.int n), .im (.int k)] = some (.im (.int (drawnN n k))) := by
  have h1 : small 104729 = true := by decide
  have h2 : small 69621 = true := by decide
  have h3 : small 3 = true := by decide
  have h4 : ∀ x : Int, small (x % 2147483647) = true := fun x => small_mod (by decide) (by decide)
  unfold f__law_drawn m__law_drawn drawnN
  walk_at "ct*"
theorem drawn_pos (n k : Int) : 0 ≤ drawnN n k ∧ drawnN n k < 2147483629 := ⟨Int.emod_nonneg _ (by decide), Int.emod_lt_of_pos _ (by decide)⟩

def m__law_table : XS := sSeq (sSet 4 (xBin modR (xVar 0) (xC (.int 4)))) (sSeq (sSet 5 (xLst (xaNil))) (sSeq (sWipe (sFor (xiR1 (xaCons (xVar 2) (xaNil))) (gOne 6) (sWipe (sSeq (sSet 7 (xLst (xaNil))) (sSeq (sWipe (sFor (xiR1 (xaCons (xVar 3) (xaNil))) (gOne 8) (sWipe (sSeq (sSet 9 (xBin divR (xCall f__law_drawn (xaCons (xVar 0) (xaCons (xBin addR (xBin mulR (xC (.int 5)) (xVar 6)) (xVar 8)) (xaNil)))) (xC (.int 4)))) (sSeq (sSet 10 (xBin modR (xVar 9) (xVar 1))) (sSeq (sIf (xAnd (xBin eqR (xVar 4) (xC (.int 1))) (xBin gtR (xBin modR (xBin divR (xVar 9) (xC (.int 8))) (xC (.int 3))) (xC (.int 0)))) (sSet 10 (xC (.int 0))) (sSkip)) (sSeq (sIf (xAnd (xBin eqR (xVar 4) (xC (.int 2))) (xBin gtR (xVar 6) (xVar 8))) (sSet 10 (xC (.int 0))) (sSkip)) (sSeq (sIf (xAnd (xBin eqR (xVar 4) (xC (.int 3))) (xBin eqR (xVar 6) (xVar 8))) (sSet 10 (xBin modR (xBin divR (xVar 0) (xC (.int 16))) (xVar 1))) (sSkip)) (sApp 7 (xVar 10))))))) [8, 9, 10])) [8, 9, 10]) (sApp 5 (xCB tupleR (xaCons (xVar 7) (xaNil)))))) [6, 7, 8, 9, 10])) [6, 7, 8, 9, 10]) (sRet (xCB tupleR (xaCons (xVar 5) (xaNil))))))
def f__law_table : SemN := runF 11 4 m__law_table
def cellT (n p i j : Int) : Int := if n % 4 = 3 ∧ i = j then n / 16 % p else if n % 4 = 2 ∧ j < i then 0 else if n % 4 = 1 ∧ 0 < drawnN n (5 * i + j) / 4 / 8 % 3 then 0 else drawnN n (5 * i + j) / 4 % p
def tableT (n p : Int) (r c : Nat) : Tab := tmk r c fun i j => cellT n p i j
theorem cell_ok {n p : Int} (hp : 0 < p) (i j : Int) : 0 ≤ cellT n p i j ∧ cellT n p i j < p := by
  unfold cellT
  have h1 := fun x => Int.emod_nonneg x (show p ≠ 0 by omega)
  have h2 := fun x => Int.emod_lt_of_pos x hp
  split
  · exact ⟨h1 _, h2 _⟩
  · split
    · omega
    · split
      · omega
      · exact ⟨h1 _, h2 _⟩
theorem table_ok {n p : Int} (hp : 0 < p) (r c : Nat) : Ok p r c (tableT n p r c) := tmk_ok fun i j _ _ => cell_ok hp i j
theorem run_table (n p : Int) (r c : Nat) (hp : 0 < p) (hr : r ≤ 1000) (hc : c ≤ 1000) : f__law_table [.im (.int n), .im (.int p), .im (.int r), .im (.int c)] = some (.im (tabD (tableT n p r c))) := by
  have h1 : inRg (r : Int) = true := inRg_nat (by omega)
  have h2 : inRg (c : Int) = true := inRg_nat (by omega)
  have h3 : small 5 = true := by decide
  unfold f__law_table m__law_table
  walk_at "ct*"
  rw [forL_app (fun acc => [.im (.int n), .im (.int p), .im (.int r), .im (.int c), .im (.int (n % 4)), .ml acc, .no, .no, .no, .no, .no]) (fun (k : Nat) => PyData.int (k : Int)) _ _ (fun i => rowD ((List.range c).map fun (j : Nat) => cellT n p i j)) (List.range r) []]
  · walk_at "ct"
    simp [tabD, tableT, tmk]
  · intro pre i post e
    have hl : pre.length < 1000 := by
      have z := congrArg List.length e
      simp at z
      omega
    have hl' : pre.length < 100000 := by omega
    walk_at "ct*"
    rw [forL_app (fun acc => [.im (.int n), .im (.int p), .im (.int r), .im (.int c), .im (.int (n % 4)), .ml (List.map (fun (i : Nat) => rowD ((List.range c).map fun (j : Nat) => cellT n p i j)) pre), .im (.int i), .ml acc, .no, .no, .no]) (fun (k : Nat) => PyData.int (k : Int)) _ _ (fun j => PyData.int (cellT n p i j)) (List.range c) []]
    · walk_at "ct*"
      simp [rowD]
    · intro pre2 j post2 e2
      have hl2 : pre2.length < 100000 := by
        have z := congrArg List.length e2
        simp at z
        omega
      have hd := run_drawn n (5 * i + j)
      clear e e2
      have hk : n % 4 = 0 ∨ n % 4 = 1 ∨ n % 4 = 2 ∨ n % 4 = 3 := by omega
      unfold cellT
      rcases hk with hk | hk | hk | hk
      · walk_at "ct*"
        simp
      · by_cases h4 : 0 < drawnN n (5 * i + j) / 4 / 8 % 3
        · walk_at "ct*"
          simp
        · walk_at "ct*"
          simp
      · by_cases h4 : (j : Int) < i
        · walk_at "ct*"
          simp
        · walk_at "ct*"
          simp
      · by_cases h5 : i = j
        · subst h5
          walk_at "ct*"
          simp
        · have h4 : ¬ (i : Int) = j := by omega
          walk_at "ct*"
          simp

def s0__law_spoilt (fx__law_spoilt : SemN) : XS := sIf (xAnd (xBin gtR (xVar 2) (xC (.int 0))) (xAnd (xUn (isiR "tuple") (xVar 0)) (xAnd (xBin gtR (xCB lenR (xaCons (xVar 0) (xaNil))) (xC (.int 0))) (xBin gtR (xBin modR (xVar 1) (xC (.int 6))) (xC (.int 0)))))) (sSeq (sSet 4 (xBin modR (xBin divR (xVar 1) (xC (.int 6))) (xCB lenR (xaCons (xVar 0) (xaNil))))) (sSeq (sSet 5 (xCall fx__law_spoilt (xaCons (xBin ixR (xVar 0) (xVar 4)) (xaCons (xBin divR (xCall f__law_drawn (xaCons (xVar 1) (xaCons (xVar 2) (xaNil)))) (xC (.int 4))) (xaCons (xBin subR (xVar 2) (xC (.int 1))) (xaNil)))))) (sRet (xBin addR (xBin addR (xSlice (xVar 0) (xoNone) (xoSome (xVar 4))) (xTup (xaCons (xVar 5) (xaNil)))) (xSlice (xVar 0) (xoSome (xBin addR (xVar 4) (xC (.int 1)))) (xoNone)))))) (sSkip)
def s1__law_spoilt (fx__law_spoilt : SemN) : XS := sIf (xAnd (xUn (isiR "tuple") (xVar 0)) (xAnd (xBin gtR (xCB lenR (xaCons (xVar 0) (xaNil))) (xC (.int 0))) (xBin eqR (xBin modR (xBin divR (xVar 1) (xC (.int 6))) (xC (.int 2))) (xC (.int 0))))) (sRet (xBin ixR (xLst (xaCons (xCB listR (xaCons (xVar 0) (xaNil))) (xaCons (xSlice (xVar 0) (xoNone) (xoSome (xUn negR (xC (.int 1))))) (xaCons (xBin addR (xVar 0) (xSlice (xVar 0) (xoSome (xUn negR (xC (.int 1)))) (xoNone))) (xaCons (xSlice (xVar 0) (xoSome (xC (.int 1))) (xoNone)) (xaCons (xBin addR (xVar 0) (xTup (xaCons (xC (.int 0)) (xaNil)))) (xaCons (xBin mulR (xVar 0) (xC (.int 3))) (xaNil)))))))) (xBin modR (xBin divR (xVar 1) (xC (.int 12))) (xC (.int 6))))) (sSkip)
def s2__law_spoilt (fx__law_spoilt : SemN) : XS := sIf (xAnd (xUn (isiR "int") (xVar 0)) (xBin eqR (xBin modR (xBin divR (xVar 1) (xC (.int 6))) (xC (.int 2))) (xC (.int 0)))) (sRet (xBin ixR (xLst (xaCons (xCB strR (xaCons (xBin modR (xVar 0) (xC (.int 100))) (xaNil))) (xaCons (xBin subR (xC (.int 0)) (xVar 0)) (xaCons (xBin addR (xVar 0) (xC (.int 1))) (xaCons (xBin eqR (xVar 0) (xC (.int 1))) (xaCons (xBin addR (xVar 0) (xC (.int 2))) (xaCons (xC (.int 5)) (xaNil)))))))) (xBin modR (xBin divR (xVar 1) (xC (.int 12))) (xC (.int 6))))) (sSkip)
def s3__law_spoilt (fx__law_spoilt : SemN) : XS := sSet 3 (xLst (xaCons (xC .none) (xaCons (xC (.bool true)) (xaCons (xC (.bool false)) (xaCons (xC (.int 0)) (xaCons (xC (.int 1)) (xaCons (xC (.int 2)) (xaCons (xC (.int 3)) (xaCons (xC (.int 4)) (xaCons (xC (.int 5)) (xaCons (xUn negR (xC (.int 1))) (xaCons (xC (.str "")) (xaCons (xC (.str "1")) (xaCons (xTup (xaNil)) (xaCons (xTup (xaCons (xC (.int 0)) (xaNil))) (xaCons (xTup (xaCons (xC (.int 1)) (xaCons (xC (.int 0)) (xaNil)))) (xaCons (xLst (xaNil)) (xaCons (xTup (xaCons (xTup (xaCons (xC (.int 1)) (xaNil))) (xaNil))) (xaCons (xTup (xaCons (xTup (xaNil)) (xaCons (xTup (xaNil)) (xaNil)))) (xaCons (xBin mulR (xTup (xaCons (xC (.int 1)) (xaNil))) (xC (.int 8))) (xaNil)))))))))))))))))))))
def s4__law_spoilt (fx__law_spoilt : SemN) : XS := sRet (xBin ixR (xVar 3) (xBin modR (xBin divR (xVar 1) (xC (.int 6))) (xC (.int 19))))
def m__law_spoilt (fx__law_spoilt : SemN) : XS := sSeq (s0__law_spoilt fx__law_spoilt) (sSeq (s1__law_spoilt fx__law_spoilt) (sSeq (s2__law_spoilt fx__law_spoilt) (sSeq (s3__law_spoilt fx__law_spoilt) (s4__law_spoilt fx__law_spoilt))))
def f__law_spoilt : Nat → SemN
  | 0 => fun _ => none
  | n + 1 => runF 6 3 (m__law_spoilt (f__law_spoilt n))
theorem lstO_ok {rs : List R} {ds : List D} (h : dats rs = some ds) (hl : ds.length ≤ 100000) : lstO (some rs) = some (.fr ds) := by
  unfold lstO
  rw [Option.bind_some, h, Option.bind_some, if_pos hl]
theorem at_mod {ds : List D} (i m : Int) (hm : m = (ds.length : Int)) (h : 0 < m) : ∃ d ∈ ds, atI ds (i % m) = some d := by
  have h0 := Int.emod_nonneg i (show m ≠ 0 by omega)
  have h1 := Int.emod_lt_of_pos i h
  obtain ⟨j, hj⟩ : ∃ j : Nat, i % m = (j : Int) := ⟨(i % m).toNat, by omega⟩
  have hj2 : j < ds.length := by omega
  exact ⟨ds[j], List.getElem_mem hj2, by rw [hj]; exact atI_nat (List.getElem?_eq_getElem hj2)⟩
theorem cut_mem {ds : List D} {l u : Option Int} {x : D} (h : x ∈ cutD ds l u) : x ∈ ds := by
  unfold cutD at h
  exact List.mem_of_mem_drop (List.mem_of_mem_take h)
theorem cut_len {ds : List D} {l u : Option Int} : (cutD ds l u).length ≤ ds.length := by
  unfold cutD
  rw [List.length_take, List.length_drop]
  omega
def Good : Nat → D → Prop
  | 0, d => ∃ n : Int, d = .int n ∧ 0 ≤ n ∧ n < 5
  | k + 1, d => (∃ n : Int, d = .int n ∧ 0 ≤ n ∧ n < 5) ∨ ∃ ds, d = .tuple ds ∧ ds.length ≤ 8 ∧ ∀ x ∈ ds, Good k x
def spSome : List D := [.none, .bool true, .bool false, .int 0, .int 1, .int 2, .int 3, .int 4, .int 5, .int (-1), .str "", .str "1", .tuple [], .tuple [.int 0], .tuple [.int 1, .int 0], .list [], .tuple [.tuple [.int 1]], .tuple [.tuple [], .tuple []], .tuple [.int 1, .int 1, .int 1, .int 1, .int 1, .int 1, .int 1, .int 1]]
theorem sp_fine : ∀ d ∈ spSome, Fine 2 d := by
  refine all_fine (by decide +kernel) (by decide +kernel)
theorem sp_last (fx : SemN) (d num deep : D) (i : Int) (h : num = .int i) : ∃ d', (sSeq (s3__law_spoilt fx) (s4__law_spoilt fx)) [.im d, .im num, .im deep, .no, .no, .no] = some (.rt (.im d')) ∧ Fine 2 d' := by
  subst h
  obtain ⟨d', hm, ha⟩ := at_mod (ds := spSome) (i / 6) 19 rfl (by decide)
  refine ⟨d', ?_, sp_fine d' hm⟩
  refine seq_step (e' := [.im d, .im (.int i), .im deep, .ml spSome, .no, .no]) ?_ ?_
  · rfl
  · unfold s4__law_spoilt
    walk_at "ct*"
theorem sp_int (fx : SemN) (n i : Int) (deep : Nat) (h0 : 0 ≤ n) (h1 : n < 5) : ∃ d', m__law_spoilt fx [.im (.int n), .im (.int i), .im (.int deep), .no, .no, .no] = some (.rt (.im d')) ∧ Fine 2 d' := by
  unfold m__law_spoilt
  obtain ⟨d9, h9, f9⟩ := sp_last fx (.int n) (.int i) (.int deep) i rfl
  have hs0 : s0__law_spoilt fx [.im (.int n), .im (.int i), .im (.int deep), .no, .no, .no] = some (.nx [.im (.int n), .im (.int i), .im (.int deep), .no, .no, .no]) := by
    unfold s0__law_spoilt
    by_cases hd : (0 : Int) < (deep : Int) <;> walk_at "ct*"
  have hs1 : s1__law_spoilt fx [.im (.int n), .im (.int i), .im (.int deep), .no, .no, .no] = some (.nx [.im (.int n), .im (.int i), .im (.int deep), .no, .no, .no]) := by
    unfold s1__law_spoilt
    walk_at "ct*"
  by_cases hk : i / 6 % 2 = 0
  · have hstr : strR [.im (.int (n % 100))] = some (.im (.str (toString n))) ∧ PyData.canLay0 (.str (toString n)) = true := by
      have hn : n = 0 ∨ n = 1 ∨ n = 2 ∨ n = 3 ∨ n = 4 := by omega
      have hl : n.natAbs.log2 < 1920 := by
        rcases hn with rfl | rfl | rfl | rfl | rfl <;> decide +kernel
      rw [show n % 100 = n by omega]
      exact ⟨if_pos hl, by rcases hn with rfl | rfl | rfl | rfl | rfl <;> decide +kernel⟩
    obtain ⟨d', hm, ha⟩ := at_mod (ds := [.str (toString n), .int (0 - n), .int (n + 1), .bool (decide (n = 1)), .int (n + 2), .int 5]) (i / 12) 6 rfl (by decide)
    refine ⟨d', seq_step hs0 (seq_step hs1 ?_), ?_⟩
    · have e6 : lstO (some [.im (.str (toString n)), .im (.int (0 - n)), .im (.int (n + 1)), .im (.bool (decide (n = 1))), .im (.int (n + 2)), .im (.int 5)]) = some (.fr [.str (toString n), .int (0 - n), .int (n + 1), .bool (decide (n = 1)), .int (n + 2), .int 5]) := rfl
      have hs := hstr.1
      clear hstr hs0 hs1 h9
      unfold s2__law_spoilt
      walk_at "ct*"
    · have z : ∀ d ∈ [PyData.str (toString n), .int (0 - n), .int (n + 1), .bool (decide (n = 1)), .int (n + 2), .int 5], Fine 2 d := by
        refine all_fine ?_ ?_
        · have zz : PyData.strOk (Str.ofString (toString n)) = true := hstr.2
          simp only [PyData.canLayAll0, PyData.canLay0, zz, Bool.and_self]
        · simp only [PyData.depthAll, PyData.depth]
          decide
      exact z d' hm
  · refine ⟨d9, seq_step hs0 (seq_step hs1 (seq_step ?_ h9)), f9⟩
    clear hs0 hs1 h9
    unfold s2__law_spoilt
    walk_at "ct*"
theorem sp_tup (fx : SemN) (ds : List D) (i : Int) (deep k : Nat) (hl : ds.length ≤ 8) (hf : ∀ x ∈ ds, Fine k x) (hrec : ∀ x ∈ ds, ∀ j, 0 < deep → ∃ d', fx [.im x, .im (.int j), .im (.int (deep - 1 : Nat))] = some (.im d') ∧ Fine (k + deep + 4) d') :
    ∃ d', m__law_spoilt fx [.im (.tuple ds), .im (.int i), .im (.int deep), .no, .no, .no] = some (.rt (.im d')) ∧ Fine (k + deep + 5) d' := by
  unfold m__law_spoilt
  obtain ⟨d9, h9, f9⟩ := sp_last fx (.tuple ds) (.int i) (.int deep) i rfl
  by_cases c0 : 0 < deep ∧ 0 < ds.length ∧ 0 < i % 6
  · obtain ⟨c1, c2, c3⟩ := c0
    obtain ⟨x, hx, ha⟩ := at_mod (ds := ds) (i / 6) (ds.length : Int) rfl (by omega)
    obtain ⟨d', hd, fd⟩ := hrec x hx (drawnN i deep / 4) c1
    refine ⟨.tuple (cutD ds none (some (i / 6 % (ds.length : Int))) ++ [d'] ++ cutD ds (some (i / 6 % (ds.length : Int) + 1)) none), ?_, ?_⟩
    · have y1 : decide ((0 : Int) < (deep : Int)) = true := decide_eq_true (by omega)
      have y2 : decide ((0 : Int) < (ds.length : Int)) = true := decide_eq_true (by omega)
      have y2' : (0 : Int) < (ds.length : Int) := by omega
      have y3 : decide ((0 : Int) < i % 6) = true := decide_eq_true c3
      have y4 := run_drawn i deep
      have y5 : ((deep : Int) - 1) = ((deep - 1 : Nat) : Int) := by omega
      have y6 := @cut_len ds none (some (i / 6 % (ds.length : Int)))
      have y7 := @cut_len ds (some (i / 6 % (ds.length : Int) + 1)) none
      have y8 : (cutD ds none (some (i / 6 % (ds.length : Int)))).length + [d'].length ≤ 100000 := by
        rw [List.length_cons, List.length_nil]
        omega
      have y9 : (cutD ds none (some (i / 6 % (ds.length : Int))) ++ [d']).length + (cutD ds (some (i / 6 % (ds.length : Int) + 1)) none).length ≤ 100000 := by
        rw [List.length_append, List.length_cons, List.length_nil]
        omega
      have y10 := e_add_tup _ _ y8
      have y11 := e_add_tup _ _ y9
      have s0 : s0__law_spoilt fx [.im (.tuple ds), .im (.int i), .im (.int deep), .no, .no, .no] = some (.rt (.im (.tuple (cutD ds none (some (i / 6 % (ds.length : Int))) ++ [d'] ++ cutD ds (some (i / 6 % (ds.length : Int) + 1)) none)))) := by
        clear h9 hrec y6 y7 y8 y9 hl hf c1 c2 c3
        unfold s0__law_spoilt
        walk_at "ct*"
      rw [sSeq_eq, s0, seqO_rt]
    · refine fine_tuple (n := k + deep + 4) fun z hz => ?_
      rcases List.mem_append.mp hz with hz | hz
      · rcases List.mem_append.mp hz with hz | hz
        · exact (hf z (cut_mem hz)).mono (by omega)
        · rw [List.mem_singleton.mp hz]
          exact fd
      · exact (hf z (cut_mem hz)).mono (by omega)
  · have hs0 : s0__law_spoilt fx [.im (.tuple ds), .im (.int i), .im (.int deep), .no, .no, .no] = some (.nx [.im (.tuple ds), .im (.int i), .im (.int deep), .no, .no, .no]) := by
      unfold s0__law_spoilt
      by_cases c1 : (0 : Int) < (deep : Int)
      · by_cases c2 : (0 : Int) < (ds.length : Int)
        · have c3 : ¬ (0 : Int) < i % 6 := by omega
          clear c0 h9 hrec
          walk_at "ct*"
        · clear c0 h9 hrec
          walk_at "ct*"
      · clear c0 h9 hrec
        walk_at "ct*"
    by_cases c4 : 0 < ds.length ∧ i / 6 % 2 = 0
    · obtain ⟨c5, c6⟩ := c4
      have c5' : (0 : Int) < (ds.length : Int) := by omega
      have y6 := @cut_len ds (some (-1)) none
      have y10 := e_add_tup ds (cutD ds (some (-1)) none) (by omega)
      have y11 := e_add_tup ds [.int 0] (by rw [List.length_cons, List.length_nil]; omega)
      have y12 := e_mul_tup ds 3 (by omega) (List.length_pos_iff.mp c5) (by decide) (by decide)
      obtain ⟨d', hm, ha⟩ := at_mod (ds := [.list ds, .tuple (cutD ds none (some (-1))), .tuple (ds ++ cutD ds (some (-1)) none), .tuple (cutD ds (some 1) none), .tuple (ds ++ [.int 0]), .tuple (List.replicate (3 : Int).toNat ds).flatten]) (i / 12) 6 rfl (by decide)
      refine ⟨d', seq_step hs0 ?_, ?_⟩
      · have e6 : lstO (some [.fr ds, .im (.tuple (cutD ds none (some (-1)))), .im (.tuple (ds ++ cutD ds (some (-1)) none)), .im (.tuple (cutD ds (some 1) none)), .im (.tuple (ds ++ [.int 0])), .im (.tuple (List.replicate (3 : Int).toNat ds).flatten)]) = some (.fr [.list ds, .tuple (cutD ds none (some (-1))), .tuple (ds ++ cutD ds (some (-1)) none), .tuple (cutD ds (some 1) none), .tuple (ds ++ [.int 0]), .tuple (List.replicate (3 : Int).toNat ds).flatten]) := rfl
        generalize (List.replicate (3 : Int).toNat ds).flatten = ds3 at *
        have s1 : s1__law_spoilt fx [.im (.tuple ds), .im (.int i), .im (.int deep), .no, .no, .no] = some (.rt (.im d')) := by
          clear hs0 h9 hrec hm hf hl c0 y6
          have c7 : (-1 : Int) = -1 := rfl
          unfold s1__law_spoilt
          walk_at "ct*"
        rw [sSeq_eq, s1, seqO_rt]
      · have b1 : ∀ x ∈ ds, Fine k x := hf
        have b2 : Fine k (.int 0) := ⟨rfl, Nat.zero_le _⟩
        have b : ∀ e ∈ [PyData.list ds, .tuple (cutD ds none (some (-1))), .tuple (ds ++ cutD ds (some (-1)) none), .tuple (cutD ds (some 1) none), .tuple (ds ++ [.int 0]), .tuple (List.replicate (3 : Int).toNat ds).flatten], Fine (k + 1) e := by
          intro e he
          simp only [List.mem_cons, List.not_mem_nil, or_false] at he
          rcases he with rfl | rfl | rfl | rfl | rfl | rfl
          · exact fine_list b1
          · exact fine_tuple fun x hx => b1 x (cut_mem hx)
          · refine fine_tuple fun x hx => ?_
            rcases List.mem_append.mp hx with hx | hx
            · exact b1 x hx
            · exact b1 x (cut_mem hx)
          · exact fine_tuple fun x hx => b1 x (cut_mem hx)
          · refine fine_tuple fun x hx => ?_
            rcases List.mem_append.mp hx with hx | hx
            · exact b1 x hx
            · rw [List.mem_singleton.mp hx]
              exact b2
          · refine fine_tuple fun x hx => ?_
            obtain ⟨l, h1, h2⟩ := List.mem_flatten.mp hx
            rw [List.eq_of_mem_replicate h1] at h2
            exact b1 x h2
        exact (b d' hm).mono (by omega)
    · have hs1 : s1__law_spoilt fx [.im (.tuple ds), .im (.int i), .im (.int deep), .no, .no, .no] = some (.nx [.im (.tuple ds), .im (.int i), .im (.int deep), .no, .no, .no]) := by
        unfold s1__law_spoilt
        by_cases c2 : (0 : Int) < (ds.length : Int)
        · have c3 : ¬ i / 6 % 2 = 0 := by omega
          clear c0 c4 h9 hrec hs0
          walk_at "ct*"
        · clear c0 c4 h9 hrec hs0
          walk_at "ct*"
      have hs2 : s2__law_spoilt fx [.im (.tuple ds), .im (.int i), .im (.int deep), .no, .no, .no] = some (.nx [.im (.tuple ds), .im (.int i), .im (.int deep), .no, .no, .no]) := by
        clear c0 c4 h9 hrec hs0 hs1
        unfold s2__law_spoilt
        walk_at "ct*"
      exact ⟨d9, seq_step hs0 (seq_step hs1 (seq_step hs2 h9)), f9.mono (by omega)⟩
theorem good_fine : ∀ {k : Nat} {d : D}, Good k d → Fine k d
  | 0, _, ⟨n, e, _, _⟩ => by
    subst e
    exact ⟨rfl, Nat.le_refl _⟩
  | k + 1, _, .inl ⟨n, e, _, _⟩ => by
    subst e
    exact ⟨rfl, Nat.zero_le _⟩
  | k + 1, _, .inr ⟨ds, e, _, h⟩ => by
    subst e
    exact fine_tuple fun x hx => good_fine (h x hx)
theorem run_spoilt : ∀ (fuel deep k : Nat) (d : D) (i : Int), deep < fuel → Good k d → ∃ d', f__law_spoilt fuel [.im d, .im (.int i), .im (.int deep)] = some (.im d') ∧ Fine (k + deep + 5) d'
  | 0, _, _, _, _, h, _ => absurd h (Nat.not_lt_zero _)
  | fuel + 1, deep, k, d, i, h, hg => by
    have hi : ∀ n : Int, 0 ≤ n → n < 5 → ∃ d', f__law_spoilt (fuel + 1) [.im (.int n), .im (.int i), .im (.int deep)] = some (.im d') ∧ Fine (k + deep + 5) d' := by
      intro n h0 h1
      obtain ⟨d', h2, h3⟩ := sp_int (f__law_spoilt fuel) n i deep h0 h1
      exact ⟨d', run_of rfl h2, h3.mono (by omega)⟩
    cases k with
    | zero =>
      obtain ⟨n, rfl, h0, h1⟩ := hg
      exact hi n h0 h1
    | succ k =>
      rcases hg with ⟨n, rfl, h0, h1⟩ | ⟨ds, rfl, hl, hx⟩
      · exact hi n h0 h1
      · obtain ⟨d', h2, h3⟩ := sp_tup (f__law_spoilt fuel) ds i deep (k + 1) hl (fun x hm => (good_fine (hx x hm)).mono (by omega)) (by
          intro x hm j hd
          obtain ⟨d', h4, h5⟩ := run_spoilt fuel (deep - 1) k x j (by omega) (hx x hm)
          exact ⟨d', h4, h5.mono (by omega)⟩)
        exact ⟨d', run_of rfl h2, h3⟩

def m_is_rest : XS := sRet (xAnd (xUn (isiR "int") (xVar 0)) (xAnd (xNot (xUn (isiR "bool") (xVar 0))) (xChain leR ltR (xC (.int 0)) (xVar 0) (xVar 1))))
def f_is_rest : SemN := runF 2 2 m_is_rest
theorem run_is_rest (d : D) (p : Int) : f_is_rest [.im d, .im (.int p)] = some (.im (.bool (restB p d))) := by
  unfold f_is_rest m_is_rest restB
  cases d with
  | int n =>
    by_cases h : 0 ≤ n
    · walk_at "ct*"
    · walk_at "ct*"
  | _ => walk_at "ct*"

def m_is_table : XS := sSeq (sIf (xOr (xNot (xUn (isiR "tuple") (xVar 0))) (xNot (xChain leR leR (xC (.int 1)) (xCB lenR (xaCons (xVar 0) (xaNil))) (xC (.int 3))))) (sRet (xC (.bool false))) (sSkip)) (sSeq (sIf (xNot (xCB allR (xaCons (xComp [2] (xiSeq (xqVar 0)) (gOne 2) (xC (.bool true)) (xAnd (xUn (isiR "tuple") (xVar 2)) (xChain leR leR (xC (.int 1)) (xCB lenR (xaCons (xVar 2) (xaNil))) (xC (.int 3))))) (xaNil)))) (sRet (xC (.bool false))) (sSkip)) (sSeq (sIf (xNot (xCB allR (xaCons (xComp [2] (xiSeq (xqVar 0)) (gOne 2) (xC (.bool true)) (xBin eqR (xCB lenR (xaCons (xVar 2) (xaNil))) (xCB lenR (xaCons (xBin ixR (xVar 0) (xC (.int 0))) (xaNil))))) (xaNil)))) (sRet (xC (.bool false))) (sSkip)) (sRet (xCB allR (xaCons (xComp [2] (xiSeq (xqVar 0)) (gOne 2) (xC (.bool true)) (xCB allR (xaCons (xComp [3] (xiSeq (xqVar 2)) (gOne 3) (xC (.bool true)) (xCall f_is_rest (xaCons (xVar 3) (xaCons (xVar 1) (xaNil))))) (xaNil)))) (xaNil))))))
def f_is_table : SemN := runF 4 2 m_is_table
theorem chain_len {ds : List D} {env : Env} : (if decide ((1 : Int) ≤ (ds.length : Int)) = true then some (R.im (PyData.bool (decide ((ds.length : Int) ≤ 3)))) else some (R.im (PyData.bool false))) = some (.im (.bool (sizeB (.tuple ds)))) := by
  unfold sizeB
  by_cases h : 1 ≤ ds.length
  · have h' : (1 : Int) ≤ (ds.length : Int) := by omega
    by_cases h2 : ds.length ≤ 3
    · have h2' : (ds.length : Int) ≤ 3 := by omega
      simp [h, h', h2, h2']
    · have h2' : ¬ (ds.length : Int) ≤ 3 := by omega
      simp [h, h', h2, h2']
  · have h' : ¬ (1 : Int) ≤ (ds.length : Int) := by omega
    simp [h, h']
theorem all3 {α : Type} (a b c : α → Bool) : ∀ xs : List α, (xs.all fun r => a r && (b r && c r)) = (xs.all a && (xs.all b && xs.all c))
  | [] => rfl
  | x :: xs => by
    simp only [List.all_cons]
    rw [all3 a b c xs]
    cases a x <;> cases b x <;> cases c x <;> simp
theorem all_size {p : Int} {ds : List D} (h : sizeB (.tuple ds) = true) : tabB p (.tuple ds) = (ds.all sizeB && (ds.all (fun r => decide ((partsD r).length = (partsD (ds.headD .none)).length)) && ds.all fun r => (partsD r).all (restB p))) := by
  unfold tabB
  rw [h, Bool.true_and]
  exact all3 _ _ _ ds
theorem size_tuple {r : D} (h : sizeB r = true) : ∃ es, r = .tuple es ∧ 1 ≤ es.length ∧ es.length ≤ 3 := by
  unfold sizeB at h
  cases r with
  | tuple es =>
    simp at h
    exact ⟨es, rfl, by omega, by omega⟩
  | _ => simp at h
theorem run_is_table (d : D) (p : Int) : f_is_table [.im d, .im (.int p)] = some (.im (.bool (tabB p d))) := by
  unfold f_is_table m_is_table
  cases d with
  | tuple ds =>
    cases hs : sizeB (.tuple ds) with
    | false =>
      have e : tabB p (.tuple ds) = false := by
        unfold tabB
        rw [hs]
        rfl
      have z := chain_len (ds := ds) (env := [])
      rw [hs] at z
      rw [e]
      walk_at "ct"
      rw [z]
      walk_at "ct"
    | true =>
      have z := chain_len (ds := ds) (env := [])
      rw [hs] at z
      obtain ⟨ds', e0, h1, h3⟩ := size_tuple hs
      have e00 : ds = ds' := by
        injection e0
      subst e00
      have c1 : xComp [2] (xiSeq (xqVar 0)) (gOne 2) (xC (.bool true)) (xAnd (xUn (isiR "tuple") (xVar 2)) (xChain leR leR (xC (.int 1)) (xCB lenR (xaCons (xVar 2) (xaNil))) (xC (.int 3)))) [.im (.tuple ds), .im (.int p), .no, .no] = some (.fr (ds.map fun r => .bool (sizeB r))) := by
        refine xComp_ok (fun d => d) (fun r => .bool (sizeB r)) ds (env' := [.im (.tuple ds), .im (.int p), .no, .no]) ?_ (by omega) ?_
        · walk_at "ct"
          rw [List.map_id']
        · intro r hr
          cases r with
          | tuple es =>
            walk_at "ct"
            rw [chain_len (env := [])]
            rfl
          | _ =>
            walk_at "ct"
            rfl
      rw [all_size hs]
      clear hs
      cases ha : ds.all sizeB with
      | false =>
        walk_at "ct"
        rw [z]
        walk_at "ct"
        rw [c1]
        walk_at "ct"
        rw [e_all_fr, ha]
        walk_at "ct"
      | true =>
        have hall : ∀ r ∈ ds, sizeB r = true := List.all_eq_true.mp ha
        cases ds with
        | nil => exact absurd h1 (by decide)
        | cons hd tl =>
          obtain ⟨hes, rfl, _, _⟩ := size_tuple (hall hd List.mem_cons_self)
          have c2 : xComp [2] (xiSeq (xqVar 0)) (gOne 2) (xC (.bool true)) (xBin eqR (xCB lenR (xaCons (xVar 2) (xaNil))) (xCB lenR (xaCons (xBin ixR (xVar 0) (xC (.int 0))) (xaNil)))) [.im (.tuple (.tuple hes :: tl)), .im (.int p), .no, .no] = some (.fr ((.tuple hes :: tl).map fun r => .bool (decide ((partsD r).length = hes.length)))) := by
            refine xComp_ok (fun d => d) _ (.tuple hes :: tl) (env' := [.im (.tuple (.tuple hes :: tl)), .im (.int p), .no, .no]) ?_ (by omega) ?_
            · walk_at "ct"
              rw [List.map_id']
            · intro r hr
              obtain ⟨es, rfl, _, _⟩ := size_tuple (hall r hr)
              walk_at "ct"
              have q : decide ((es.length : Int) = (hes.length : Int)) = decide (es.length = hes.length) := by
                rw [decide_eq_decide]
                omega
              rw [q]
              rfl
          have c3 : xComp [2] (xiSeq (xqVar 0)) (gOne 2) (xC (.bool true)) (xCB allR (xaCons (xComp [3] (xiSeq (xqVar 2)) (gOne 3) (xC (.bool true)) (xCall f_is_rest (xaCons (xVar 3) (xaCons (xVar 1) (xaNil))))) (xaNil))) [.im (.tuple (.tuple hes :: tl)), .im (.int p), .no, .no] = some (.fr ((.tuple hes :: tl).map fun r => .bool ((partsD r).all (restB p)))) := by
            refine xComp_ok (fun d => d) _ (.tuple hes :: tl) (env' := [.im (.tuple (.tuple hes :: tl)), .im (.int p), .no, .no]) ?_ (by omega) ?_
            · walk_at "ct"
              rw [List.map_id']
            · intro r hr
              obtain ⟨es, rfl, _, _⟩ := size_tuple (hall r hr)
              have c4 : xComp [3] (xiSeq (xqVar 2)) (gOne 3) (xC (.bool true)) (xCall f_is_rest (xaCons (xVar 3) (xaCons (xVar 1) (xaNil)))) [.im (.tuple (.tuple hes :: tl)), .im (.int p), .im (.tuple es), .no] = some (.fr (es.map fun r => .bool (restB p r))) := by
                refine xComp_ok (fun d => d) _ es (env' := [.im (.tuple (.tuple hes :: tl)), .im (.int p), .im (.tuple es), .no]) ?_ (by omega) ?_
                · walk_at "ct"
                  rw [List.map_id']
                · intro r hr
                  have q := run_is_rest r p
                  walk_at "ct*"
              walk_at "ct"
              rw [c4]
              walk_at "ct"
              rw [e_all_fr]
              walk_at "ct"
              rfl
          walk_at "ct"
          simp only [List.length_cons, List.map_cons] at z c1 c2 c3
          rw [z]
          walk_at "ct"
          rw [c1]
          walk_at "ct"
          have a1 := e_all_fr sizeB (.tuple hes :: tl)
          have a2 := e_all_fr (fun r => decide ((partsD r).length = hes.length)) (.tuple hes :: tl)
          have a3 := e_all_fr (fun r => (partsD r).all (restB p)) (.tuple hes :: tl)
          rw [List.map_cons] at a1 a2 a3
          rw [a1, ha]
          walk_at "ct"
          rw [c2]
          walk_at "ct"
          rw [a2]
          show _ = some (R.im (PyData.bool ((List.all (.tuple hes :: tl) fun r => decide ((partsD r).length = hes.length)) && (List.all (.tuple hes :: tl) fun r => (partsD r).all (restB p)))))
          cases hb : List.all (.tuple hes :: tl) fun r => decide ((partsD r).length = hes.length) with
          | false => walk_at "ct"
          | true =>
            walk_at "ct"
            rw [c3]
            walk_at "ct"
            rw [a3]
            walk_at "ct"
  | _ =>
    unfold tabB sizeB
    walk_at "ct"

def m__law_rest : XS := sRet (xAnd (xUn (isiR "int") (xVar 0)) (xAnd (xNot (xUn (isiR "bool") (xVar 0))) (xChain leR ltR (xC (.int 0)) (xVar 0) (xVar 1))))
def f__law_rest : SemN := runF 2 2 m__law_rest
theorem run_lrest (d : D) (p : Int) : f__law_rest [.im d, .im (.int p)] = some (.im (.bool (restB p d))) := by
  unfold f__law_rest m__law_rest restB
  cases d with
  | int n =>
    by_cases h : 0 ≤ n
    · walk_at "ct*"
    · walk_at "ct*"
  | _ => walk_at "ct*"

def m__law_is_table : XS := sSeq (sIf (xOr (xNot (xUn (isiR "tuple") (xVar 0))) (xNot (xChain leR leR (xC (.int 1)) (xCB lenR (xaCons (xVar 0) (xaNil))) (xC (.int 3))))) (sRet (xC (.bool false))) (sSkip)) (sSeq (sWipe (sFor (xiSeq (xqVar 0)) (gOne 2) (sWipe (sSeq (sIf (xOr (xNot (xUn (isiR "tuple") (xVar 2))) (xNot (xChain leR leR (xC (.int 1)) (xCB lenR (xaCons (xVar 2) (xaNil))) (xC (.int 3))))) (sRet (xC (.bool false))) (sSkip)) (sIf (xOr (xBin neR (xCB lenR (xaCons (xVar 2) (xaNil))) (xCB lenR (xaCons (xBin ixR (xVar 0) (xC (.int 0))) (xaNil)))) (xBin neR (xComp [3] (xiSeq (xqVar 2)) (gOne 3) (xNot (xCall f__law_rest (xaCons (xVar 3) (xaCons (xVar 1) (xaNil))))) (xVar 3)) (xLst (xaNil)))) (sRet (xC (.bool false))) (sSkip))) [2])) [2]) (sRet (xC (.bool true))))
def f__law_is_table : SemN := runF 4 2 m__law_is_table
theorem filter_none {α : Type} {k : α → Bool} : ∀ {xs : List α}, (xs.filter fun x => !k x).isEmpty = xs.all k
  | [] => rfl
  | x :: xs => by
    rw [List.filter_cons, List.all_cons]
    cases hk : k x with
    | true =>
      rw [if_neg (by decide), Bool.true_and]
      exact filter_none
    | false =>
      rw [if_pos (by decide), Bool.false_and]
      rfl
theorem run_lis_table (d : D) (p : Int) {n : Nat} (hf : Fine n d) (hn : n ≤ 60) : f__law_is_table [.im d, .im (.int p)] = some (.im (.bool (tabB p d))) := by
  unfold f__law_is_table m__law_is_table
  cases d with
  | tuple ds =>
    cases hs : sizeB (.tuple ds) with
    | false =>
      have e : tabB p (.tuple ds) = false := by
        unfold tabB
        rw [hs]
        rfl
      have z := chain_len (ds := ds) (env := [])
      rw [hs] at z
      rw [e]
      walk_at "ct"
      rw [z]
      walk_at "ct"
    | true =>
      have z := chain_len (ds := ds) (env := [])
      rw [hs] at z
      obtain ⟨ds', e0, h1, h3⟩ := size_tuple hs
      have e00 : ds = ds' := by
        injection e0
      subst e00
      clear e0
      unfold tabB
      rw [hs, Bool.true_and]
      have hfd : ∀ r ∈ ds, Fine n r := tuple_fine (hf.mono (Nat.le_succ n))
      clear hs
      cases ds with
      | nil => exact absurd h1 (by decide)
      | cons hd tl =>
        have hlp := forL_find [.im (.tuple (hd :: tl)), .im (.int p), .no, .no] (fun d => d) (gOne 2) (sWipe (sSeq (sIf (xOr (xNot (xUn (isiR "tuple") (xVar 2))) (xNot (xChain leR leR (xC (.int 1)) (xCB lenR (xaCons (xVar 2) (xaNil))) (xC (.int 3))))) (sRet (xC (.bool false))) (sSkip)) (sIf (xOr (xBin neR (xCB lenR (xaCons (xVar 2) (xaNil))) (xCB lenR (xaCons (xBin ixR (xVar 0) (xC (.int 0))) (xaNil)))) (xBin neR (xComp [3] (xiSeq (xqVar 2)) (gOne 3) (xNot (xCall f__law_rest (xaCons (xVar 3) (xaCons (xVar 1) (xaNil))))) (xVar 3)) (xLst (xaNil)))) (sRet (xC (.bool false))) (sSkip))) [2]) (fun r => sizeB r && (decide ((partsD r).length = (partsD hd).length) && (partsD r).all (restB p))) (.im (.bool false)) (hd :: tl)
        have hfirst : sizeB hd = true ∨ sizeB hd = false := by cases sizeB hd <;> simp
        have hbody : ∀ r ∈ hd :: tl, sizeB hd = true → ((gOne 2) [.im (.tuple (hd :: tl)), .im (.int p), .no, .no] r).bind (sWipe (sSeq (sIf (xOr (xNot (xUn (isiR "tuple") (xVar 2))) (xNot (xChain leR leR (xC (.int 1)) (xCB lenR (xaCons (xVar 2) (xaNil))) (xC (.int 3))))) (sRet (xC (.bool false))) (sSkip)) (sIf (xOr (xBin neR (xCB lenR (xaCons (xVar 2) (xaNil))) (xCB lenR (xaCons (xBin ixR (xVar 0) (xC (.int 0))) (xaNil)))) (xBin neR (xComp [3] (xiSeq (xqVar 2)) (gOne 3) (xNot (xCall f__law_rest (xaCons (xVar 3) (xaCons (xVar 1) (xaNil))))) (xVar 3)) (xLst (xaNil)))) (sRet (xC (.bool false))) (sSkip))) [2]) = if (sizeB r && (decide ((partsD r).length = (partsD hd).length) && (partsD r).all (restB p))) = true then some (.nx [.im (.tuple (hd :: tl)), .im (.int p), .no, .no]) else some (.rt (.im (.bool false))) := by
          intro r hr h0
          obtain ⟨hes, rfl, _, _⟩ := size_tuple h0
          cases hk : sizeB r with
          | false =>
            cases r with
            | tuple es =>
              have y := chain_len (ds := es) (env := [])
              rw [hk] at y
              walk_at "ct"
              rw [y]
              walk_at "ct"
            | _ => walk_at "ct"
          | true =>
            obtain ⟨es, rfl, _, _⟩ := size_tuple hk
            have y := chain_len (ds := es) (env := [])
            rw [hk] at y
            have q : decide ((es.length : Int) = (hes.length : Int)) = decide (es.length = hes.length) := by
              rw [decide_eq_decide]
              omega
            show _ = if (true && (decide (es.length = hes.length) && es.all (restB p))) = true then _ else _
            walk_at "ct"
            rw [y]
            walk_at "ct"
            rw [q]
            by_cases hl : es.length = hes.length
            · rw [decide_eq_true hl]
              walk_at "ct"
              have hfe : ∀ e ∈ es, Fine n e := tuple_fine ((hfd _ hr).mono (Nat.le_succ n))
              have c4 : xComp [3] (xiSeq (xqVar 2)) (gOne 3) (xNot (xCall f__law_rest (xaCons (xVar 3) (xaCons (xVar 1) (xaNil))))) (xVar 3) [.im (.tuple (.tuple hes :: tl)), .im (.int p), .im (.tuple es), .no] = some (.fr ((es.filter fun e => !restB p e).map fun e => e)) := by
                refine xComp_if (fun d => d) (fun e => e) (fun e => !restB p e) es (env' := [.im (.tuple (.tuple hes :: tl)), .im (.int p), .im (.tuple es), .no]) ?_ (by omega) ?_
                · walk_at "ct"
                  rw [List.map_id']
                · intro e he
                  refine ⟨[.im (.tuple (.tuple hes :: tl)), .im (.int p), .im (.tuple es), .im e], ?_, ?_, fun _ => ?_⟩
                  · walk_at "ct"
                  · have qq := run_lrest e p
                    walk_at "ct*"
                  · walk_at "ct"
              rw [List.map_id'] at c4
              rw [c4]
              have c5 := e_ne_nil (ds := es.filter fun e => !restB p e) (n := n) (fun e he => hfe e (List.mem_filter.mp he).1) (by omega)
              rw [filter_none] at c5
              walk_at "ct"
              rw [c5]
              cases es.all (restB p) with
              | true => walk_at "ct"
              | false => walk_at "ct"
            · rw [decide_eq_false hl]
              walk_at "ct"
        simp only [List.map_id'] at hlp
        rcases hfirst with h0 | h0
        · have hlp2 := hlp fun r hr => hbody r hr h0
          walk_at "ct"
          simp only [List.length_cons] at z
          rw [z]
          walk_at "ct"
          rw [hlp2]
          show endO (seqO (wipeO (if (List.all (hd :: tl) fun r => sizeB r && (decide ((partsD r).length = (partsD hd).length) && (partsD r).all (restB p))) = true then _ else _) _) _) = some (.im (.bool (List.all (hd :: tl) fun r => sizeB r && (decide ((partsD r).length = (partsD hd).length) && (partsD r).all (restB p)))))
          cases List.all (hd :: tl) fun r => sizeB r && (decide ((partsD r).length = (partsD hd).length) && (partsD r).all (restB p)) with
          | true => walk_at "ct"
          | false => walk_at "ct"
        · have e1 : (List.all (hd :: tl) fun r => sizeB r && (decide ((partsD r).length = (partsD hd).length) && (partsD r).all (restB p))) = false := by
            rw [List.all_cons, h0]
            rfl
          show _ = some (R.im (.bool (List.all (hd :: tl) fun r => sizeB r && (decide ((partsD r).length = (partsD hd).length) && (partsD r).all (restB p)))))
          rw [e1]
          walk_at "ct"
          simp only [List.length_cons] at z
          rw [z]
          walk_at "ct"
          have hstep : ((gOne 2) [.im (.tuple (hd :: tl)), .im (.int p), .no, .no] hd).bind (sWipe (sSeq (sIf (xOr (xNot (xUn (isiR "tuple") (xVar 2))) (xNot (xChain leR leR (xC (.int 1)) (xCB lenR (xaCons (xVar 2) (xaNil))) (xC (.int 3))))) (sRet (xC (.bool false))) (sSkip)) (sIf (xOr (xBin neR (xCB lenR (xaCons (xVar 2) (xaNil))) (xCB lenR (xaCons (xBin ixR (xVar 0) (xC (.int 0))) (xaNil)))) (xBin neR (xComp [3] (xiSeq (xqVar 2)) (gOne 3) (xNot (xCall f__law_rest (xaCons (xVar 3) (xaCons (xVar 1) (xaNil))))) (xVar 3)) (xLst (xaNil)))) (sRet (xC (.bool false))) (sSkip))) [2]) = some (.rt (.im (.bool false))) := by
            cases hd with
            | tuple es =>
              have y := chain_len (ds := es) (env := [])
              rw [h0] at y
              walk_at "ct"
              rw [y]
              walk_at "ct"
            | _ => walk_at "ct"
          obtain ⟨e9, h8, h9⟩ := Option.bind_eq_some_iff.mp hstep
          have hl : forL (gOne 2) (sWipe (sSeq (sIf (xOr (xNot (xUn (isiR "tuple") (xVar 2))) (xNot (xChain leR leR (xC (.int 1)) (xCB lenR (xaCons (xVar 2) (xaNil))) (xC (.int 3))))) (sRet (xC (.bool false))) (sSkip)) (sIf (xOr (xBin neR (xCB lenR (xaCons (xVar 2) (xaNil))) (xCB lenR (xaCons (xBin ixR (xVar 0) (xC (.int 0))) (xaNil)))) (xBin neR (xComp [3] (xiSeq (xqVar 2)) (gOne 3) (xNot (xCall f__law_rest (xaCons (xVar 3) (xaCons (xVar 1) (xaNil))))) (xVar 3)) (xLst (xaNil)))) (sRet (xC (.bool false))) (sSkip))) [2]) (hd :: tl) [.im (.tuple (hd :: tl)), .im (.int p), .no, .no] = some (.rt (.im (.bool false))) := by
            show ((gOne 2 _ hd).bind fun e1 => _) = _
            rw [h8, Option.bind_some, h9]
            rfl
          rw [hl]
          walk_at "ct"
  | _ =>
    unfold tabB sizeB
    walk_at "ct"

def m_is_powers : XS := sSeq (sIf (xOr (xNot (xUn (isiR "tuple") (xVar 0))) (xOr (xBin gtR (xCB lenR (xaCons (xVar 0) (xaNil))) (xC (.int 7))) (xNot (xCB allR (xaCons (xComp [2] (xiSeq (xqVar 0)) (gOne 2) (xC (.bool true)) (xCall f_is_rest (xaCons (xVar 2) (xaCons (xVar 1) (xaNil))))) (xaNil)))))) (sRet (xC (.bool false))) (sSkip)) (sRet (xOr (xBin eqR (xVar 0) (xTup (xaNil))) (xBin neR (xBin ixR (xVar 0) (xUn negR (xC (.int 1)))) (xC (.int 0)))))
def f_is_powers : SemN := runF 3 2 m_is_powers
theorem all_rest {p : Int} : ∀ {ds : List D}, ds.all (restB p) = true → ∃ ns : List Int, ds = ns.map PyData.int
  | [], _ => ⟨[], rfl⟩
  | d :: ds, h => by
    rw [List.all_cons, Bool.and_eq_true] at h
    obtain ⟨ns, rfl⟩ := all_rest h.2
    cases d with
    | int n => exact ⟨n :: ns, rfl⟩
    | _ => exact absurd h.1 (by simp [restB])
theorem last_int : ∀ (ns : List Int), (ns.map PyData.int).getLastD (.int 0) = .int (ns.getLastD 0)
  | [] => rfl
  | [_] => rfl
  | _ :: m :: ms => last_int (m :: ms)
theorem at_last' (ns : List Int) (h : ns ≠ []) : atI (ns.map PyData.int) ((ns.length : Int) - 1) = some (.int (ns.getLastD 0)) := by
  have hl : 0 < ns.length := List.length_pos_iff.mpr h
  refine atI_nat' (j := ns.length - 1) (by omega) ?_
  rw [List.getElem?_map, List.getLastD_eq_getLast?, List.getLast?_eq_getElem?, List.getElem?_eq_getElem (by omega)]
  rfl
theorem at_last (ns : List Int) (h : ns ≠ []) : atI (ns.map PyData.int) (-1) = some (.int (ns.getLastD 0)) := by
  have hl : 0 < ns.length := List.length_pos_iff.mpr h
  have z := at_last' ns h
  unfold atI at z ⊢
  rw [show ixN ((ns.map PyData.int).length) (-1) = ixN ((ns.map PyData.int).length) ((ns.length : Int) - 1) by
    unfold ixN
    rw [List.length_map, if_neg (by omega), if_pos (by omega), if_pos (by omega), if_pos (by omega)]
    congr 1 <;> omega]
  exact z
theorem run_is_powers (d : D) (p : Int) {n : Nat} (hf : Fine n d) (hn : n ≤ 60) : f_is_powers [.im d, .im (.int p)] = some (.im (.bool (powersB p d))) := by
  unfold f_is_powers m_is_powers
  cases d with
  | tuple ds =>
    have hfd : ∀ r ∈ ds, Fine n r := tuple_fine (hf.mono (Nat.le_succ n))
    show _ = some (R.im (.bool (true && (decide (ds.length ≤ 7) && (ds.all (restB p) && (ds.isEmpty || nzD (ds.getLastD (.int 0))))))))
    by_cases hl : ds.length ≤ 7
    · have hl' : decide ((7 : Int) < (ds.length : Int)) = false := decide_eq_false (by omega)
      have c4 : xComp [2] (xiSeq (xqVar 0)) (gOne 2) (xC (.bool true)) (xCall f_is_rest (xaCons (xVar 2) (xaCons (xVar 1) (xaNil)))) [.im (.tuple ds), .im (.int p), .no] = some (.fr (ds.map fun e => .bool (restB p e))) := by
        refine xComp_ok (fun d => d) _ ds (env' := [.im (.tuple ds), .im (.int p), .no]) ?_ (by omega) ?_
        · walk_at "ct"
          rw [List.map_id']
        · intro e he
          have qq := run_is_rest e p
          walk_at "ct*"
      have c5 := e_all_fr (restB p) ds
      walk_at "ct"
      rw [hl']
      walk_at "ct"
      rw [c4]
      walk_at "ct"
      rw [c5, decide_eq_true hl]
      cases ha : ds.all (restB p) with
      | false => walk_at "ct"
      | true =>
        obtain ⟨ns, rfl⟩ := all_rest ha
        cases ns with
        | nil =>
          have e0 : eqR (.im (.tuple [])) (.im (.tuple [])) = some (.im (.bool true)) := rfl
          walk_at "ct*"
          rfl
        | cons m ms =>
          have e0 : eqR (.im (.tuple ((m :: ms).map PyData.int))) (.im (.tuple [])) = some (.im (.bool false)) := by
            have y := e_eq_row (m :: ms) []
            rw [decide_eq_false (List.cons_ne_nil m ms)] at y
            exact y
          have e1 := at_last (m :: ms) (by simp)
          have e2 : nzD (((m :: ms).map PyData.int).getLastD (.int 0)) = !decide ((m :: ms).getLastD 0 = 0) := by
            rw [last_int]
            rfl
          rw [e2]
          clear ha c4 c5 hfd hf hl hl'
          have e3 : List.isEmpty ((m :: ms).map PyData.int) = false := rfl
          rw [e3]
          generalize hms : m :: ms = xs at *
          walk_at "ct*"
    · have hl' : decide ((7 : Int) < (ds.length : Int)) = true := decide_eq_true (by omega)
      rw [decide_eq_false hl]
      walk_at "ct*"
  | _ =>
    unfold powersB
    walk_at "ct"

def m__law_is_powers : XS := sSeq (sIf (xOr (xNot (xUn (isiR "tuple") (xVar 0))) (xOr (xBin gtR (xCB lenR (xaCons (xVar 0) (xaNil))) (xC (.int 7))) (xBin neR (xComp [2] (xiSeq (xqVar 0)) (gOne 2) (xNot (xCall f__law_rest (xaCons (xVar 2) (xaCons (xVar 1) (xaNil))))) (xVar 2)) (xLst (xaNil))))) (sRet (xC (.bool false))) (sSkip)) (sRet (xOr (xBin eqR (xVar 0) (xTup (xaNil))) (xBin neR (xBin ixR (xVar 0) (xBin subR (xCB lenR (xaCons (xVar 0) (xaNil))) (xC (.int 1)))) (xC (.int 0)))))
def f__law_is_powers : SemN := runF 3 2 m__law_is_powers
theorem run_lis_powers (d : D) (p : Int) {n : Nat} (hf : Fine n d) (hn : n ≤ 60) : f__law_is_powers [.im d, .im (.int p)] = some (.im (.bool (powersB p d))) := by
  unfold f__law_is_powers m__law_is_powers
  cases d with
  | tuple ds =>
    have hfd : ∀ r ∈ ds, Fine n r := tuple_fine (hf.mono (Nat.le_succ n))
    show _ = some (R.im (.bool (true && (decide (ds.length ≤ 7) && (ds.all (restB p) && (ds.isEmpty || nzD (ds.getLastD (.int 0))))))))
    by_cases hl : ds.length ≤ 7
    · have hl' : decide ((7 : Int) < (ds.length : Int)) = false := decide_eq_false (by omega)
      have c4 : xComp [2] (xiSeq (xqVar 0)) (gOne 2) (xNot (xCall f__law_rest (xaCons (xVar 2) (xaCons (xVar 1) (xaNil))))) (xVar 2) [.im (.tuple ds), .im (.int p), .no] = some (.fr (ds.filter fun e => !restB p e)) := by
        have z := xComp_if (fun d => d) (fun e => e) (fun e => !restB p e) ds (vs := [2]) (q := xiSeq (xqVar 0)) (g := gOne 2) (t := xNot (xCall f__law_rest (xaCons (xVar 2) (xaCons (xVar 1) (xaNil))))) (f := xVar 2) (env := [.im (.tuple ds), .im (.int p), .no]) (env' := [.im (.tuple ds), .im (.int p), .no]) (by
          walk_at "ct"
          rw [List.map_id']) (by omega) (by
          intro e he
          refine ⟨[.im (.tuple ds), .im (.int p), .im e], ?_, ?_, fun _ => ?_⟩
          · walk_at "ct"
          · have qq := run_lrest e p
            walk_at "ct*"
          · walk_at "ct")
        rw [List.map_id'] at z
        exact z
      have c5 := e_ne_nil (ds := ds.filter fun e => !restB p e) (n := n) (fun e he => hfd e (List.mem_filter.mp he).1) (by omega)
      rw [filter_none] at c5
      walk_at "ct"
      rw [hl']
      walk_at "ct"
      rw [c4]
      walk_at "ct"
      rw [c5, decide_eq_true hl]
      cases ha : ds.all (restB p) with
      | false => walk_at "ct"
      | true =>
        obtain ⟨ns, rfl⟩ := all_rest ha
        cases ns with
        | nil =>
          have e0 : eqR (.im (.tuple [])) (.im (.tuple [])) = some (.im (.bool true)) := rfl
          walk_at "ct*"
          rfl
        | cons m ms =>
          have e0 : eqR (.im (.tuple ((m :: ms).map PyData.int))) (.im (.tuple [])) = some (.im (.bool false)) := by
            have y := e_eq_row (m :: ms) []
            rw [decide_eq_false (List.cons_ne_nil m ms)] at y
            exact y
          have e1 : atI ((m :: ms).map PyData.int) (((m :: ms).length : Int) - 1) = some (.int ((m :: ms).getLastD 0)) := at_last' (m :: ms) (by simp)
          have e2 : nzD (((m :: ms).map PyData.int).getLastD (.int 0)) = !decide ((m :: ms).getLastD 0 = 0) := by
            rw [last_int]
            rfl
          rw [e2]
          clear ha c4 c5 hfd hf hl hl'
          have e3 : List.isEmpty ((m :: ms).map PyData.int) = false := rfl
          rw [e3]
          generalize hms : m :: ms = xs at *
          walk_at "ct*"
    · have hl' : decide ((7 : Int) < (ds.length : Int)) = true := decide_eq_true (by omega)
      rw [decide_eq_false hl]
      walk_at "ct*"
  | _ =>
    unfold powersB
    walk_at "ct"

def s0_law : XS := sSet 1 (xCall f__law_mixed (xaCons (xVar 0) (xaCons (xC (.int 0)) (xaNil))))
def s1_law : XS := sSet 2 (xCall f__law_by (xaCons (xBin divR (xVar 1) (xC (.int 3))) (xaNil)))
def s2_law : XS := sSet 3 (xCall f__law_table (xaCons (xCall f__law_mixed (xaCons (xVar 0) (xaCons (xC (.int 1)) (xaNil)))) (xaCons (xVar 2) (xaCons (xBin addR (xC (.int 1)) (xBin modR (xBin divR (xVar 1) (xC (.int 16))) (xC (.int 3)))) (xaCons (xBin addR (xC (.int 1)) (xBin modR (xBin divR (xVar 1) (xC (.int 64))) (xC (.int 3)))) (xaNil))))))
def s3_law : XS := sSet 4 (xCall f__law_mixed (xaCons (xVar 0) (xaCons (xC (.int 2)) (xaNil))))
def s4_law : XS := sSet 5 (xCB tupleR (xaCons (xComp [8] (xiR1 (xaCons (xBin modR (xVar 4) (xC (.int 7))) (xaNil))) (gOne 8) (xC (.bool true)) (xBin modR (xBin divR (xCall f__law_drawn (xaCons (xVar 4) (xaCons (xVar 8) (xaNil)))) (xC (.int 4))) (xVar 2))) (xaNil)))
def s5_law : XS := sSet 5 (xBin addR (xVar 5) (xTup (xaCons (xBin addR (xC (.int 1)) (xBin modR (xBin divR (xVar 4) (xC (.int 8))) (xBin subR (xVar 2) (xC (.int 1))))) (xaNil))))
def s6_law : XS := sIf (xBin eqR (xBin modR (xBin divR (xVar 1) (xC (.int 256))) (xC (.int 5))) (xC (.int 0))) (sSet 5 (xTup (xaNil))) (sSkip)
def s7_law : XS := sIf (xBin gtR (xBin modR (xVar 1) (xC (.int 3))) (xC (.int 0))) (sSeq (sSet 3 (xCall (f__law_spoilt 3) (xaCons (xVar 3) (xaCons (xCall f__law_mixed (xaCons (xVar 0) (xaCons (xC (.int 3)) (xaNil)))) (xaCons (xBin modR (xBin divR (xVar 1) (xC (.int 1024))) (xC (.int 3))) (xaNil)))))) (sSet 5 (xCall (f__law_spoilt 3) (xaCons (xVar 5) (xaCons (xCall f__law_mixed (xaCons (xVar 0) (xaCons (xC (.int 4)) (xaNil)))) (xaCons (xBin modR (xBin divR (xVar 1) (xC (.int 4096))) (xC (.int 2))) (xaNil))))))) (sSkip)
def s8_law : XS := sWipe (sFor (xiSeq (xqE (xTup (xaCons (xVar 3) (xaCons (xVar 5) (xaNil)))))) (gOne 6) (sWipe (sSeq (sSet 7 (xCall f_is_table (xaCons (xVar 6) (xaCons (xVar 2) (xaNil))))) (sSeq (sIf (xOr (xNot (xUn (isiR "bool") (xVar 7))) (xBin neR (xVar 7) (xCall f__law_is_table (xaCons (xVar 6) (xaCons (xVar 2) (xaNil)))))) (sRet (xC (.bool false))) (sSkip)) (sSeq (sSet 7 (xCall f_is_powers (xaCons (xVar 6) (xaCons (xVar 2) (xaNil))))) (sIf (xOr (xNot (xUn (isiR "bool") (xVar 7))) (xBin neR (xVar 7) (xCall f__law_is_powers (xaCons (xVar 6) (xaCons (xVar 2) (xaNil)))))) (sRet (xC (.bool false))) (sSkip))))) [6, 7])) [6, 7]
def s9_law : XS := sRet (xC (.bool true))
def m_law : XS := sSeq (s0_law) (sSeq (s1_law) (sSeq (s2_law) (sSeq (s3_law) (sSeq (s4_law) (sSeq (s5_law) (sSeq (s6_law) (sSeq (s7_law) (sSeq (s8_law) (s9_law)))))))))
def f_law : SemN := runF 9 1 m_law
theorem sizes_ok (n : Int) : ∃ k : Nat, 1 + n % 3 = (k : Int) ∧ 1 ≤ k ∧ k ≤ 3 := ⟨(1 + n % 3).toNat, by omega, by omega, by omega⟩
local macro_rules | `(tactic| walk_at "st") => `(tactic| (apply seq_step; focus (simp only [s0_law, s1_law, s2_law, s3_law, s4_law, s5_law, s6_law, s7_law, s8_law]; walk_at "ct*"; rfl)))
theorem good_row {p : Int} (hp : p ≤ 5) {ns : List Int} (hl : ns.length ≤ 8) (h : ∀ n ∈ ns, 0 ≤ n ∧ n < p) : Good 1 (rowD ns) := by
  refine .inr ⟨ns.map .int, rfl, by rw [List.length_map]; exact hl, fun x hx => ?_⟩
  obtain ⟨n, hn, rfl⟩ := List.mem_map.mp hx
  exact ⟨n, rfl, (h n hn).1, by have := (h n hn).2; omega⟩
theorem good_tab {p : Int} (hp : p ≤ 5) {r c : Nat} (hr : r ≤ 3) (hc : c ≤ 3) {t : Tab} (h : Ok p r c t) : Good 2 (tabD t) := by
  refine .inr ⟨t.map rowD, rfl, by rw [List.length_map, h.len]; omega, fun x hx => ?_⟩
  obtain ⟨n, hn, rfl⟩ := List.mem_map.mp hx
  exact good_row hp (by rw [h.row n hn]; omega) fun y hy => h.num n hn y hy
theorem check_body (p : Int) (E : List Sl → Env) (d : D) {n : Nat} (hf : Fine n d) (hn : n ≤ 60) (a0 a1 a2 a3 a4 a5 a6 : Sl) :
    ((gOne 6) [a0, a1, .im (.int p), a3, a4, a5, .no, .no, .no] d).bind (sWipe (sSeq (sSet 7 (xCall f_is_table (xaCons (xVar 6) (xaCons (xVar 2) (xaNil))))) (sSeq (sIf (xOr (xNot (xUn (isiR "bool") (xVar 7))) (xBin neR (xVar 7) (xCall f__law_is_table (xaCons (xVar 6) (xaCons (xVar 2) (xaNil)))))) (sRet (xC (.bool false))) (sSkip)) (sSeq (sSet 7 (xCall f_is_powers (xaCons (xVar 6) (xaCons (xVar 2) (xaNil))))) (sIf (xOr (xNot (xUn (isiR "bool") (xVar 7))) (xBin neR (xVar 7) (xCall f__law_is_powers (xaCons (xVar 6) (xaCons (xVar 2) (xaNil)))))) (sRet (xC (.bool false))) (sSkip))))) [6, 7]) = some (.nx [a0, a1, .im (.int p), a3, a4, a5, .no, .no, .no]) := by
  have h1 := run_is_table d p
  have h2 := run_lis_table d p hf hn
  have h3 := run_is_powers d p hf hn
  have h4 := run_lis_powers d p hf hn
  walk_at "ct*"
theorem law_true (ns : List Int) (hns : ns.length ≤ 63) : f_law [.sc (ns.map PyData.int)] = some (.im (.bool true)) := by
  have hsc : IsSc (.sc (ns.map .int)) ns := .inl rfl
  have m0 : f__law_mixed [.sc (ns.map .int), .im (.int 0)] = some (.im (.int (mixedN ns 0))) := run_mixed hsc 0
  have m1 : f__law_mixed [.sc (ns.map .int), .im (.int 1)] = some (.im (.int (mixedN ns 1))) := run_mixed hsc 1
  have m2 : f__law_mixed [.sc (ns.map .int), .im (.int 2)] = some (.im (.int (mixedN ns 2))) := run_mixed hsc 2
  have m3 : f__law_mixed [.sc (ns.map .int), .im (.int 3)] = some (.im (.int (mixedN ns 3))) := run_mixed hsc 3
  have m4 : f__law_mixed [.sc (ns.map .int), .im (.int 4)] = some (.im (.int (mixedN ns 4))) := run_mixed hsc 4
  obtain ⟨hp1, hp2⟩ := by_pos (mixedN ns 0 / 3)
  have hb := run_by (mixedN ns 0 / 3)
  generalize hp : byN (mixedN ns 0 / 3) = p at *
  obtain ⟨r, er, r1, r2⟩ := sizes_ok (mixedN ns 0 / 16)
  obtain ⟨c, ec, c1, c2⟩ := sizes_ok (mixedN ns 0 / 64)
  have t1 := run_table (mixedN ns 1) p r c (by omega) (by omega) (by omega)
  have o1 := table_ok (n := mixedN ns 1) (p := p) (by omega) r c
  generalize tableT (mixedN ns 1) p r c = a at *
  generalize mixedN ns 0 = n0 at *
  generalize mixedN ns 1 = n1 at *
  generalize mixedN ns 2 = n2 at *
  generalize mixedN ns 3 = n3 at *
  generalize mixedN ns 4 = n4 at *
  refine run_of rfl ?_
  show m_law [.sc (ns.map .int), .no, .no, .no, .no, .no, .no, .no, .no] = _
  unfold m_law
  walk_at "st"
  walk_at "st"
  walk_at "st"
  walk_at "st"
  obtain ⟨k7, e7, l7⟩ : ∃ k : Nat, n2 % 7 = (k : Int) ∧ k ≤ 6 := ⟨(n2 % 7).toNat, by omega, by omega⟩
  have i7 : inRg (k7 : Int) = true := inRg_nat (by omega)
  refine seq_step (e' := [.sc (ns.map .int), .im (.int n0), .im (.int p), .im (tabD a), .im (.int n2), .im (rowD ((List.range k7).map fun (k : Nat) => drawnN n2 k / 4 % p)), .no, .no, .no]) ?_ ?_
  · unfold s4_law
    rw [sSet_eq, xCB_eq, xaCons_eq, xComp_ok (fun (k : Nat) => PyData.int (k : Int)) (fun (k : Nat) => PyData.int (drawnN n2 k / 4 % p)) (List.range k7) (env' := [.sc (ns.map .int), .im (.int n0), .im (.int p), .im (tabD a), .im (.int n2), .no, .no, .no, .no])]
    · walk_at "ct"
      simp [rowD]
    · walk_at "ct*"
    · simp
      omega
    · intro k hk
      have hd := run_drawn n2 k
      have hp0 : 0 < p := by omega
      walk_at "ct*"
  have hp0 : 0 < p := by omega
  have hp9 : 0 < p - 1 := by omega
  refine seq_step (e' := [.sc (ns.map .int), .im (.int n0), .im (.int p), .im (tabD a), .im (.int n2), .im (rowD (((List.range k7).map fun (k : Nat) => drawnN n2 k / 4 % p) ++ [1 + n2 / 8 % (p - 1)])), .no, .no, .no]) ?_ ?_
  · have hl : (List.map PyData.int ((List.range k7).map fun (k : Nat) => drawnN n2 k / 4 % p)).length + [PyData.int (1 + n2 / 8 % (p - 1))].length ≤ 100000 := by
      simp
      omega
    unfold s5_law
    have z := e_add_tup _ _ hl
    unfold rowD
    rw [List.map_append, List.map_cons, List.map_nil]
    generalize List.map PyData.int ((List.range k7).map fun (k : Nat) => drawnN n2 k / 4 % p) = xs at *
    clear hl
    walk_at "ct*"
  have gp : ∃ ps : List Int, Good 1 (rowD ps) ∧ (s6_law [.sc (ns.map .int), .im (.int n0), .im (.int p), .im (tabD a), .im (.int n2), .im (rowD (((List.range k7).map fun (k : Nat) => drawnN n2 k / 4 % p) ++ [1 + n2 / 8 % (p - 1)])), .no, .no, .no] = some (.nx [.sc (ns.map .int), .im (.int n0), .im (.int p), .im (tabD a), .im (.int n2), .im (rowD ps), .no, .no, .no])) := by
    by_cases h5 : n0 / 256 % 5 = 0
    · refine ⟨[], good_row hp2 (by decide) (fun n h => absurd h List.not_mem_nil), ?_⟩
      unfold s6_law
      walk_at "ct*"
      rfl
    · refine ⟨((List.range k7).map fun (k : Nat) => drawnN n2 k / 4 % p) ++ [1 + n2 / 8 % (p - 1)], good_row hp2 ?_ ?_, ?_⟩
      · simp
        omega
      · intro n hn
        have z := Int.emod_lt_of_pos (n2 / 8) hp9
        have z' := Int.emod_nonneg (n2 / 8) (show p - 1 ≠ 0 by omega)
        rcases List.mem_append.mp hn with hn | hn
        · obtain ⟨k, _, rfl⟩ := List.mem_map.mp hn
          exact ⟨Int.emod_nonneg _ (by omega), Int.emod_lt_of_pos _ hp0⟩
        · rw [List.mem_singleton.mp hn]
          omega
      · unfold s6_law
        walk_at "ct*"
  obtain ⟨ps, gps, e6⟩ := gp
  refine seq_step e6 ?_
  clear e6
  have g7 : ∃ d1 d2, Fine 20 d1 ∧ Fine 20 d2 ∧ (s7_law [.sc (ns.map .int), .im (.int n0), .im (.int p), .im (tabD a), .im (.int n2), .im (rowD ps), .no, .no, .no] = some (.nx [.sc (ns.map .int), .im (.int n0), .im (.int p), .im d1, .im (.int n2), .im d2, .no, .no, .no])) := by
    by_cases h3 : 0 < n0 % 3
    · obtain ⟨dp1, ep1, lp1⟩ : ∃ k : Nat, n0 / 1024 % 3 = (k : Int) ∧ k < 3 := ⟨(n0 / 1024 % 3).toNat, by omega, by omega⟩
      obtain ⟨dp2, ep2, lp2⟩ : ∃ k : Nat, n0 / 4096 % 2 = (k : Int) ∧ k < 2 := ⟨(n0 / 4096 % 2).toNat, by omega, by omega⟩
      obtain ⟨d1, w1, f1⟩ := run_spoilt 3 dp1 2 (tabD a) n3 lp1 (good_tab hp2 r2 c2 o1)
      obtain ⟨d2, w2, f2⟩ := run_spoilt 3 dp2 1 (rowD ps) n4 (by omega) gps
      refine ⟨d1, d2, f1.mono (by omega), f2.mono (by omega), ?_⟩
      unfold s7_law
      walk_at "ct*"
    · refine ⟨tabD a, rowD ps, (good_fine (good_tab hp2 r2 c2 o1)).mono (by omega), (good_fine gps).mono (by omega), ?_⟩
      unfold s7_law
      walk_at "ct*"
  obtain ⟨d1, d2, f1, f2, e7'⟩ := g7
  refine seq_step e7' ?_
  clear e7'
  have b1 := check_body p (fun _ => []) d1 f1 (by decide) (.sc (ns.map .int)) (.im (.int n0)) .no (.im d1) (.im (.int n2)) (.im d2) .no
  have b2 := check_body p (fun _ => []) d2 f2 (by decide) (.sc (ns.map .int)) (.im (.int n0)) .no (.im d1) (.im (.int n2)) (.im d2) .no
  have hloop := forL_foldS (fun (_ : Unit) => [.sc (ns.map .int), .im (.int n0), .im (.int p), .im d1, .im (.int n2), .im d2, .no, .no, .no]) (fun (d : D) => d) (gOne 6) _ (fun _ _ => ()) [d1, d2] () (fun x hx _ => by
    simp only [List.mem_cons, List.not_mem_nil, or_false] at hx
    rcases hx with rfl | rfl
    · exact b1
    · exact b2)
  rw [List.map_id'] at hloop
  clear b1 b2
  unfold s8_law s9_law
  generalize (sWipe (sSeq (sSet 7 (xCall f_is_table (xaCons (xVar 6) (xaCons (xVar 2) (xaNil))))) _) [6, 7]) = body at *
  walk_at "ct*"


end Ct
end
section
set_option maxRecDepth 100000
set_option maxHeartbeats 4000000
namespace Ct
open PySem PySem.Spec PyProof.Rows L2
/-! ### the text of the row -/
def top (i : Nat) : Stmt := PySem.Challenge.pw_carrytables_k01_things.main.body.getD i (.Pass ⟨0, 0, 0, 0⟩)
abbrev s__law_cell_at : Stmt := top 7
abbrev n__law_cell_at : List Str := ["script", "k"]
theorem sc__law_cell_at : FnScope n__law_cell_at ["script", "k"] (defScope s__law_cell_at) := ⟨rfl, rfl, rfl, by decide +kernel, rfl, by decide +kernel, by decide +kernel⟩
abbrev s__law_mixed : Stmt := top 8
abbrev n__law_mixed : List Str := ["script", "k", "drawn"]
theorem sc__law_mixed : FnScope n__law_mixed ["script", "k"] (defScope s__law_mixed) := ⟨rfl, rfl, rfl, by decide +kernel, rfl, by decide +kernel, by decide +kernel⟩
abbrev s__law_by : Stmt := top 14
abbrev n__law_by : List Str := ["number"]
theorem sc__law_by : FnScope n__law_by ["number"] (defScope s__law_by) := ⟨rfl, rfl, rfl, by decide +kernel, rfl, by decide +kernel, by decide +kernel⟩
abbrev s__law_drawn : Stmt := top 9
abbrev n__law_drawn : List Str := ["number", "k", "drawn"]
theorem sc__law_drawn : FnScope n__law_drawn ["number", "k"] (defScope s__law_drawn) := ⟨rfl, rfl, rfl, by decide +kernel, rfl, by decide +kernel, by decide +kernel⟩
abbrev s__law_table : Stmt := top 10
abbrev n__law_table : List Str := ["number", "by", "rows", "columns", "kind", "found", "row", "line", "at", "drawn", "part"]
theorem sc__law_table : FnScope n__law_table ["number", "by", "rows", "columns"] (defScope s__law_table) := ⟨rfl, rfl, rfl, by decide +kernel, rfl, by decide +kernel, by decide +kernel⟩
abbrev s__law_spoilt : Stmt := top 19
abbrev n__law_spoilt : List Str := ["thing", "number", "deep", "some", "at", "part"]
theorem sc__law_spoilt : FnScope n__law_spoilt ["thing", "number", "deep"] (defScope s__law_spoilt) := ⟨rfl, rfl, rfl, by decide +kernel, rfl, by decide +kernel, by decide +kernel⟩
abbrev s_is_rest : Stmt := top 3
abbrev n_is_rest : List Str := ["thing", "by"]
theorem sc_is_rest : FnScope n_is_rest ["thing", "by"] (defScope s_is_rest) := ⟨rfl, rfl, rfl, by decide +kernel, rfl, by decide +kernel, by decide +kernel⟩
abbrev s_is_table : Stmt := top 4
abbrev n_is_table : List Str := ["thing", "by", "row", "part"]
theorem sc_is_table : FnScope n_is_table ["thing", "by"] (defScope s_is_table) := ⟨rfl, rfl, rfl, by decide +kernel, rfl, by decide +kernel, by decide +kernel⟩
abbrev s__law_rest : Stmt := top 16
abbrev n__law_rest : List Str := ["thing", "by"]
theorem sc__law_rest : FnScope n__law_rest ["thing", "by"] (defScope s__law_rest) := ⟨rfl, rfl, rfl, by decide +kernel, rfl, by decide +kernel, by decide +kernel⟩
abbrev s__law_is_table : Stmt := top 17
abbrev n__law_is_table : List Str := ["thing", "by", "row", "part"]
theorem sc__law_is_table : FnScope n__law_is_table ["thing", "by"] (defScope s__law_is_table) := ⟨rfl, rfl, rfl, by decide +kernel, rfl, by decide +kernel, by decide +kernel⟩
abbrev s_is_powers : Stmt := top 5
abbrev n_is_powers : List Str := ["thing", "by", "part"]
theorem sc_is_powers : FnScope n_is_powers ["thing", "by"] (defScope s_is_powers) := ⟨rfl, rfl, rfl, by decide +kernel, rfl, by decide +kernel, by decide +kernel⟩
abbrev s__law_is_powers : Stmt := top 18
abbrev n__law_is_powers : List Str := ["thing", "by", "part"]
theorem sc__law_is_powers : FnScope n__law_is_powers ["thing", "by"] (defScope s__law_is_powers) := ⟨rfl, rfl, rfl, by decide +kernel, rfl, by decide +kernel, by decide +kernel⟩
abbrev s_law : Stmt := top 20
abbrev n_law : List Str := ["script", "number", "by", "table", "drawn", "powers", "one", "found", "k"]
theorem sc_law : FnScope n_law ["script"] (defScope s_law) := ⟨rfl, rfl, rfl, by decide +kernel, rfl, by decide +kernel, by decide +kernel⟩
section
variable {P : Program} {w : World} {K : Fg} {mg : Str → Option Value} {base : Heap}
theorem ok__law_cell_at {f : Addr} {fd : FuncData} {k : Nat} (F : FnP K "_law_cell_at" s__law_cell_at f fd) (bi : Bi mg) : FnOk P w K mg base CX0 (k + 1) f fd ["script", "k"] (spF K f__law_cell_at) :=
  fn_okD (m := m__law_cell_at) F sc__law_cell_at rfl rfl fun cdv A outer s H E hr =>
    ss_cons (s_if (y_lt (x_var 1) (x_len bi (a_cons (x_var 0) (a_nil)))) (ss_one (s_ret (x_ix (x_var 0) (x_var 1)))) (ss_nil)) (ss_one (s_ret (x_int)))
theorem ok__law_mixed {f : Addr} {fd : FuncData} {k : Nat} (F : FnP K "_law_mixed" s__law_mixed f fd) (bi : Bi mg) (c__law_cell_at : Cal P w K mg base k "_law_cell_at" f__law_cell_at) : FnOk P w K mg base CX0 (k + 1) f fd ["script", "k"] (spF K f__law_mixed) :=
  fn_okD (m := m__law_mixed) F sc__law_mixed rfl rfl fun cdv A outer s H E hr =>
    ss_cons (s_set (i := 2) sc__law_mixed.nd rfl (by first | exact Or.inl rfl | exact Or.inr rfl) (x_mod (x_mul (x_add (x_add (x_call c__law_cell_at hr (a_cons (x_var 0) (a_cons (x_var 1) (a_nil)))) (x_mul (x_int) (x_var 1))) (x_int)) (x_int)) (x_int))) (ss_one (s_ret (x_mod (x_add (x_add (x_mul (x_var 2) (x_var 2)) (x_mul (x_int) (x_var 2))) (x_var 1)) (x_int))))
theorem ok__law_by {f : Addr} {fd : FuncData} {k : Nat} (F : FnP K "_law_by" s__law_by f fd) (bi : Bi mg) : FnOk P w K mg base CX0 (k + 1) f fd ["number"] (spF K f__law_by) :=
  fn_okD (m := m__law_by) F sc__law_by rfl rfl fun cdv A outer s H E hr =>
    ss_one (s_ret (x_ix (x_tup (a_cons (x_int) (a_cons (x_int) (a_cons (x_int) (a_nil))))) (x_mod (x_var 0) (x_int))))
theorem ok__law_drawn {f : Addr} {fd : FuncData} {k : Nat} (F : FnP K "_law_drawn" s__law_drawn f fd) (bi : Bi mg) : FnOk P w K mg base CX0 (k + 1) f fd ["number", "k"] (spF K f__law_drawn) :=
  fn_okD (m := m__law_drawn) F sc__law_drawn rfl rfl fun cdv A outer s H E hr =>
    ss_cons (s_set (i := 2) sc__law_drawn.nd rfl (by first | exact Or.inl rfl | exact Or.inr rfl) (x_mod (x_mul (x_add (x_add (x_var 0) (x_mul (x_int) (x_var 1))) (x_int)) (x_int)) (x_int))) (ss_one (s_ret (x_mod (x_add (x_add (x_mul (x_var 2) (x_var 2)) (x_mul (x_int) (x_var 2))) (x_var 1)) (x_int))))
theorem ok__law_table {f : Addr} {fd : FuncData} {k : Nat} (F : FnP K "_law_table" s__law_table f fd) (bi : Bi mg) (c__law_drawn : Cal P w K mg base k "_law_drawn" f__law_drawn) : FnOk P w K mg base CX0 (k + 1) f fd ["number", "by", "rows", "columns"] (spF K f__law_table) :=
  fn_okD (m := m__law_table) F sc__law_table rfl rfl fun cdv A outer s H E hr =>
    ss_cons (s_set (i := 4) sc__law_table.nd rfl (by first | exact Or.inl rfl | exact Or.inr rfl) (x_mod (x_var 0) (x_int))) (ss_cons (s_set (i := 5) sc__law_table.nd rfl (by first | exact Or.inl rfl | exact Or.inr rfl) (x_lst (a_nil))) (ss_cons (s_wipe [6, 7, 8, 9, 10] (s_for (i_r1 (by rfl) bi.range (a_cons (x_var 2) (a_nil))) (g_one (i := 6) sc__law_table.nd rfl (by first | exact Or.inl rfl | exact Or.inr rfl)) (ss_wipe [6, 7, 8, 9, 10] (ss_cons (s_set (i := 7) sc__law_table.nd rfl (by first | exact Or.inl rfl | exact Or.inr rfl) (x_lst (a_nil))) (ss_cons (s_wipe [8, 9, 10] (s_for (i_r1 (by rfl) bi.range (a_cons (x_var 3) (a_nil))) (g_one (i := 8) sc__law_table.nd rfl (by first | exact Or.inl rfl | exact Or.inr rfl)) (ss_wipe [8, 9, 10] (ss_cons (s_set (i := 9) sc__law_table.nd rfl (by first | exact Or.inl rfl | exact Or.inr rfl) (x_div (x_call c__law_drawn hr (a_cons (x_var 0) (a_cons (x_add (x_mul (x_int) (x_var 6)) (x_var 8)) (a_nil)))) (x_int))) (ss_cons (s_set (i := 10) sc__law_table.nd rfl (by first | exact Or.inl rfl | exact Or.inr rfl) (x_mod (x_var 9) (x_var 1))) (ss_cons (s_if (PW.pt (w_and (y_eq hr (x_var 4) (x_int)) (w_and1 (y_gt (x_mod (x_div (x_var 9) (x_int)) (x_int)) (x_int))))) (ss_one (s_set (i := 10) sc__law_table.nd rfl (by first | exact Or.inl rfl | exact Or.inr rfl) (x_int))) (ss_nil)) (ss_cons (s_if (PW.pt (w_and (y_eq hr (x_var 4) (x_int)) (w_and1 (y_gt (x_var 6) (x_var 8))))) (ss_one (s_set (i := 10) sc__law_table.nd rfl (by first | exact Or.inl rfl | exact Or.inr rfl) (x_int))) (ss_nil)) (ss_cons (s_if (PW.pt (w_and (y_eq hr (x_var 4) (x_int)) (w_and1 (y_eq hr (x_var 6) (x_var 8))))) (ss_one (s_set (i := 10) sc__law_table.nd rfl (by first | exact Or.inl rfl | exact Or.inr rfl) (x_mod (x_div (x_var 0) (x_int)) (x_var 1)))) (ss_nil)) (ss_one (s_app (i := 7) rfl (by first | exact Or.inl rfl | exact Or.inr (Or.inl rfl)) (x_var 10))))))))))) (ss_one (s_app (i := 5) rfl (by first | exact Or.inl rfl | exact Or.inr (Or.inl rfl)) (x_tuple bi (a_cons (x_var 7) (a_nil)))))))))) (ss_one (s_ret (x_tuple bi (a_cons (x_var 5) (a_nil)))))))
theorem ok__law_spoilt {f : Addr} {fd : FuncData} {k : Nat} {fx : SemN} (F : FnP K "_law_spoilt" s__law_spoilt f fd) (bi : Bi mg) (c__law_spoilt : Cal P w K mg base k "_law_spoilt" fx) (c__law_drawn : Cal P w K mg base k "_law_drawn" f__law_drawn) : FnOk P w K mg base CX0 (k + 1) f fd ["thing", "number", "deep"] (spF K (runF 6 3 (m__law_spoilt fx))) :=
  fn_okD (m := m__law_spoilt fx) F sc__law_spoilt rfl rfl fun cdv A outer s H E hr =>
    ss_cons (s_if (PW.pt (w_and (y_gt (x_var 2) (x_int)) (w_and (y_val (x_isTuple bi (x_var 0))) (w_and (y_gt (x_len bi (a_cons (x_var 0) (a_nil))) (x_int)) (w_and1 (y_gt (x_mod (x_var 1) (x_int)) (x_int))))))) (ss_cons (s_set (i := 4) sc__law_spoilt.nd rfl (by first | exact Or.inl rfl | exact Or.inr rfl) (x_mod (x_div (x_var 1) (x_int)) (x_len bi (a_cons (x_var 0) (a_nil))))) (ss_cons (s_set (i := 5) sc__law_spoilt.nd rfl (by first | exact Or.inl rfl | exact Or.inr rfl) (x_call c__law_spoilt hr (a_cons (x_ix (x_var 0) (x_var 4)) (a_cons (x_div (x_call c__law_drawn hr (a_cons (x_var 1) (a_cons (x_var 2) (a_nil)))) (x_int)) (a_cons (x_sub (x_var 2) (x_int)) (a_nil)))))) (ss_one (s_ret (x_add (x_add (x_slice (x_var 0) (o_none) (o_some (x_var 4))) (x_tup (a_cons (x_var 5) (a_nil)))) (x_slice (x_var 0) (o_some (x_add (x_var 4) (x_int))) (o_none))))))) (ss_nil)) (ss_cons (s_if (PW.pt (w_and (y_val (x_isTuple bi (x_var 0))) (w_and (y_gt (x_len bi (a_cons (x_var 0) (a_nil))) (x_int)) (w_and1 (y_eq hr (x_mod (x_div (x_var 1) (x_int)) (x_int)) (x_int)))))) (ss_one (s_ret (x_ix (x_lst (a_cons (x_list bi (a_cons (x_var 0) (a_nil))) (a_cons (x_slice (x_var 0) (o_none) (o_some (x_neg (x_int)))) (a_cons (x_add (x_var 0) (x_slice (x_var 0) (o_some (x_neg (x_int))) (o_none))) (a_cons (x_slice (x_var 0) (o_some (x_int)) (o_none)) (a_cons (x_add (x_var 0) (x_tup (a_cons (x_int) (a_nil)))) (a_cons (x_mul (x_var 0) (x_int)) (a_nil)))))))) (x_mod (x_div (x_var 1) (x_int)) (x_int))))) (ss_nil)) (ss_cons (s_if (PW.pt (w_and (y_val (x_isInt bi (x_var 0))) (w_and1 (y_eq hr (x_mod (x_div (x_var 1) (x_int)) (x_int)) (x_int))))) (ss_one (s_ret (x_ix (x_lst (a_cons (x_toStr bi (a_cons (x_mod (x_var 0) (x_int)) (a_nil))) (a_cons (x_sub (x_int) (x_var 0)) (a_cons (x_add (x_var 0) (x_int)) (a_cons (x_eq hr (x_var 0) (x_int)) (a_cons (x_add (x_var 0) (x_int)) (a_cons (x_int) (a_nil)))))))) (x_mod (x_div (x_var 1) (x_int)) (x_int))))) (ss_nil)) (ss_cons (s_set (i := 3) sc__law_spoilt.nd rfl (by first | exact Or.inl rfl | exact Or.inr rfl) (x_lst (a_cons (x_non) (a_cons (x_bl) (a_cons (x_bl) (a_cons (x_int) (a_cons (x_int) (a_cons (x_int) (a_cons (x_int) (a_cons (x_int) (a_cons (x_int) (a_cons (x_neg (x_int)) (a_cons (x_str) (a_cons (x_str) (a_cons (x_tup (a_nil)) (a_cons (x_tup (a_cons (x_int) (a_nil))) (a_cons (x_tup (a_cons (x_int) (a_cons (x_int) (a_nil)))) (a_cons (x_lst (a_nil)) (a_cons (x_tup (a_cons (x_tup (a_cons (x_int) (a_nil))) (a_nil))) (a_cons (x_tup (a_cons (x_tup (a_nil)) (a_cons (x_tup (a_nil)) (a_nil)))) (a_cons (x_mul (x_tup (a_cons (x_int) (a_nil))) (x_int)) (a_nil)))))))))))))))))))))) (ss_one (s_ret (x_ix (x_var 3) (x_mod (x_div (x_var 1) (x_int)) (x_int))))))))
theorem ok_is_rest {f : Addr} {fd : FuncData} {k : Nat} (F : FnP K "is_rest" s_is_rest f fd) (bi : Bi mg) : FnOk P w K mg base CX0 (k + 1) f fd ["thing", "by"] (spF K f_is_rest) :=
  fn_okD (m := m_is_rest) F sc_is_rest rfl rfl fun cdv A outer s H E hr =>
    ss_one (s_ret (x_and (x_isInt bi (x_var 0)) (x_and (x_not (x_isBool bi (x_var 0))) (x_one (x_lelt (x_int) (x_var 0) (x_var 1))))))
theorem ok_is_table {f : Addr} {fd : FuncData} {k : Nat} (F : FnP K "is_table" s_is_table f fd) (bi : Bi mg) (c_is_rest : Cal P w K mg base k "is_rest" f_is_rest) {t_MOST_SIZE : Tok} (c_MOST_SIZE : mg "MOST_SIZE" = some (.int 3 t_MOST_SIZE)) : FnOk P w K mg base CX0 (k + 1) f fd ["thing", "by"] (spF K f_is_table) :=
  fn_okD (m := m_is_table) F sc_is_table rfl rfl fun cdv A outer s H E hr =>
    ss_cons (s_if (PW.pt (w_or (y_not (y_val (x_isTuple bi (x_var 0)))) (w_or1 (y_not (y_lele (x_int) (x_len bi (a_cons (x_var 0) (a_nil))) (x_globI (by rfl) c_MOST_SIZE)))))) (ss_one (s_ret (x_bl))) (ss_nil)) (ss_cons (s_if (y_not (y_val (x_all bi (a_cons (x_comp1 sc_is_table.nd (i_seq (q_var 0)) (blkOk_by (N := n_is_table) (sc := (defScope s_is_table)) (own := [("row", 2)]) (by decide +kernel)) (fun _ _ _ _ _ => pg_name sc_is_table.nd rfl (by first | exact Or.inl rfl | exact Or.inr rfl)) (fun _ _ _ _ _ => t_none) (fun _ _ _ _ _ => x_and (x_isTuple bi (x_var 2)) (x_one (x_lele (x_int) (x_len bi (a_cons (x_var 2) (a_nil))) (x_globI (by rfl) c_MOST_SIZE))))) (a_nil))))) (ss_one (s_ret (x_bl))) (ss_nil)) (ss_cons (s_if (y_not (y_val (x_all bi (a_cons (x_comp1 sc_is_table.nd (i_seq (q_var 0)) (blkOk_by (N := n_is_table) (sc := (defScope s_is_table)) (own := [("row", 2)]) (by decide +kernel)) (fun _ _ _ _ _ => pg_name sc_is_table.nd rfl (by first | exact Or.inl rfl | exact Or.inr rfl)) (fun _ _ _ _ _ => t_none) (fun _ _ _ _ _ => x_eq hr (x_len bi (a_cons (x_var 2) (a_nil))) (x_len bi (a_cons (x_ix (x_var 0) (x_int)) (a_nil))))) (a_nil))))) (ss_one (s_ret (x_bl))) (ss_nil)) (ss_one (s_ret (x_all bi (a_cons (x_comp1 sc_is_table.nd (i_seq (q_var 0)) (blkOk_by (N := n_is_table) (sc := (defScope s_is_table)) (own := [("row", 2)]) (by decide +kernel)) (fun _ _ _ _ _ => pg_name sc_is_table.nd rfl (by first | exact Or.inl rfl | exact Or.inr rfl)) (fun _ _ _ _ _ => t_none) (fun _ _ _ _ _ => x_all bi (a_cons (x_comp1 sc_is_table.nd (i_seq (q_var 2)) (blkOk_by (N := n_is_table) (sc := (relS _ (defScope s_is_table))) (own := [("part", 3)]) (by decide +kernel)) (fun _ _ _ _ _ => pg_name sc_is_table.nd rfl (by first | exact Or.inl rfl | exact Or.inr rfl)) (fun _ _ _ _ _ => t_none) (fun _ _ _ _ _ => x_call c_is_rest hr (a_cons (x_var 3) (a_cons (x_var 1) (a_nil))))) (a_nil)))) (a_nil)))))))
theorem ok__law_rest {f : Addr} {fd : FuncData} {k : Nat} (F : FnP K "_law_rest" s__law_rest f fd) (bi : Bi mg) : FnOk P w K mg base CX0 (k + 1) f fd ["thing", "by"] (spF K f__law_rest) :=
  fn_okD (m := m__law_rest) F sc__law_rest rfl rfl fun cdv A outer s H E hr =>
    ss_one (s_ret (x_and (x_isInt bi (x_var 0)) (x_and (x_not (x_isBool bi (x_var 0))) (x_one (x_lelt (x_int) (x_var 0) (x_var 1))))))
theorem ok__law_is_table {f : Addr} {fd : FuncData} {k : Nat} (F : FnP K "_law_is_table" s__law_is_table f fd) (bi : Bi mg) (c__law_rest : Cal P w K mg base k "_law_rest" f__law_rest) : FnOk P w K mg base CX0 (k + 1) f fd ["thing", "by"] (spF K f__law_is_table) :=
  fn_okD (m := m__law_is_table) F sc__law_is_table rfl rfl fun cdv A outer s H E hr =>
    ss_cons (s_if (PW.pt (w_or (y_not (y_val (x_isTuple bi (x_var 0)))) (w_or1 (y_not (y_lele (x_int) (x_len bi (a_cons (x_var 0) (a_nil))) (x_int)))))) (ss_one (s_ret (x_bl))) (ss_nil)) (ss_cons (s_wipe [2] (s_for (i_seq (q_var 0)) (g_one (i := 2) sc__law_is_table.nd rfl (by first | exact Or.inl rfl | exact Or.inr rfl)) (ss_wipe [2] (ss_cons (s_if (PW.pt (w_or (y_not (y_val (x_isTuple bi (x_var 2)))) (w_or1 (y_not (y_lele (x_int) (x_len bi (a_cons (x_var 2) (a_nil))) (x_int)))))) (ss_one (s_ret (x_bl))) (ss_nil)) (ss_one (s_if (PW.pt (w_or (y_ne hr (x_len bi (a_cons (x_var 2) (a_nil))) (x_len bi (a_cons (x_ix (x_var 0) (x_int)) (a_nil)))) (w_or1 (y_ne hr (x_comp1 sc__law_is_table.nd (i_seq (q_var 2)) (blkOk_by (N := n__law_is_table) (sc := (defScope s__law_is_table)) (own := [("part", 3)]) (by decide +kernel)) (fun _ _ _ _ _ => pg_name sc__law_is_table.nd rfl (by first | exact Or.inl rfl | exact Or.inr rfl)) (fun _ _ _ _ _ => t_one (y_not (y_val (x_call c__law_rest hr (a_cons (x_var 3) (a_cons (x_var 1) (a_nil))))))) (fun _ _ _ _ _ => x_var 3)) (x_lst (a_nil)))))) (ss_one (s_ret (x_bl))) (ss_nil))))))) (ss_one (s_ret (x_bl))))
theorem ok_is_powers {f : Addr} {fd : FuncData} {k : Nat} (F : FnP K "is_powers" s_is_powers f fd) (bi : Bi mg) (c_is_rest : Cal P w K mg base k "is_rest" f_is_rest) {t_MOST_POWERS : Tok} (c_MOST_POWERS : mg "MOST_POWERS" = some (.int 7 t_MOST_POWERS)) : FnOk P w K mg base CX0 (k + 1) f fd ["thing", "by"] (spF K f_is_powers) :=
  fn_okD (m := m_is_powers) F sc_is_powers rfl rfl fun cdv A outer s H E hr =>
    ss_cons (s_if (PW.pt (w_or (y_not (y_val (x_isTuple bi (x_var 0)))) (w_or (y_gt (x_len bi (a_cons (x_var 0) (a_nil))) (x_globI (by rfl) c_MOST_POWERS)) (w_or1 (y_not (y_val (x_all bi (a_cons (x_comp1 sc_is_powers.nd (i_seq (q_var 0)) (blkOk_by (N := n_is_powers) (sc := (defScope s_is_powers)) (own := [("part", 2)]) (by decide +kernel)) (fun _ _ _ _ _ => pg_name sc_is_powers.nd rfl (by first | exact Or.inl rfl | exact Or.inr rfl)) (fun _ _ _ _ _ => t_none) (fun _ _ _ _ _ => x_call c_is_rest hr (a_cons (x_var 2) (a_cons (x_var 1) (a_nil))))) (a_nil))))))))) (ss_one (s_ret (x_bl))) (ss_nil)) (ss_one (s_ret (x_or (x_eq hr (x_var 0) (x_tup (a_nil))) (x_one (x_ne hr (x_ix (x_var 0) (x_neg (x_int))) (x_int))))))
theorem ok__law_is_powers {f : Addr} {fd : FuncData} {k : Nat} (F : FnP K "_law_is_powers" s__law_is_powers f fd) (bi : Bi mg) (c__law_rest : Cal P w K mg base k "_law_rest" f__law_rest) : FnOk P w K mg base CX0 (k + 1) f fd ["thing", "by"] (spF K f__law_is_powers) :=
  fn_okD (m := m__law_is_powers) F sc__law_is_powers rfl rfl fun cdv A outer s H E hr =>
    ss_cons (s_if (PW.pt (w_or (y_not (y_val (x_isTuple bi (x_var 0)))) (w_or (y_gt (x_len bi (a_cons (x_var 0) (a_nil))) (x_int)) (w_or1 (y_ne hr (x_comp1 sc__law_is_powers.nd (i_seq (q_var 0)) (blkOk_by (N := n__law_is_powers) (sc := (defScope s__law_is_powers)) (own := [("part", 2)]) (by decide +kernel)) (fun _ _ _ _ _ => pg_name sc__law_is_powers.nd rfl (by first | exact Or.inl rfl | exact Or.inr rfl)) (fun _ _ _ _ _ => t_one (y_not (y_val (x_call c__law_rest hr (a_cons (x_var 2) (a_cons (x_var 1) (a_nil))))))) (fun _ _ _ _ _ => x_var 2)) (x_lst (a_nil))))))) (ss_one (s_ret (x_bl))) (ss_nil)) (ss_one (s_ret (x_or (x_eq hr (x_var 0) (x_tup (a_nil))) (x_one (x_ne hr (x_ix (x_var 0) (x_sub (x_len bi (a_cons (x_var 0) (a_nil))) (x_int))) (x_int))))))
theorem ok_law {f : Addr} {fd : FuncData} {k : Nat} (F : FnP K "law" s_law f fd) (bi : Bi mg) (c__law_mixed : Cal P w K mg base k "_law_mixed" f__law_mixed) (c__law_by : Cal P w K mg base k "_law_by" f__law_by) (c__law_table : Cal P w K mg base k "_law_table" f__law_table) (c__law_drawn : Cal P w K mg base k "_law_drawn" f__law_drawn) (c__law_spoilt : Cal P w K mg base k "_law_spoilt" (f__law_spoilt 3)) (c_is_table : Cal P w K mg base k "is_table" f_is_table) (c__law_is_table : Cal P w K mg base k "_law_is_table" f__law_is_table) (c_is_powers : Cal P w K mg base k "is_powers" f_is_powers) (c__law_is_powers : Cal P w K mg base k "_law_is_powers" f__law_is_powers) : FnOk P w K mg base CX0 (k + 1) f fd ["script"] (spF K f_law) :=
  fn_okD (m := m_law) F sc_law rfl rfl fun cdv A outer s H E hr =>
    ss_cons (s_set (i := 1) sc_law.nd rfl (by first | exact Or.inl rfl | exact Or.inr rfl) (x_call c__law_mixed hr (a_cons (x_var 0) (a_cons (x_int) (a_nil))))) (ss_cons (s_set (i := 2) sc_law.nd rfl (by first | exact Or.inl rfl | exact Or.inr rfl) (x_call c__law_by hr (a_cons (x_div (x_var 1) (x_int)) (a_nil)))) (ss_cons (s_set (i := 3) sc_law.nd rfl (by first | exact Or.inl rfl | exact Or.inr rfl) (x_call c__law_table hr (a_cons (x_call c__law_mixed hr (a_cons (x_var 0) (a_cons (x_int) (a_nil)))) (a_cons (x_var 2) (a_cons (x_add (x_int) (x_mod (x_div (x_var 1) (x_int)) (x_int))) (a_cons (x_add (x_int) (x_mod (x_div (x_var 1) (x_int)) (x_int))) (a_nil))))))) (ss_cons (s_set (i := 4) sc_law.nd rfl (by first | exact Or.inl rfl | exact Or.inr rfl) (x_call c__law_mixed hr (a_cons (x_var 0) (a_cons (x_int) (a_nil))))) (ss_cons (s_set (i := 5) sc_law.nd rfl (by first | exact Or.inl rfl | exact Or.inr rfl) (x_tuple bi (a_cons (x_comp1 sc_law.nd (i_r1 (by rfl) bi.range (a_cons (x_mod (x_var 4) (x_int)) (a_nil))) (blkOk_by (N := n_law) (sc := (defScope s_law)) (own := [("k", 8)]) (by decide +kernel)) (fun _ _ _ _ _ => pg_name sc_law.nd rfl (by first | exact Or.inl rfl | exact Or.inr rfl)) (fun _ _ _ _ _ => t_none) (fun _ _ _ _ _ => x_mod (x_div (x_call c__law_drawn hr (a_cons (x_var 4) (a_cons (x_var 8) (a_nil)))) (x_int)) (x_var 2))) (a_nil)))) (ss_cons (s_set (i := 5) sc_law.nd rfl (by first | exact Or.inl rfl | exact Or.inr rfl) (x_add (x_var 5) (x_tup (a_cons (x_add (x_int) (x_mod (x_div (x_var 4) (x_int)) (x_sub (x_var 2) (x_int)))) (a_nil))))) (ss_cons (s_if (y_eq hr (x_mod (x_div (x_var 1) (x_int)) (x_int)) (x_int)) (ss_one (s_set (i := 5) sc_law.nd rfl (by first | exact Or.inl rfl | exact Or.inr rfl) (x_tup (a_nil)))) (ss_nil)) (ss_cons (s_if (y_gt (x_mod (x_var 1) (x_int)) (x_int)) (ss_cons (s_set (i := 3) sc_law.nd rfl (by first | exact Or.inl rfl | exact Or.inr rfl) (x_call c__law_spoilt hr (a_cons (x_var 3) (a_cons (x_call c__law_mixed hr (a_cons (x_var 0) (a_cons (x_int) (a_nil)))) (a_cons (x_mod (x_div (x_var 1) (x_int)) (x_int)) (a_nil)))))) (ss_one (s_set (i := 5) sc_law.nd rfl (by first | exact Or.inl rfl | exact Or.inr rfl) (x_call c__law_spoilt hr (a_cons (x_var 5) (a_cons (x_call c__law_mixed hr (a_cons (x_var 0) (a_cons (x_int) (a_nil)))) (a_cons (x_mod (x_div (x_var 1) (x_int)) (x_int)) (a_nil)))))))) (ss_nil)) (ss_cons (s_wipe [6, 7] (s_for (i_seq (q_e (x_tup (a_cons (x_var 3) (a_cons (x_var 5) (a_nil)))))) (g_one (i := 6) sc_law.nd rfl (by first | exact Or.inl rfl | exact Or.inr rfl)) (ss_wipe [6, 7] (ss_cons (s_set (i := 7) sc_law.nd rfl (by first | exact Or.inl rfl | exact Or.inr rfl) (x_call c_is_table hr (a_cons (x_var 6) (a_cons (x_var 2) (a_nil))))) (ss_cons (s_if (PW.pt (w_or (y_not (y_val (x_isBool bi (x_var 7)))) (w_or1 (y_ne hr (x_var 7) (x_call c__law_is_table hr (a_cons (x_var 6) (a_cons (x_var 2) (a_nil)))))))) (ss_one (s_ret (x_bl))) (ss_nil)) (ss_cons (s_set (i := 7) sc_law.nd rfl (by first | exact Or.inl rfl | exact Or.inr rfl) (x_call c_is_powers hr (a_cons (x_var 6) (a_cons (x_var 2) (a_nil))))) (ss_one (s_if (PW.pt (w_or (y_not (y_val (x_isBool bi (x_var 7)))) (w_or1 (y_ne hr (x_var 7) (x_call c__law_is_powers hr (a_cons (x_var 6) (a_cons (x_var 2) (a_nil)))))))) (ss_one (s_ret (x_bl))) (ss_nil))))))))) (ss_one (s_ret (x_bl)))))))))))
end

end Ct
end
set_option maxRecDepth 100000
set_option maxHeartbeats 0
namespace Ct
open PySem PySem.Spec PyProof.Rows L2
/-! ### the head -/
def d__law_cell_at : He.DefD := ⟨("_law_cell_at", none), "_law_cell_at", "_law_cell_at", defArgs s__law_cell_at, defBody s__law_cell_at, defScope s__law_cell_at, [], []⟩
def d__law_mixed : He.DefD := ⟨("_law_mixed", none), "_law_mixed", "_law_mixed", defArgs s__law_mixed, defBody s__law_mixed, defScope s__law_mixed, [], []⟩
def d__law_by : He.DefD := ⟨("_law_by", none), "_law_by", "_law_by", defArgs s__law_by, defBody s__law_by, defScope s__law_by, [], []⟩
def d__law_drawn : He.DefD := ⟨("_law_drawn", none), "_law_drawn", "_law_drawn", defArgs s__law_drawn, defBody s__law_drawn, defScope s__law_drawn, [], []⟩
def d__law_table : He.DefD := ⟨("_law_table", none), "_law_table", "_law_table", defArgs s__law_table, defBody s__law_table, defScope s__law_table, [], []⟩
def d__law_spoilt : He.DefD := ⟨("_law_spoilt", none), "_law_spoilt", "_law_spoilt", defArgs s__law_spoilt, defBody s__law_spoilt, defScope s__law_spoilt, [], []⟩
def d_is_rest : He.DefD := ⟨("is_rest", none), "is_rest", "is_rest", defArgs s_is_rest, defBody s_is_rest, defScope s_is_rest, [], []⟩
def d_is_table : He.DefD := ⟨("is_table", none), "is_table", "is_table", defArgs s_is_table, defBody s_is_table, defScope s_is_table, [], []⟩
def d__law_rest : He.DefD := ⟨("_law_rest", none), "_law_rest", "_law_rest", defArgs s__law_rest, defBody s__law_rest, defScope s__law_rest, [], []⟩
def d__law_is_table : He.DefD := ⟨("_law_is_table", none), "_law_is_table", "_law_is_table", defArgs s__law_is_table, defBody s__law_is_table, defScope s__law_is_table, [], []⟩
def d_is_powers : He.DefD := ⟨("is_powers", none), "is_powers", "is_powers", defArgs s_is_powers, defBody s_is_powers, defScope s_is_powers, [], []⟩
def d__law_is_powers : He.DefD := ⟨("_law_is_powers", none), "_law_is_powers", "_law_is_powers", defArgs s__law_is_powers, defBody s__law_is_powers, defScope s__law_is_powers, [], []⟩
def d_law : He.DefD := ⟨("law", none), "law", "law", defArgs s_law, defBody s_law, defScope s_law, [], []⟩
def fn : List He.DefD := [d__law_cell_at, d__law_mixed, d__law_by, d__law_drawn, d__law_table, d__law_spoilt, d_is_rest, d_is_table, d__law_rest, d__law_is_table, d_is_powers, d__law_is_powers, d_law]
def fa : List He.Fa := [.glo "_law_cell_at", .glo "_law_mixed", .glo "_law_by", .glo "_law_drawn", .glo "_law_table", .glo "_law_spoilt", .glo "is_rest", .glo "is_table", .glo "_law_rest", .glo "_law_is_table", .glo "is_powers", .glo "_law_is_powers", .glo "law", .free "len", .free "range", .free "zip", .free "enumerate", .free "sum", .free "all", .free "any", .free "tuple", .free "list", .free "int", .free "str", .free "bool", .free "isinstance", .free "max", .free "min", .free "sorted", .free "set", .free "ValueError", .int "MOST_POWERS" 7, .int "MOST_SIZE" 3]
abbrev RR : PySem.W.OpenRow := PySem.W.OpenLaw.row PySem.Challenge.rw_carrytables_k01_things
abbrev hk : PySem.W.Hook := He.hookD 4 fa fn
def ob (s : PySem.W.SharedT) : He.AlD := He.obsDG 4 fa fn (HandSHeadRun.getT s)
theorem ob_eq (s : PySem.W.SharedT) : ob s = hk.obs s.abs := He.obsDG_eq (HandSHeadRun.getT_eq s)
def lo_0 : List Str := ["MOST_SIZE", "MOST_POWERS", "is_rest", "is_table", "is_powers", "_law_cell_at", "_law_mixed", "_law_drawn", "_law_table", "_law_times", "_law_unit", "_law_worth", "_law_by", "_law_unlike", "_law_rest", "_law_is_table", "_law_is_powers", "_law_spoilt"]
def loose : List Str := lo_0
theorem run (w : World) : HandSHeadRun.RunEq RR (PySem.W.view RR.prog [20]) hk ob 20000 loose w := by
  intro os
  kernel_rfl
theorem facts {P : Program} {w : World} {K : Fg} {h : Heap} {mg : Str → Option Value} {f : Addr} (X : K.In h) (G : h.Ns mainGlobals mg) (hfa : mg ("law" : Str) = some (.ref f)) (c : He.SaysD fa fn K) :
    ∃ fd : FuncData, (∀ (s : Shared) (v : Value), BindsTo s fd ⟨[v], []⟩ [("script", v)]) ∧ ∀ base : Heap, K.In base → base.Ns mainGlobals mg → FnOk P w K mg base CX0 5 f fd ["script"] (spF K f_law) := by
  obtain ⟨fd__law_cell_at, FF__law_cell_at⟩ := c.def_ 0 (d := d__law_cell_at) rfl
  have F__law_cell_at : FnP K "_law_cell_at" s__law_cell_at (He.ga K "_law_cell_at") fd__law_cell_at := FF__law_cell_at
  have g__law_cell_at : mg "_law_cell_at" = some (.ref (He.ga K "_law_cell_at")) := He.glo_ok X G (c.fact 0 (f := .glo "_law_cell_at") rfl)
  obtain ⟨fd__law_mixed, FF__law_mixed⟩ := c.def_ 1 (d := d__law_mixed) rfl
  have F__law_mixed : FnP K "_law_mixed" s__law_mixed (He.ga K "_law_mixed") fd__law_mixed := FF__law_mixed
  have g__law_mixed : mg "_law_mixed" = some (.ref (He.ga K "_law_mixed")) := He.glo_ok X G (c.fact 1 (f := .glo "_law_mixed") rfl)
  obtain ⟨fd__law_by, FF__law_by⟩ := c.def_ 2 (d := d__law_by) rfl
  have F__law_by : FnP K "_law_by" s__law_by (He.ga K "_law_by") fd__law_by := FF__law_by
  have g__law_by : mg "_law_by" = some (.ref (He.ga K "_law_by")) := He.glo_ok X G (c.fact 2 (f := .glo "_law_by") rfl)
  obtain ⟨fd__law_drawn, FF__law_drawn⟩ := c.def_ 3 (d := d__law_drawn) rfl
  have F__law_drawn : FnP K "_law_drawn" s__law_drawn (He.ga K "_law_drawn") fd__law_drawn := FF__law_drawn
  have g__law_drawn : mg "_law_drawn" = some (.ref (He.ga K "_law_drawn")) := He.glo_ok X G (c.fact 3 (f := .glo "_law_drawn") rfl)
  obtain ⟨fd__law_table, FF__law_table⟩ := c.def_ 4 (d := d__law_table) rfl
  have F__law_table : FnP K "_law_table" s__law_table (He.ga K "_law_table") fd__law_table := FF__law_table
  have g__law_table : mg "_law_table" = some (.ref (He.ga K "_law_table")) := He.glo_ok X G (c.fact 4 (f := .glo "_law_table") rfl)
  obtain ⟨fd__law_spoilt, FF__law_spoilt⟩ := c.def_ 5 (d := d__law_spoilt) rfl
  have F__law_spoilt : FnP K "_law_spoilt" s__law_spoilt (He.ga K "_law_spoilt") fd__law_spoilt := FF__law_spoilt
  have g__law_spoilt : mg "_law_spoilt" = some (.ref (He.ga K "_law_spoilt")) := He.glo_ok X G (c.fact 5 (f := .glo "_law_spoilt") rfl)
  obtain ⟨fd_is_rest, FF_is_rest⟩ := c.def_ 6 (d := d_is_rest) rfl
  have F_is_rest : FnP K "is_rest" s_is_rest (He.ga K "is_rest") fd_is_rest := FF_is_rest
  have g_is_rest : mg "is_rest" = some (.ref (He.ga K "is_rest")) := He.glo_ok X G (c.fact 6 (f := .glo "is_rest") rfl)
  obtain ⟨fd_is_table, FF_is_table⟩ := c.def_ 7 (d := d_is_table) rfl
  have F_is_table : FnP K "is_table" s_is_table (He.ga K "is_table") fd_is_table := FF_is_table
  have g_is_table : mg "is_table" = some (.ref (He.ga K "is_table")) := He.glo_ok X G (c.fact 7 (f := .glo "is_table") rfl)
  obtain ⟨fd__law_rest, FF__law_rest⟩ := c.def_ 8 (d := d__law_rest) rfl
  have F__law_rest : FnP K "_law_rest" s__law_rest (He.ga K "_law_rest") fd__law_rest := FF__law_rest
  have g__law_rest : mg "_law_rest" = some (.ref (He.ga K "_law_rest")) := He.glo_ok X G (c.fact 8 (f := .glo "_law_rest") rfl)
  obtain ⟨fd__law_is_table, FF__law_is_table⟩ := c.def_ 9 (d := d__law_is_table) rfl
  have F__law_is_table : FnP K "_law_is_table" s__law_is_table (He.ga K "_law_is_table") fd__law_is_table := FF__law_is_table
  have g__law_is_table : mg "_law_is_table" = some (.ref (He.ga K "_law_is_table")) := He.glo_ok X G (c.fact 9 (f := .glo "_law_is_table") rfl)
  obtain ⟨fd_is_powers, FF_is_powers⟩ := c.def_ 10 (d := d_is_powers) rfl
  have F_is_powers : FnP K "is_powers" s_is_powers (He.ga K "is_powers") fd_is_powers := FF_is_powers
  have g_is_powers : mg "is_powers" = some (.ref (He.ga K "is_powers")) := He.glo_ok X G (c.fact 10 (f := .glo "is_powers") rfl)
  obtain ⟨fd__law_is_powers, FF__law_is_powers⟩ := c.def_ 11 (d := d__law_is_powers) rfl
  have F__law_is_powers : FnP K "_law_is_powers" s__law_is_powers (He.ga K "_law_is_powers") fd__law_is_powers := FF__law_is_powers
  have g__law_is_powers : mg "_law_is_powers" = some (.ref (He.ga K "_law_is_powers")) := He.glo_ok X G (c.fact 11 (f := .glo "_law_is_powers") rfl)
  obtain ⟨fd_law, FF_law⟩ := c.def_ 12 (d := d_law) rfl
  have F_law : FnP K "law" s_law (He.ga K "law") fd_law := FF_law
  have g_law : mg "law" = some (.ref (He.ga K "law")) := He.glo_ok X G (c.fact 12 (f := .glo "law") rfl)
  obtain ⟨t_MOST_POWERS, c_MOST_POWERS⟩ := He.int_ok X G (c.fact 31 (f := .int "MOST_POWERS" 7) rfl)
  obtain ⟨t_MOST_SIZE, c_MOST_SIZE⟩ := He.int_ok X G (c.fact 32 (f := .int "MOST_SIZE" 3) rfl)
  have bi : Bi mg := ⟨He.free_ok X G (c.fact 13 (f := .free "len") rfl), He.free_ok X G (c.fact 14 (f := .free "range") rfl), He.free_ok X G (c.fact 15 (f := .free "zip") rfl), He.free_ok X G (c.fact 16 (f := .free "enumerate") rfl), He.free_ok X G (c.fact 17 (f := .free "sum") rfl), He.free_ok X G (c.fact 18 (f := .free "all") rfl), He.free_ok X G (c.fact 19 (f := .free "any") rfl), He.free_ok X G (c.fact 20 (f := .free "tuple") rfl), He.free_ok X G (c.fact 21 (f := .free "list") rfl), He.free_ok X G (c.fact 22 (f := .free "int") rfl), He.free_ok X G (c.fact 23 (f := .free "str") rfl), He.free_ok X G (c.fact 24 (f := .free "bool") rfl), He.free_ok X G (c.fact 25 (f := .free "isinstance") rfl), He.free_ok X G (c.fact 26 (f := .free "max") rfl), He.free_ok X G (c.fact 27 (f := .free "min") rfl), He.free_ok X G (c.fact 28 (f := .free "sorted") rfl), He.free_ok X G (c.fact 29 (f := .free "set") rfl), He.free_ok X G (c.fact 30 (f := .free "ValueError") rfl)⟩
  have e := hfa.symm.trans g_law
  cases e
  have b := FunD.bindsA (ps := ["script"]) F_law fun _ _ _ _ _ _ us hl => match us, hl with | [_], _ => rfl
  refine ⟨fd_law, fun s v => b s [v] rfl, fun base _ _ => ?_⟩
  have c__law_cell_at : Cal P w K mg base 1 "_law_cell_at" f__law_cell_at := cal_mk F__law_cell_at (ok__law_cell_at (k := 0) F__law_cell_at bi  ) g__law_cell_at (fun _ _ _ _ _ _ us hl => match us, hl with | [_, _], _ => rfl)
  have c__law_mixed : Cal P w K mg base 2 "_law_mixed" f__law_mixed := cal_mk F__law_mixed (ok__law_mixed (k := 1) F__law_mixed bi (c__law_cell_at.mono (by decide)) ) g__law_mixed (fun _ _ _ _ _ _ us hl => match us, hl with | [_, _], _ => rfl)
  have c__law_by : Cal P w K mg base 1 "_law_by" f__law_by := cal_mk F__law_by (ok__law_by (k := 0) F__law_by bi  ) g__law_by (fun _ _ _ _ _ _ us hl => match us, hl with | [_], _ => rfl)
  have c__law_drawn : Cal P w K mg base 1 "_law_drawn" f__law_drawn := cal_mk F__law_drawn (ok__law_drawn (k := 0) F__law_drawn bi  ) g__law_drawn (fun _ _ _ _ _ _ us hl => match us, hl with | [_, _], _ => rfl)
  have c__law_table : Cal P w K mg base 2 "_law_table" f__law_table := cal_mk F__law_table (ok__law_table (k := 1) F__law_table bi (c__law_drawn.mono (by decide)) ) g__law_table (fun _ _ _ _ _ _ us hl => match us, hl with | [_, _, _, _], _ => rfl)
  have c__law_spoilt_0 : Cal P w K mg base 1 "_law_spoilt" (f__law_spoilt 0) := cal_none F__law_spoilt g__law_spoilt (ps := ["thing", "number", "deep"]) (fun _ _ _ _ _ _ us hl => match us, hl with | [_, _, _], _ => rfl)
  have c__law_spoilt_1 : Cal P w K mg base 2 "_law_spoilt" (f__law_spoilt 1) := cal_mk F__law_spoilt (ok__law_spoilt (k := 1) (fx := f__law_spoilt 0) F__law_spoilt bi c__law_spoilt_0 (c__law_drawn.mono (by decide)) ) g__law_spoilt (fun _ _ _ _ _ _ us hl => match us, hl with | [_, _, _], _ => rfl)
  have c__law_spoilt_2 : Cal P w K mg base 3 "_law_spoilt" (f__law_spoilt 2) := cal_mk F__law_spoilt (ok__law_spoilt (k := 2) (fx := f__law_spoilt 1) F__law_spoilt bi c__law_spoilt_1 (c__law_drawn.mono (by decide)) ) g__law_spoilt (fun _ _ _ _ _ _ us hl => match us, hl with | [_, _, _], _ => rfl)
  have c__law_spoilt_3 : Cal P w K mg base 4 "_law_spoilt" (f__law_spoilt 3) := cal_mk F__law_spoilt (ok__law_spoilt (k := 3) (fx := f__law_spoilt 2) F__law_spoilt bi c__law_spoilt_2 (c__law_drawn.mono (by decide)) ) g__law_spoilt (fun _ _ _ _ _ _ us hl => match us, hl with | [_, _, _], _ => rfl)
  have c__law_spoilt := c__law_spoilt_3
  have c_is_rest : Cal P w K mg base 1 "is_rest" f_is_rest := cal_mk F_is_rest (ok_is_rest (k := 0) F_is_rest bi  ) g_is_rest (fun _ _ _ _ _ _ us hl => match us, hl with | [_, _], _ => rfl)
  have c_is_table : Cal P w K mg base 2 "is_table" f_is_table := cal_mk F_is_table (ok_is_table (k := 1) F_is_table bi (c_is_rest.mono (by decide)) c_MOST_SIZE) g_is_table (fun _ _ _ _ _ _ us hl => match us, hl with | [_, _], _ => rfl)
  have c__law_rest : Cal P w K mg base 1 "_law_rest" f__law_rest := cal_mk F__law_rest (ok__law_rest (k := 0) F__law_rest bi  ) g__law_rest (fun _ _ _ _ _ _ us hl => match us, hl with | [_, _], _ => rfl)
  have c__law_is_table : Cal P w K mg base 2 "_law_is_table" f__law_is_table := cal_mk F__law_is_table (ok__law_is_table (k := 1) F__law_is_table bi (c__law_rest.mono (by decide)) ) g__law_is_table (fun _ _ _ _ _ _ us hl => match us, hl with | [_, _], _ => rfl)
  have c_is_powers : Cal P w K mg base 2 "is_powers" f_is_powers := cal_mk F_is_powers (ok_is_powers (k := 1) F_is_powers bi (c_is_rest.mono (by decide)) c_MOST_POWERS) g_is_powers (fun _ _ _ _ _ _ us hl => match us, hl with | [_, _], _ => rfl)
  have c__law_is_powers : Cal P w K mg base 2 "_law_is_powers" f__law_is_powers := cal_mk F__law_is_powers (ok__law_is_powers (k := 1) F__law_is_powers bi (c__law_rest.mono (by decide)) ) g__law_is_powers (fun _ _ _ _ _ _ us hl => match us, hl with | [_, _], _ => rfl)
  exact ok_law (k := 4) F_law bi (c__law_mixed.mono (by decide)) (c__law_by.mono (by decide)) (c__law_table.mono (by decide)) (c__law_drawn.mono (by decide)) (c__law_spoilt.mono (by decide)) (c_is_table.mono (by decide)) (c__law_is_table.mono (by decide)) (c_is_powers.mono (by decide)) (c__law_is_powers.mono (by decide)) 
end Ct
open PySem PySem.W PySem.Calls PyProof.Rows
theorem PySem.Challenge.cw_carrytables_k01_things_holds : PySem.Challenge.rw_carrytables_k01_things.Holds := by
  w_on; o_law
  refine HandSHeadRun.head_any (r := OpenLaw.row PySem.Challenge.rw_carrytables_k01_things) (q := view (OpenLaw.row PySem.Challenge.rw_carrytables_k01_things).prog [20]) (H := Ct.hk) (ob := Ct.ob) (M := 20000) (loose := Ct.loose) (d := HandSHeadRun.topDef (OpenLaw.row PySem.Challenge.rw_carrytables_k01_things).prog 20) (kwd := []) Ct.ob_eq
    (by kernel_rfl) (fun s => by kernel_rfl) Ct.run (by kernel_rfl) (by kernel_rfl) (by kernel_rfl) (by rfl) (by first | assumption | decide +kernel) (by decide +kernel) ⟨rfl, rfl, rfl, rfl, rfl, by decide +kernel⟩ ?hw ?hc
  case hw => w_witness2
  case hc =>
    refine L2.walk_ofE (l := PySem.Challenge.rw_carrytables_k01_things) (n := 63) (k := 5) (x := "script") (CX := L2.CX0) rfl (by decide) (by kernel_rfl) ⟨rfl, by decide, by decide⟩ ?F (fun _ _ _ _ z => z)
    intro w mg fa h Y G hmg0
    obtain ⟨K, KX, c⟩ := Y
    have hmg : mg ("law" : PySem.Str) = some (.ref fa) := by
      have e : (HandSHeadRun.topDef (OpenLaw.row PySem.Challenge.rw_carrytables_k01_things).prog 20).name = ("law" : PySem.Str) := by kernel_rfl
      rw [← e]
      exact hmg0
    obtain ⟨fd, hb, hF⟩ := Ct.facts (P := (PySem.Challenge.rw_carrytables_k01_things).prog) (w := w) KX G hmg c
    exact ⟨K, fd, Ct.spF K Ct.f_law, KX, hb, fun H a ns hl _ hS => Ct.law_sp hS (Ct.law_true ns hl), hF⟩

