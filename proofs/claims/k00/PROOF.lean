import PyProof.Rows.All
import Wide.All
import OpenK.AllK
import Wide.FinOn
import HandS.ForMost
import HandS.ForExc
import HandS.Flow
import HandS.TupAny
import HandS.TupLe
import HandS.TupMul
import HandS.Wide
import HandS.IsInst
import HandS.Zip
import HandS.Walk
import HandS.Style
import HandS.TryMany
import HandS.Deep
import HandS.SortInts
import HandS.Defaults
import HandS.Rev
import HandS.WordsExc
import KE.BitLaws
import HandS.EndBits
import PySem.Challenge.RW_sumsworn_k00_a_thousand_weighted_literal
set_option Elab.async false
set_option linter.all false
set_option maxRecDepth 100000
set_option maxHeartbeats 4000000
set_option autoImplicit false
/-! PX: a plain semantics of a part of Python over data (tuples and lists that stay, cells that change), and that the machine keeps it. -/
namespace PX
open PySem L2

/-! ### data -/
/-- tuples and lists that stay as they are: values; adr: a cell of the store -/
inductive D where
  | non | bl (b : Bool) | int (i : Int) | str (s : Str) | tup (xs : List D) | lst (xs : List D) | scr (xs : List D) | kup (xs : List D) | adr (n : Nat)
mutual
def D.beq : D → D → Bool
  | .non, .non => true
  | .bl a, .bl b => a == b
  | .int a, .int b => a == b
  | .str a, .str b => decide (a = b)
  | .tup a, .tup b => D.beqs a b
  | .lst a, .lst b => D.beqs a b
  | .scr a, .scr b => D.beqs a b
  | .kup a, .kup b => D.beqs a b
  | .adr a, .adr b => a == b
  | _, _ => false
def D.beqs : List D → List D → Bool
  | [], [] => true
  | x :: xs, y :: ys => D.beq x y && D.beqs xs ys
  | _, _ => false
end
mutual
theorem D.eq_of_beq : ∀ {a b : D}, D.beq a b = true → a = b
  | .non, b, h => by cases b <;> first | rfl | simp [D.beq] at h
  | .bl x, b, h => by cases b <;> simp [D.beq] at h; subst h; rfl
  | .int x, b, h => by cases b <;> simp [D.beq] at h; subst h; rfl
  | .str x, b, h => by cases b <;> simp [D.beq] at h; subst h; rfl
  | .tup xs, b, h => by
    cases b <;> simp [D.beq] at h
    rw [D.eq_of_beqs h]
  | .lst xs, b, h => by
    cases b <;> simp [D.beq] at h
    rw [D.eq_of_beqs h]
  | .scr xs, b, h => by
    cases b <;> simp [D.beq] at h
    rw [D.eq_of_beqs h]
  | .kup xs, b, h => by
    cases b <;> simp [D.beq] at h
    rw [D.eq_of_beqs h]
  | .adr x, b, h => by cases b <;> simp [D.beq] at h; subst h; rfl
theorem D.eq_of_beqs : ∀ {a b : List D}, D.beqs a b = true → a = b
  | [], b, h => by cases b <;> first | rfl | simp [D.beqs] at h
  | x :: xs, b, h => by
    cases b with
    | nil => simp [D.beqs] at h
    | cons y ys =>
      simp [D.beqs] at h
      rw [D.eq_of_beq h.1, D.eq_of_beqs h.2]
end
mutual
theorem D.beq_self : ∀ a : D, D.beq a a = true
  | .non => by simp [D.beq]
  | .bl x => by simp [D.beq]
  | .int x => by simp [D.beq]
  | .str x => by simp [D.beq]
  | .tup xs => by simp [D.beq, D.beqs_self xs]
  | .lst xs => by simp [D.beq, D.beqs_self xs]
  | .scr xs => by simp [D.beq, D.beqs_self xs]
  | .kup xs => by simp [D.beq, D.beqs_self xs]
  | .adr x => by simp [D.beq]
theorem D.beqs_self : ∀ a : List D, D.beqs a a = true
  | [] => by simp [D.beqs]
  | x :: xs => by simp [D.beqs, D.beq_self x, D.beqs_self xs]
end
instance : DecidableEq D := fun a b => if h : D.beq a b = true then isTrue (D.eq_of_beq h) else isFalse fun e => h (e ▸ D.beq_self a)
instance : Inhabited D := ⟨.non⟩

/-- a cell: a list, a dict -/
inductive Cell where
  | lst (xs : List D) | dic (kvs : List (Key × D))
  deriving DecidableEq
abbrev Store := List Cell
abbrev Env := List (Option D)
mutual
/-- no cell within -/
def D.free : D → Bool
  | .adr _ => false
  | .tup xs => D.frees xs
  | .lst xs => D.frees xs
  | .scr xs => D.frees xs
  | .kup xs => D.frees xs
  | _ => true
def D.frees : List D → Bool
  | [] => true
  | x :: xs => D.free x && D.frees xs
end
theorem D.frees_iff : ∀ {xs : List D}, D.frees xs = true ↔ ∀ x ∈ xs, D.free x = true
  | [] => by simp [D.frees]
  | x :: xs => by simp [D.frees, D.frees_iff (xs := xs)]

/-- an outcome -/
inductive R (α : Type) where
  | ok (a : α) (S : Store) | exc (c : Str) (S : Store) | stuck
def R.bind {α β : Type} (r : R α) (f : α → Store → R β) : R β := match r with
  | .ok a S => f a S
  | .exc c S => .exc c S
  | .stuck => .stuck
@[simp] theorem R.bind_ok {α β : Type} (a : α) (S : Store) (f : α → Store → R β) : (R.ok a S).bind f = f a S := rfl
@[simp] theorem R.bind_exc {α β : Type} (c : Str) (S : Store) (f : α → Store → R β) : (R.exc c S).bind f = .exc c S := rfl
@[simp] theorem R.bind_stuck {α β : Type} (f : α → Store → R β) : (R.stuck : R α).bind f = .stuck := rfl

/-! ### how the machine holds data: bar the addresses of all cells, io those of this store -/
mutual
inductive Rep (K : PySem.W.Frag) (H : Hp) (bar io : List Addr) : V → D → Prop
  | non : Rep K H bar io .non .non
  | bl (b : Bool) : Rep K H bar io (.bl b) (.bl b)
  | int (i : Int) : Rep K H bar io (.int i) (.int i)
  | str (s : Str) (h : s.length ≤ sizeLine) (k : PyData.strOk s = true) : Rep K H bar io (.str s) (.str s)
  | tup {a : Addr} {vs : List V} {ds : List D} : H a = some (.tup vs) → vs.length ≤ sizeLine → Reps K H bar io vs ds → Rep K H bar io (.ref a) (.tup ds)
  | lst {a : Addr} {vs : List V} {ds : List D} : H a = some (.lst vs) → a ∉ bar → vs.length ≤ sizeLine → Reps K H bar io vs ds → Rep K H bar io (.ref a) (.lst ds)
  | scr {a : Addr} {vs : List V} {ds : List D} {o : Obj} : H a = some (.frz o (.lst vs)) → vs.length ≤ sizeLine → Reps K H bar io vs ds → Rep K H bar io (.ref a) (.scr ds)
  | kup {a : Addr} {vs : List V} {ds : List D} {o : Obj} {its : Array Value} {n : Nat} : K.lookup a = some o → o.cls = .type "tuple" → o.data = .seq its n → its.size ≤ sizeLine → Vals vs its.toList → Reps K H bar io vs ds → Rep K H bar io (.ref a) (.kup ds)
  | scrK {a : Addr} {vs : List V} {ds : List D} {o : Obj} {its : Array Value} {n : Nat} : K.lookup a = some o → o.cls = .type "list" → o.dict = none → o.data = .seq its n → its.size ≤ sizeLine → Vals vs its.toList → Reps K H bar io vs ds → Rep K H bar io (.ref a) (.scr ds)
  | adr {a : Addr} {n : Nat} : io[n]? = some a → Rep K H bar io (.ref a) (.adr n)
inductive Reps (K : PySem.W.Frag) (H : Hp) (bar io : List Addr) : List V → List D → Prop
  | nil : Reps K H bar io [] []
  | cons {v : V} {vs : List V} {d : D} {ds : List D} : Rep K H bar io v d → Reps K H bar io vs ds → Reps K H bar io (v :: vs) (d :: ds)
end
section
variable {K : PySem.W.Frag} {H : Hp} {bar io : List Addr}
theorem Reps.length : ∀ {vs : List V} {ds : List D}, Reps K H bar io vs ds → vs.length = ds.length
  | _, _, .nil => rfl
  | _, _, .cons _ t => by simp [t.length]
theorem Reps.get : ∀ {vs : List V} {ds : List D} {i : Nat} {d : D}, Reps K H bar io vs ds → ds[i]? = some d → ∃ v, vs[i]? = some v ∧ Rep K H bar io v d
  | _, _, _, _, .nil, e => by simp at e
  | _, _, 0, _, .cons r _, e => by simp at e; subst e; exact ⟨_, rfl, r⟩
  | _, _, i + 1, d, .cons _ t, e => by
    obtain ⟨u, h1, h2⟩ := Reps.get (i := i) (d := d) t (by simpa using e)
    exact ⟨u, by simpa using h1, h2⟩
theorem Reps.getV : ∀ {vs : List V} {ds : List D} {i : Nat} {v : V}, Reps K H bar io vs ds → vs[i]? = some v → ∃ d, ds[i]? = some d ∧ Rep K H bar io v d
  | _, _, _, _, .nil, e => by simp at e
  | _, _, 0, _, .cons r _, e => by simp at e; subst e; exact ⟨_, rfl, r⟩
  | _, _, i + 1, d, .cons _ t, e => by
    obtain ⟨u, h1, h2⟩ := Reps.getV (i := i) (v := d) t (by simpa using e)
    exact ⟨u, by simpa using h1, h2⟩
theorem Reps.append : ∀ {vs ws : List V} {ds es : List D}, Reps K H bar io vs ds → Reps K H bar io ws es → Reps K H bar io (vs ++ ws) (ds ++ es)
  | _, _, _, _, .nil, s => s
  | _, _, _, _, .cons r t, s => .cons r (Reps.append t s)
theorem Reps.take : ∀ {vs : List V} {ds : List D} (n : Nat), Reps K H bar io vs ds → Reps K H bar io (vs.take n) (ds.take n)
  | _, _, 0, _ => .nil
  | _, _, _ + 1, .nil => .nil
  | _, _, n + 1, .cons r t => .cons r (Reps.take n t)
theorem Reps.drop : ∀ {vs : List V} {ds : List D} (n : Nat), Reps K H bar io vs ds → Reps K H bar io (vs.drop n) (ds.drop n)
  | _, _, 0, r => r
  | _, _, _ + 1, .nil => .nil
  | _, _, n + 1, .cons _ t => Reps.drop n t
theorem Reps.set {v : V} {d : D} (r : Rep K H bar io v d) : ∀ {vs : List V} {ds : List D} (i : Nat), Reps K H bar io vs ds → Reps K H bar io (vs.set i v) (ds.set i d)
  | _, _, _, .nil => .nil
  | _, _, 0, .cons _ t => .cons r t
  | _, _, i + 1, .cons q t => .cons q (Reps.set r i t)
theorem Reps.eraseIdx : ∀ {vs : List V} {ds : List D} (i : Nat), Reps K H bar io vs ds → Reps K H bar io (vs.eraseIdx i) (ds.eraseIdx i)
  | _, _, _, .nil => .nil
  | _, _, 0, .cons _ t => t
  | _, _, i + 1, .cons q t => .cons q (Reps.eraseIdx i t)
theorem Reps.reverse {vs : List V} {ds : List D} (h : Reps K H bar io vs ds) : Reps K H bar io vs.reverse ds.reverse := by
  induction vs generalizing ds with
  | nil => cases h; exact .nil
  | cons v vs ih =>
    cases h with
    | cons r t => rw [List.reverse_cons, List.reverse_cons]; exact (ih t).append (.cons r .nil)
theorem Reps.rep {vs : List V} {ds : List D} (h : Reps K H bar io vs ds) : ∀ k : Nat, Reps K H bar io (List.replicate k vs).flatten (List.replicate k ds).flatten
  | 0 => .nil
  | k + 1 => by
    rw [List.replicate_succ, List.replicate_succ, List.flatten_cons, List.flatten_cons]
    exact h.append (Reps.rep h k)
theorem Reps.one {vs : List V} {d : D} (h : Reps K H bar io vs [d]) : ∃ v, vs = [v] ∧ Rep K H bar io v d := by
  cases h with
  | cons r t => cases t; exact ⟨_, rfl, r⟩
theorem Reps.two {vs : List V} {d e : D} (h : Reps K H bar io vs [d, e]) : ∃ v u, vs = [v, u] ∧ Rep K H bar io v d ∧ Rep K H bar io u e := by
  cases h with
  | cons r t =>
    obtain ⟨u, rfl, q⟩ := t.one
    exact ⟨_, u, rfl, r, q⟩
theorem Reps.ints : ∀ {ns : List Int} {vs : List V}, Reps K H bar io vs (ns.map D.int) → vs = ns.map V.int
  | [], _, h => by cases h; rfl
  | n :: ns, _, h => by
    cases h with
    | cons r t =>
      cases r
      rw [Reps.ints t]
      rfl
theorem Reps.bls : ∀ {ns : List Bool} {vs : List V}, Reps K H bar io vs (ns.map D.bl) → vs = ns.map V.bl
  | [], _, h => by cases h; rfl
  | n :: ns, _, h => by
    cases h with
    | cons r t =>
      cases r
      rw [Reps.bls t]
      rfl
theorem Reps.of_ints : ∀ {ns : List Int}, Reps K H bar io (ns.map V.int) (ns.map D.int)
  | [] => .nil
  | n :: ns => .cons (.int n) Reps.of_ints
end
mutual
/-- data without cells does not lean on the store -/
theorem Rep.of_free {K : PySem.W.Frag} {H : Hp} {bar io io' : List Addr} : ∀ {v : V} {d : D}, D.free d = true → Rep K H bar io v d → Rep K H bar io' v d
  | _, _, _, .non => .non
  | _, _, _, .bl b => .bl b
  | _, _, _, .int i => .int i
  | _, _, _, .str s h k => .str s h k
  | _, _, f, .tup h z r => .tup h z (Reps.of_frees (by simpa [D.free] using f) r)
  | _, _, f, .lst h b z r => .lst h b z (Reps.of_frees (by simpa [D.free] using f) r)
  | _, _, f, .scr h z r => .scr h z (Reps.of_frees (by simpa [D.free] using f) r)
  | _, _, f, .kup h c d z v r => .kup h c d z v (Reps.of_frees (by simpa [D.free] using f) r)
  | _, _, f, .scrK h c dd d z v r => .scrK h c dd d z v (Reps.of_frees (by simpa [D.free] using f) r)
  | _, _, f, .adr h => by simp [D.free] at f
theorem Reps.of_frees {K : PySem.W.Frag} {H : Hp} {bar io io' : List Addr} : ∀ {vs : List V} {ds : List D}, D.frees ds = true → Reps K H bar io vs ds → Reps K H bar io' vs ds
  | _, _, _, .nil => .nil
  | _, _, f, .cons r t => by
    simp only [D.frees, Bool.and_eq_true] at f
    exact .cons (Rep.of_free f.1 r) (Reps.of_frees f.2 t)
end

/-! ### from a state to a later one -/
structure Ext (H : Hp) (bar io : List Addr) (H' : Hp) (bar' io' : List Addr) : Prop where
  mo : ∃ more, io' = io ++ more ∧ ∀ p ∈ more, H p = none
  bo : ∀ p ∈ bar', p ∈ bar ∨ H p = none
  bi : ∀ p ∈ bar, p ∈ bar'
  ke : ∀ a o, H a = some o → a ∉ io → H' a = some o
  al : ∀ a, H' a = none → H a = none
theorem Ext.refl {H : Hp} {bar io : List Addr} : Ext H bar io H bar io := ⟨⟨[], by simp, by simp⟩, fun _ h => .inl h, fun _ h => h, fun _ _ h _ => h, fun _ h => h⟩
theorem Ext.trans {H H1 H2 : Hp} {b b1 b2 i i1 i2 : List Addr} (x : Ext H b i H1 b1 i1) (y : Ext H1 b1 i1 H2 b2 i2) : Ext H b i H2 b2 i2 := by
  obtain ⟨m1, e1, f1⟩ := x.mo
  obtain ⟨m2, e2, f2⟩ := y.mo
  refine ⟨⟨m1 ++ m2, by rw [e2, e1, List.append_assoc], fun p hp => ?_⟩, fun p hp => ?_, fun p hp => y.bi p (x.bi p hp), fun a o h hn => ?_, fun a h => x.al a (y.al a h)⟩
  · rcases List.mem_append.mp hp with h | h
    · exact f1 p h
    · exact x.al p (f2 p h)
  · rcases y.bo p hp with h | h
    · exact x.bo p h
    · exact .inr (x.al p h)
  · refine y.ke a o (x.ke a o h hn) fun hm => ?_
    rw [e1] at hm
    rcases List.mem_append.mp hm with q | q
    · exact hn q
    · rw [f1 a q] at h; cases h
/-- the cells stand as things that may change -/
def Live (H : Hp) (io bar : List Addr) : Prop := (∀ a ∈ io, Mut (H a)) ∧ ∀ a ∈ io, a ∈ bar
mutual
theorem Rep.mono {K : PySem.W.Frag} {H H' : Hp} {bar io bar' io' : List Addr} (x : Ext H bar io H' bar' io') (lv : Live H io bar) : ∀ {v : V} {d : D}, Rep K H bar io v d → Rep K H' bar' io' v d
  | _, _, .non => .non
  | _, _, .bl b => .bl b
  | _, _, .int i => .int i
  | _, _, .str s h k => .str s h k
  | _, _, .tup (a := a) h z r => .tup (x.ke a _ h fun hm => by have := lv.1 a hm; rw [h] at this; exact this) z (Reps.mono x lv r)
  | _, _, .kup h c d z v r => .kup h c d z v (Reps.mono x lv r)
  | _, _, .scrK h c dd d z v r => .scrK h c dd d z v (Reps.mono x lv r)
  | _, _, .lst (a := a) h b z r => by
    have hn : a ∉ io := fun hm => b (lv.2 a hm)
    have hnb : a ∉ bar' := fun hm => by
      rcases x.bo a hm with q | q
      · exact b q
      · rw [q] at h; cases h
    exact .lst (x.ke a _ h hn) hnb z (Reps.mono x lv r)
  | _, _, .scr (a := a) h z r => .scr (x.ke a _ h fun hm => by have := lv.1 a hm; rw [h] at this; exact this) z (Reps.mono x lv r)
  | _, _, .adr (a := a) (n := n) h => by
    obtain ⟨m, e, _⟩ := x.mo
    refine .adr ?_
    rw [e, List.getElem?_append_left (List.getElem?_eq_some_iff.mp h).1]
    exact h
theorem Reps.mono {K : PySem.W.Frag} {H H' : Hp} {bar io bar' io' : List Addr} (x : Ext H bar io H' bar' io') (lv : Live H io bar) : ∀ {vs : List V} {ds : List D}, Reps K H bar io vs ds → Reps K H' bar' io' vs ds
  | _, _, .nil => .nil
  | _, _, .cons r t => .cons (Rep.mono x lv r) (Reps.mono x lv t)
end
/-- a dict's entries -/
inductive RepK (K : PySem.W.Frag) (H : Hp) (bar io : List Addr) : List (Key × V) → List (Key × D) → Prop
  | nil : RepK K H bar io [] []
  | cons {k : Key} {v : V} {d : D} {vs : List (Key × V)} {ds : List (Key × D)} : Rep K H bar io v d → RepK K H bar io vs ds → RepK K H bar io ((k, v) :: vs) ((k, d) :: ds)
theorem RepK.mono {K : PySem.W.Frag} {H H' : Hp} {bar io bar' io' : List Addr} (x : Ext H bar io H' bar' io') (lv : Live H io bar) : ∀ {vs : List (Key × V)} {ds : List (Key × D)}, RepK K H bar io vs ds → RepK K H' bar' io' vs ds
  | _, _, .nil => .nil
  | _, _, .cons r t => .cons (r.mono x lv) (RepK.mono x lv t)
theorem RepK.length {K : PySem.W.Frag} {H : Hp} {bar io : List Addr} : ∀ {vs : List (Key × V)} {ds : List (Key × D)}, RepK K H bar io vs ds → vs.length = ds.length
  | _, _, .nil => rfl
  | _, _, .cons _ t => by simp [t.length]
inductive CellRep (K : PySem.W.Frag) (H : Hp) (bar io : List Addr) : HO → Cell → Prop
  | lst {vs : List V} {ds : List D} : vs.length ≤ sizeLine → Reps K H bar io vs ds → CellRep K H bar io (.lst vs) (.lst ds)
  | dic {vs : List (Key × V)} {ds : List (Key × D)} : vs.length ≤ sizeLine → RepK K H bar io vs ds → CellRep K H bar io (.dK vs) (.dic ds)
theorem CellRep.mono {K : PySem.W.Frag} {H H' : Hp} {bar io bar' io' : List Addr} (x : Ext H bar io H' bar' io') (lv : Live H io bar) {o : HO} {c : Cell} (h : CellRep K H bar io o c) : CellRep K H' bar' io' o c := by
  cases h with
  | lst z r => exact .lst z (r.mono x lv)
  | dic z r => exact .dic z (r.mono x lv)
theorem CellRep.mutb {K : PySem.W.Frag} {H : Hp} {bar io : List Addr} {o : HO} {c : Cell} (h : CellRep K H bar io o c) : Mut (some o) := by
  cases h <;> trivial
structure StRep (K : PySem.W.Frag) (H : Hp) (bar io : List Addr) (S : Store) : Prop where
  len : S.length = io.length
  nd : io.Nodup
  sub : ∀ a ∈ io, a ∈ bar
  bal : ∀ a ∈ bar, Mut (H a)
  cell : ∀ (n : Nat) (c : Cell), S[n]? = some c → ∃ a o, io[n]? = some a ∧ H a = some o ∧ CellRep K H bar io o c
theorem StRep.live {K : PySem.W.Frag} {H : Hp} {bar io : List Addr} {S : Store} (h : StRep K H bar io S) : Live H io bar := by
  refine ⟨fun a ha => ?_, h.sub⟩
  obtain ⟨n, hn, e⟩ := List.getElem_of_mem ha
  have hS : n < S.length := by rw [h.len]; exact hn
  obtain ⟨a', o, e1, e2, r⟩ := h.cell n S[n] (List.getElem?_eq_getElem hS)
  rw [List.getElem?_eq_getElem hn, e] at e1
  cases e1
  rw [e2]
  exact r.mutb
/-- the store stands through a state that keeps its cells -/
theorem StRep.mono {K : PySem.W.Frag} {H H' : Hp} {bar io bar' : List Addr} {S : Store} (h : StRep K H bar io S) (x : Ext H bar io H' bar' io) (ke : ∀ a ∈ io, H' a = H a) (bal : ∀ a ∈ bar', Mut (H' a)) : StRep K H' bar' io S := by
  refine ⟨h.len, h.nd, fun a ha => x.bi a (h.sub a ha), bal, fun n c hc => ?_⟩
  obtain ⟨a, o, e1, e2, r⟩ := h.cell n c hc
  exact ⟨a, o, e1, by rw [ke a (List.mem_of_getElem? e1)]; exact e2, r.mono x h.live⟩

/-- to a later state in which the cells of others may have changed, too -/
structure ExtW (H : Hp) (bar io : List Addr) (H' : Hp) (bar' io' : List Addr) : Prop where
  mo : ∃ more, io' = io ++ more ∧ ∀ p ∈ more, H p = none
  bo : ∀ p ∈ bar', p ∈ bar ∨ H p = none
  bi : ∀ p ∈ bar, p ∈ bar'
  ke : ∀ a o, H a = some o → a ∉ bar → H' a = some o
  al : ∀ a, H' a = none → H a = none
theorem Ext.weak {H H' : Hp} {bar io bar' io' : List Addr} (x : Ext H bar io H' bar' io') (h : ∀ a ∈ io, a ∈ bar) : ExtW H bar io H' bar' io' := ⟨x.mo, x.bo, x.bi, fun a o e n => x.ke a o e fun m => n (h a m), x.al⟩
theorem ExtW.refl {H : Hp} {bar io : List Addr} : ExtW H bar io H bar io := ⟨⟨[], by simp, by simp⟩, fun _ h => .inl h, fun _ h => h, fun _ _ h _ => h, fun _ h => h⟩
theorem ExtW.trans {H H1 H2 : Hp} {b b1 b2 i i1 i2 : List Addr} (x : ExtW H b i H1 b1 i1) (y : ExtW H1 b1 i1 H2 b2 i2) : ExtW H b i H2 b2 i2 := by
  obtain ⟨m1, e1, f1⟩ := x.mo
  obtain ⟨m2, e2, f2⟩ := y.mo
  refine ⟨⟨m1 ++ m2, by rw [e2, e1, List.append_assoc], fun p hp => ?_⟩, fun p hp => ?_, fun p hp => y.bi p (x.bi p hp), fun a o h hn => ?_, fun a h => x.al a (y.al a h)⟩
  · rcases List.mem_append.mp hp with h | h
    · exact f1 p h
    · exact x.al p (f2 p h)
  · rcases y.bo p hp with h | h
    · exact x.bo p h
    · exact .inr (x.al p h)
  · refine y.ke a o (x.ke a o h hn) fun hm => ?_
    rcases x.bo a hm with q | q
    · exact hn q
    · rw [q] at h; cases h
mutual
theorem Rep.monoW {K : PySem.W.Frag} {H H' : Hp} {bar io bar' io' : List Addr} (x : ExtW H bar io H' bar' io') (lv : ∀ a ∈ bar, Mut (H a)) : ∀ {v : V} {d : D}, Rep K H bar io v d → Rep K H' bar' io' v d
  | _, _, .non => .non
  | _, _, .bl b => .bl b
  | _, _, .int i => .int i
  | _, _, .str s h k => .str s h k
  | _, _, .tup (a := a) h z r => .tup (x.ke a _ h fun hm => by have := lv a hm; rw [h] at this; exact this) z (Reps.monoW x lv r)
  | _, _, .kup h c d z v r => .kup h c d z v (Reps.monoW x lv r)
  | _, _, .scrK h c dd d z v r => .scrK h c dd d z v (Reps.monoW x lv r)
  | _, _, .lst (a := a) h b z r => by
    have hnb : a ∉ bar' := fun hm => by
      rcases x.bo a hm with q | q
      · exact b q
      · rw [q] at h; cases h
    exact .lst (x.ke a _ h b) hnb z (Reps.monoW x lv r)
  | _, _, .scr (a := a) h z r => .scr (x.ke a _ h fun hm => by have := lv a hm; rw [h] at this; exact this) z (Reps.monoW x lv r)
  | _, _, .adr (a := a) (n := n) h => by
    obtain ⟨m, e, _⟩ := x.mo
    refine .adr ?_
    rw [e, List.getElem?_append_left (List.getElem?_eq_some_iff.mp h).1]
    exact h
theorem Reps.monoW {K : PySem.W.Frag} {H H' : Hp} {bar io bar' io' : List Addr} (x : ExtW H bar io H' bar' io') (lv : ∀ a ∈ bar, Mut (H a)) : ∀ {vs : List V} {ds : List D}, Reps K H bar io vs ds → Reps K H' bar' io' vs ds
  | _, _, .nil => .nil
  | _, _, .cons r t => .cons (Rep.monoW x lv r) (Reps.monoW x lv t)
end
/-- the slots -/
def EnvRep (K : PySem.W.Frag) (H : Hp) (bar io : List Addr) (σ : St) (ρ : Env) : Prop := σ.length = ρ.length ∧ ∀ (i : Nat) (d : D), ρ[i]? = some (some d) → ∃ v, σ[i]? = some (some v) ∧ Rep K H bar io v d
structure Wd (K : PySem.W.Frag) (H : Hp) (bar io : List Addr) (σ : St) (ρ : Env) (S : Store) : Prop where
  env : EnvRep K H bar io σ ρ
  st : StRep K H bar io S
theorem EnvRep.mono {K : PySem.W.Frag} {H H' : Hp} {bar io bar' io' : List Addr} {σ : St} {ρ : Env} (x : Ext H bar io H' bar' io') (lv : Live H io bar) (h : EnvRep K H bar io σ ρ) : EnvRep K H' bar' io' σ ρ :=
  ⟨h.1, fun i d e => let ⟨v, e1, r⟩ := h.2 i d e; ⟨v, e1, r.mono x lv⟩⟩
theorem EnvRep.set {K : PySem.W.Frag} {H : Hp} {bar io : List Addr} {σ : St} {ρ : Env} {v : V} {d : D} (h : EnvRep K H bar io σ ρ) (r : Rep K H bar io v d) (i : Nat) : EnvRep K H bar io (σ.set i (some v)) (ρ.set i (some d)) := by
  refine ⟨by simp [h.1], fun j e hj => ?_⟩
  by_cases hij : i = j
  · subst hij
    by_cases hi : i < ρ.length
    · rw [List.getElem?_set_self hi] at hj
      cases hj
      exact ⟨v, List.getElem?_set_self (by rw [h.1]; exact hi), r⟩
    · rw [List.getElem?_eq_none (by simpa using hi)] at hj; cases hj
  · rw [List.getElem?_set_ne hij] at hj ⊢
    exact h.2 j e hj
/-- slots forgotten -/
def wipeE (ρ : Env) : List Nat → Env
  | [] => ρ
  | v :: vs => (wipeE ρ vs).set v none
theorem EnvRep.unset {K : PySem.W.Frag} {H : Hp} {bar io : List Addr} {σ : St} {ρ : Env} (h : EnvRep K H bar io σ ρ) (i : Nat) : EnvRep K H bar io (σ.set i none) (ρ.set i none) := by
  refine ⟨by simp [h.1], fun j e hj => ?_⟩
  by_cases hij : i = j
  · subst hij
    by_cases hi : i < ρ.length
    · rw [List.getElem?_set_self hi] at hj
      cases hj
    · rw [List.getElem?_eq_none (by simpa using hi)] at hj; cases hj
  · rw [List.getElem?_set_ne hij] at hj ⊢
    exact h.2 j e hj
theorem EnvRep.wipe {K : PySem.W.Frag} {H : Hp} {bar io : List Addr} {σ : St} {ρ : Env} (h : EnvRep K H bar io σ ρ) : ∀ vs : List Nat, EnvRep K H bar io (wipe σ vs) (wipeE ρ vs)
  | [] => h
  | v :: vs => (EnvRep.wipe h vs).unset v
end PX

/-! PX2: the plain semantics: operators, expressions, statements. -/
namespace PX
open PySem L2

/-! ### operators on data -/
inductive BO where
  | add | sub | mul | fdiv | mod | pow | and | or | xor | shl | shr
  deriving DecidableEq
inductive CO where
  | eq | ne | lt | le | gt | ge | is | isNot | inn | notIn
  deriving DecidableEq
inductive TY where
  | int | bool | str | tuple | list | dict
  deriving DecidableEq
/-- built-in functions and classes, called with one or two values -/
inductive BF where
  | len | sum | all | any | abs | int | bool | str | tuple | list | listM | sorted | sortedP | max2 | min2 | maxL | minL
  deriving DecidableEq
/-- methods -/
inductive ME where
  | append | extend | pop | popAt | get1 | get2 | clear
  deriving DecidableEq

/-- the items of a list that may be read -/
def asLst (S : Store) : D → Option (List D)
  | .lst xs => some xs
  | .scr xs => some xs
  | .adr n => match S[n]? with
    | some (.lst xs) => some xs
    | _ => none
  | _ => none
/-- .. that may be put together with another one -/
def asLstW (S : Store) : D → Option (List D)
  | .lst xs => some xs
  | .adr n => match S[n]? with
    | some (.lst xs) => some xs
    | _ => none
  | _ => none
def asDic (S : Store) : D → Option (List (Key × D))
  | .adr n => match S[n]? with
    | some (.dic xs) => some xs
    | _ => none
  | _ => none
def asKey : D → Option Key
  | .int i => some (.inl i)
  | .str s => some (.inr s)
  | _ => none
def keyD : Key → D
  | .inl i => .int i
  | .inr s => .str s
def asInts : List D → Option (List Int)
  | [] => some []
  | .int i :: r => (asInts r).map (i :: ·)
  | _ => none
def asBls : List D → Option (List Bool)
  | [] => some []
  | .bl i :: r => (asBls r).map (i :: ·)
  | _ => none
@[simp] theorem asInts_map (ns : List Int) : asInts (ns.map D.int) = some ns := by
  induction ns with
  | nil => rfl
  | cons n ns ih => simp [asInts, ih]
@[simp] theorem asBls_map (ns : List Bool) : asBls (ns.map D.bl) = some ns := by
  induction ns with
  | nil => rfl
  | cons n ns ih => simp [asBls, ih]
theorem asInts_eq : ∀ {ds : List D} {ns : List Int}, asInts ds = some ns → ds = ns.map D.int
  | [], ns, h => by simp [asInts] at h; subst h; rfl
  | d :: ds, ns, h => by
    cases d <;> simp [asInts] at h
    obtain ⟨r, h1, h2⟩ := h
    subst h2
    rw [asInts_eq h1]
    rfl
theorem asBls_eq : ∀ {ds : List D} {ns : List Bool}, asBls ds = some ns → ds = ns.map D.bl
  | [], ns, h => by simp [asBls] at h; subst h; rfl
  | d :: ds, ns, h => by
    cases d <;> simp [asBls] at h
    obtain ⟨r, h1, h2⟩ := h
    subst h2
    rw [asBls_eq h1]
    rfl
/-- of a dict -/
def valD (kvs : List (Key × D)) (k : Key) : Option D := (kvs.find? fun kv => decide (kv.1 = k)).map (·.2)
def putD (kvs : List (Key × D)) (k : Key) (v : D) : List (Key × D) :=
  if (kvs.any fun kv => decide (kv.1 = k)) = true then kvs.map (fun kv => if kv.1 = k then (kv.1, v) else kv) else kvs ++ [(k, v)]
/-- a slice -/
def cutG {α : Type} (xs : List α) (lo hi : Option Int) : List α := (xs.drop (HT.sIx xs.length 0 lo)).take (HT.sIx xs.length xs.length hi - HT.sIx xs.length 0 lo)

mutual
/-- Python's == -/
def D.eqv : D → D → Bool
  | .non, .non => true
  | .bl a, .bl b => a == b
  | .bl a, .int j => (if a then 1 else 0) == j
  | .int i, .bl b => i == (if b then 1 else 0)
  | .int i, .int j => i == j
  | .str x, .str y => x == y
  | .lst xs, .lst ys => D.eqvs xs ys
  | .lst xs, .scr ys => D.eqvs xs ys
  | .scr xs, .lst ys => D.eqvs xs ys
  | .scr xs, .scr ys => D.eqvs xs ys
  | .tup xs, .tup ys => D.eqvs xs ys
  | .tup xs, .kup ys => D.eqvs xs ys
  | .kup xs, .tup ys => D.eqvs xs ys
  | .kup xs, .kup ys => D.eqvs xs ys
  | _, _ => false
def D.eqvs : List D → List D → Bool
  | [], [] => true
  | x :: xs, y :: ys => D.eqv x y && D.eqvs xs ys
  | _, _ => false
end
mutual
def D.depth : D → Nat
  | .lst xs => D.depths xs + 1
  | .scr xs => D.depths xs + 1
  | .kup xs => D.depths xs + 1
  | .tup xs => D.depths xs + 1
  | _ => 0
def D.depths : List D → Nat
  | [] => 0
  | x :: xs => max (D.depth x) (D.depths xs)
end
/-- what is compared: a cell's list is read -/
def snap (S : Store) : D → Option D
  | .adr n => match S[n]? with
    | some (.lst xs) => if D.frees xs then some (.lst xs) else none
    | _ => none
  | d => if D.free d then some d else none
/-- one that has no parts -/
def D.flat : D → Bool
  | .non | .bl _ | .int _ | .str _ => true
  | _ => false

def truthy (S : Store) : D → Option Bool
  | .non => some false
  | .bl b => some b
  | .int i => some (i != 0)
  | .str s => some ((s.length : Int) != 0)
  | .tup xs => some (!xs.isEmpty)
  | .lst xs => some (!xs.isEmpty)
  | .scr xs => some (!xs.isEmpty)
  | .kup xs => some (!xs.isEmpty)
  | .adr n => match S[n]? with
    | some (.lst xs) => some (!xs.isEmpty)
    | some (.dic xs) => some (!xs.isEmpty)
    | none => none

def small64 (i : Int) : Bool := decide (-(2 ^ 64) < i) && decide (i < 2 ^ 64)
def mulOk (i j : Int) : Bool := small64 i || small64 j || decide (i.natAbs.log2 + j.natAbs.log2 < 1000000)
def divOk (j : Int) : Bool := decide (0 < j) && decide (j.natAbs.log2 < 9000)
def powOk (i j : Int) : Bool := decide (0 ≤ j) && decide (j ≤ 1000000) && decide (i.natAbs < 2 ^ 64)

def guardR {α : Type} (b : Bool) (r : R α) : R α := match b with
  | true => r
  | false => .stuck
@[simp] theorem guardR_true {α : Type} (r : R α) : guardR true r = r := rfl
@[simp] theorem guardR_false {α : Type} (r : R α) : guardR false r = .stuck := rfl

def binV (o : BO) (S : Store) (x y : D) : R D := match x, y with
  | .int i, .int j => match o with
    | .add => .ok (.int (i + j)) S
    | .sub => .ok (.int (i - j)) S
    | .mul => guardR (mulOk i j) (.ok (.int (i * j)) S)
    | .fdiv => guardR (divOk j) (.ok (.int (i / j)) S)
    | .mod => guardR (decide (0 < j)) (.ok (.int (i % j)) S)
    | .pow => guardR (powOk i j) (.ok (.int (i ^ j.toNat)) S)
    | .and => .ok (.int (Builtin.bitAnd i j)) S
    | .or => .ok (.int (Builtin.bitOr i j)) S
    | .xor => .ok (.int (Builtin.bitXor i j)) S
    | .shl => guardR (powOk i j) (.ok (.int (i * 2 ^ j.toNat)) S)
    | .shr => guardR (decide (0 ≤ j)) (.ok (.int (i / 2 ^ j.toNat)) S)
  | .str a, .str b => match o with
    | .add => guardR (decide (a.length + b.length ≤ sizeLine)) (.ok (.str (a ++ b)) S)
    | _ => .stuck
  | .tup a, .tup b => match o with
    | .add => guardR (decide (a.length + b.length ≤ sizeLine)) (.ok (.tup (a ++ b)) S)
    | _ => .stuck
  | x, .int k => match o with
    | .mul => match asLstW S x with
      | some a => guardR (decide (-(2 ^ 63) ≤ k) && decide (k < 2 ^ 63) && decide (a.length * k.toNat ≤ sizeLine)) (.ok (.lst (List.replicate k.toNat a).flatten) S)
      | none => .stuck
    | _ => .stuck
  | x, y => match o with
    | .add => match asLstW S x, asLstW S y with
      | some a, some b => guardR (decide (a.length + b.length ≤ sizeLine)) (.ok (.lst (a ++ b)) S)
      | _, _ => .stuck
    | _ => .stuck

def eqR (neg : Bool) (S : Store) (x y : D) : R D := match snap S x, snap S y with
  | some a, some b => guardR (decide (a.depth ≤ 64) && decide (b.depth ≤ 64)) (.ok (.bl (if neg then !D.eqv a b else D.eqv a b)) S)
  | _, _ => .stuck
def inR (neg : Bool) (S : Store) (x y : D) : R D := match y with
  | .kup ds => guardR (x.flat && ds.all D.flat) (.ok (.bl (if neg then !ds.any (fun z => D.eqv z x) else ds.any (fun z => D.eqv z x))) S)
  | .tup ds => guardR (x.flat && ds.all D.flat) (.ok (.bl (if neg then !ds.any (fun z => D.eqv z x) else ds.any (fun z => D.eqv z x))) S)
  | y => match asLst S y with
    | some ds => guardR (x.flat && ds.all D.flat) (.ok (.bl (if neg then !ds.any (fun z => D.eqv z x) else ds.any (fun z => D.eqv z x))) S)
    | none => match asDic S y, asKey x with
      | some kvs, some k => .ok (.bl (if neg then !(valD kvs k).isSome else (valD kvs k).isSome)) S
      | _, _ => .stuck
def isR (neg : Bool) (S : Store) (x y : D) : R D := match y with
  | .non => .ok (.bl (if neg then !decide (x = .non) else decide (x = .non))) S
  | .bl b => match x with
    | .bl a => .ok (.bl (if neg then !decide (a = b) else decide (a = b))) S
    | _ => .stuck
  | _ => .stuck
def cmpV (o : CO) (S : Store) (x y : D) : R D := match o with
  | .eq => eqR false S x y
  | .ne => eqR true S x y
  | .is => isR false S x y
  | .isNot => isR true S x y
  | .inn => inR false S x y
  | .notIn => inR true S x y
  | .lt => match x, y with
    | .int i, .int j => .ok (.bl (decide (i < j))) S
    | _, _ => .stuck
  | .le => match x, y with
    | .int i, .int j => .ok (.bl (decide (i ≤ j))) S
    | _, _ => .stuck
  | .gt => match x, y with
    | .int i, .int j => .ok (.bl (decide (j < i))) S
    | _, _ => .stuck
  | .ge => match x, y with
    | .int i, .int j => .ok (.bl (decide (j ≤ i))) S
    | _, _ => .stuck

def optR {α : Type} (o : Option α) (S : Store) : R α := match o with
  | some a => .ok a S
  | none => .stuck
@[simp] theorem optR_some {α : Type} (a : α) (S : Store) : optR (some a) S = .ok a S := rfl
@[simp] theorem optR_none {α : Type} (S : Store) : optR (none : Option α) S = .stuck := rfl

/-- x[i] -/
def ixV (S : Store) (x i : D) : R D := match x, i with
  | .kup xs, .int k => optR (atI xs k) S
  | .tup xs, .int k => optR (atI xs k) S
  | .str z, .int k => match atI z.cps.toList k with
    | some c => .ok (.str ⟨#[c]⟩) S
    | none => .stuck
  | x, i => match asLst S x with
    | some xs => match i with
      | .int k => optR (atI xs k) S
      | _ => .stuck
    | none => match asDic S x, asKey i with
      | some kvs, some k => optR (valD kvs k) S
      | _, _ => .stuck
/-- x[lo:hi] -/
def slV (S : Store) (x : D) (lo hi : Option Int) : R D := match x with
  | .tup xs => .ok (.tup (cutG xs lo hi)) S
  | x => match asLst S x with
    | some xs => .ok (.lst (cutG xs lo hi)) S
    | none => .stuck
def asPart : D → Option (Option Int)
  | .int i => some (some i)
  | _ => none

def tyOf (S : Store) : D → Option TY
  | .bl _ => some .bool
  | .int _ => some .int
  | .str _ => some .str
  | .tup _ => some .tuple
  | .kup _ => some .tuple
  | .lst _ => some .list
  | .scr _ => some .list
  | .adr n => match S[n]? with
    | some (.lst _) => some .list
    | some (.dic _) => some .dict
    | none => none
  | .non => none
def isiV (S : Store) (x : D) (t : TY) : R D := match x with
  | .non => .ok (.bl false) S
  | x => match tyOf S x with
    | some s => .ok (.bl (decide (s = t) || (decide (s = .bool) && decide (t = .int)))) S
    | none => .stuck

def sortI (ns : List Int) : List Int := ns.mergeSort (fun a b => decide (a ≤ b))
def leP (p q : Int × Int) : Bool := !SrtO.lexB q p
def sortP (ps : List (Int × Int)) : List (Int × Int) := ps.mergeSort leP
def pairD (p : Int × Int) : D := .tup [.int p.1, .int p.2]
def asPairs : List D → Option (List (Int × Int))
  | [] => some []
  | .tup [.int i, .int j] :: r => (asPairs r).map ((i, j) :: ·)
  | _ => none
@[simp] theorem asPairs_map (ps : List (Int × Int)) : asPairs (ps.map pairD) = some ps := by
  induction ps with
  | nil => rfl
  | cons n ns ih => simp [asPairs, pairD, ih]
theorem asPairs_eq : ∀ {ds : List D} {ps : List (Int × Int)}, asPairs ds = some ps → ds = ps.map pairD := by
  intro ds
  induction ds with
  | nil => intro ps h; simp [asPairs] at h; subst h; rfl
  | cons d ds ih =>
    intro ps h
    unfold asPairs at h
    split at h
    · simp_all
    · rename_i i j r e
      cases e
      cases hq : asPairs ds with
      | none => rw [hq] at h; cases h
      | some q =>
        rw [hq] at h
        cases h
        rw [ih hq]
        rfl
    · cases h
/-- the keys of a dict, all of them ints -/
def keyInts : List (Key × D) → Option (List Int)
  | [] => some []
  | (.inl i, _) :: r => (keyInts r).map (i :: ·)
  | _ => none
def maxI : List Int → Int
  | [] => 0
  | [x] => x
  | x :: y :: r => let m := maxI (y :: r); if x ≤ m then m else x
def minI : List Int → Int
  | [] => 0
  | [x] => x
  | x :: y :: r => let m := minI (y :: r); if m ≤ x then m else x

def biV (f : BF) (S : Store) (ds : List D) : R D := match f, ds with
  | .len, [.tup xs] => .ok (.int xs.length) S
  | .len, [.kup xs] => .ok (.int xs.length) S
  | .len, [.str z] => .ok (.int z.length) S
  | .len, [x] => match asLst S x with
    | some xs => .ok (.int xs.length) S
    | none => match asDic S x with
      | some kvs => .ok (.int kvs.length) S
      | none => .stuck
  | .sum, [x] => match (asLst S x).bind asInts with
    | some ns => .ok (.int ns.sum) S
    | none => .stuck
  | .all, [x] => match (asLst S x).bind asBls with
    | some bs => .ok (.bl (bs.all id)) S
    | none => .stuck
  | .any, [x] => match (asLst S x).bind asBls with
    | some bs => .ok (.bl (bs.any id)) S
    | none => .stuck
  | .abs, [.int i] => .ok (.int (if i < 0 then -i else i)) S
  | .int, [.int i] => .ok (.int i) S
  | .int, [.bl b] => .ok (.int (if b then 1 else 0)) S
  | .bool, [.int i] => .ok (.bl (i != 0)) S
  | .bool, [.bl b] => .ok (.bl b) S
  | .str, [.int i] => guardR (decide (i.natAbs.log2 < 1920)) (.ok (.str (toString i)) S)
  | .tuple, [.tup xs] => .ok (.tup xs) S
  | .tuple, [x] => match asLst S x with
    | some xs => .ok (.tup xs) S
    | none => .stuck
  | .list, [.tup xs] => .ok (.lst xs) S
  | .list, [x] => match asLst S x with
    | some xs => .ok (.lst xs) S
    | none => .stuck
  | .listM, [.tup xs] => .ok (.adr S.length) (S ++ [.lst xs])
  | .listM, [x] => match asLst S x with
    | some xs => .ok (.adr S.length) (S ++ [.lst xs])
    | none => .stuck
  | .sorted, [x] => match (asLst S x).bind asInts with
    | some ns => .ok (.lst ((sortI ns).map D.int)) S
    | none => match (asDic S x).bind keyInts with
      | some ns => .ok (.lst ((sortI ns).map D.int)) S
      | none => .stuck
  | .sortedP, [x] => match (asLst S x).bind asPairs with
    | some ps => .ok (.lst ((sortP ps).map pairD)) S
    | none => .stuck
  | .max2, [.int i, .int j] => .ok (.int (if j > i then j else i)) S
  | .min2, [.int i, .int j] => .ok (.int (if j < i then j else i)) S
  | .maxL, [x] => match (asLst S x).bind asInts with
    | some ns => guardR (!ns.isEmpty) (.ok (.int (maxI ns)) S)
    | none => .stuck
  | .minL, [x] => match (asLst S x).bind asInts with
    | some ns => guardR (!ns.isEmpty) (.ok (.int (minI ns)) S)
    | none => .stuck
  | _, _ => .stuck

/-- whose method it is -/
def ME.ofDict : ME → Bool
  | .get1 | .get2 => true
  | _ => false
def mkind (m : ME) (S : Store) (x : D) : Bool := match m.ofDict with
  | true => (asDic S x).isSome
  | false => (asLstW S x).isSome
def methV (m : ME) (S : Store) (x : D) (ds : List D) : R D := match x with
  | .adr n => match S[n]? with
    | some (.lst xs) => match m, ds with
      | .append, [y] => guardR (decide (xs.length < sizeLine)) (.ok .non (S.set n (.lst (xs ++ [y]))))
      | .extend, [y] => match asLstW S y with
        | some ys => guardR (decide (xs.length + ys.length ≤ sizeLine)) (.ok .non (S.set n (.lst (xs ++ ys))))
        | none => .stuck
      | .pop, [] => match xs[xs.length - 1]? with
        | some y => .ok y (S.set n (.lst xs.dropLast))
        | none => .stuck
      | .popAt, [.int i] => match ixN xs.length i with
        | some k => match xs[k]? with
          | some y => .ok y (S.set n (.lst (xs.eraseIdx k)))
          | none => .stuck
        | none => .stuck
      | .clear, [] => .ok .non (S.set n (.lst []))
      | _, _ => .stuck
    | some (.dic kvs) => match m, ds with
      | .get1, [k] => match asKey k with
        | some k => .ok ((valD kvs k).getD .non) S
        | none => .stuck
      | .get2, [k, y] => match asKey k with
        | some k => .ok ((valD kvs k).getD y) S
        | none => .stuck
      | _, _ => .stuck
    | none => .stuck
  | _ => .stuck
/-- o[i] = v -/
def setV (S : Store) (o i v : D) : R Unit := match o with
  | .adr n => match S[n]? with
    | some (.lst xs) => match i with
      | .int k => match ixN xs.length k with
        | some j => .ok () (S.set n (.lst (xs.set j v)))
        | none => .stuck
      | _ => .stuck
    | some (.dic kvs) => match asKey i with
      | some k => guardR (decide (kvs.length < sizeLine)) (.ok () (S.set n (.dic (putD kvs k v))))
      | none => .stuck
    | none => .stuck
  | _ => .stuck

/-! ### the written forms -/
/-- a def, by what it does -/
structure FnI where
  name : Str
  ps : List Str
  kps : List (Nat × List Str)
  sem : Store → List D → R D
inductive T where
  | name (i : Nat) | tup (is : List Nat)
mutual
inductive E where
  | var (i : Nat)
  | int (i : Int) | str (s : Str) | bl (b : Bool) | non
  | glob (x : Str) (d : D)
  | tup (es : L) | lst (es : L) | new (es : L) | dic
  | bin (o : BO) (a b : E)
  | neg (a : E)
  | not (a : E)
  | cmp (o : CO) (a b : E)
  | chain (o o' : CO) (a b c : E)
  | and (es : L) | or (es : L)
  | ite (c a b : E)
  | ix (a i : E)
  | sl (a : E) (lo hi : O)
  | rev (a : E)
  | call (sh : Bool) (f : FnI) (es : L)
  | callk (sh : Bool) (f : FnI) (es : L) (ks : List Str) (kes : L)
  | bi (f : BF) (es : L)
  | isi (a : E) (t : TY)
  | meth (m : ME) (o : E) (es : L)
  | lc (vs : List Nat) (mu : Bool) (t : T) (it : I) (c : O) (e : E)
  | lc2 (vs vs1 : List Nat) (mu : Bool) (t : T) (it : I) (c : O) (t1 : T) (it1 : I) (c1 : O) (e : E)
inductive L where
  | nil | cons (e : E) (es : L)
inductive O where
  | none | some (e : E)
/-- what is walked -/
inductive I where
  | seq (e : E) | rng1 (a : E) | rng2 (a b : E) | enum (a : E) | zip (a b : E) | rev (a : E)
end
mutual
inductive S where
  | asg (t : T) (e : E)
  | par2 (i j : Nat) (a b : E)
  | par3 (i j k : Nat) (a b c : E)
  | aug (i : Nat) (o : BO) (e : E)
  | set (o i e : E)
  | expr (e : E)
  | ret (e : E) | retN
  | ite (c : E) (a b : B)
  | for_ (t : T) (it : I) (b : B)
  | while_ (c : E) (b : B)
  | brk | cont | pass
  | raise (c m : Str)
  | try_ (b : B) (cs : List Str) (hs : List (Str × List Str × Nat × Str))
inductive B where
  | nil | cons (s : S) (r : B)
end
def L.length : L → Nat
  | .nil => 0
  | .cons _ r => r.length + 1

/-! ### how they run -/
/-- the items of a walk, and the cells that have to stay as they are -/
structure Ws where
  ds : List D
  g : List (Nat × Cell)
def Ws.ok (w : Ws) (S : Store) : Bool := w.g.all fun p => decide (S[p.1]? = some p.2)
/-- a list that is walked -/
def lstW (S : Store) (x : D) : Option Ws := match x with
  | .lst xs => some ⟨xs, []⟩
  | .scr xs => some ⟨xs, []⟩
  | .adr n => match S[n]? with
    | some (.lst xs) => some ⟨xs, [(n, .lst xs)]⟩
    | _ => none
  | _ => none
/-- a tuple that is walked -/
def tupW (x : D) : Option (List D) := match x with
  | .tup xs => some xs
  | .kup xs => some xs
  | _ => none
/-- x[::-1] -/
def backV (S : Store) (x : D) : R D := match tupW x with
  | some xs => .ok (.tup xs.reverse) S
  | none => match asLst S x with
    | some xs => .ok (.lst xs.reverse) S
    | none => .stuck
/-- what is walked at a value -/
def seqW (S : Store) (x : D) : Option Ws := match tupW x with
  | some xs => some ⟨xs, []⟩
  | none => lstW S x
def enumG (f : Nat → D → D) : Nat → List D → List D
  | _, [] => []
  | i, x :: xs => f i x :: enumG f (i + 1) xs
def rngOk (i : Int) : Bool := decide (-(2 ^ 62) ≤ i) && decide (i < 2 ^ 62)
def rngL (lo : Int) (n : Nat) : List D := (List.range n).map fun (i : Nat) => D.int (lo + (i : Int))
def zipD (xs ys : List D) : List D := (xs.zip ys).map fun p => D.tup [p.1, p.2]
def enumV (S : Store) (x : D) : R Ws := match lstW S x with
  | some w => .ok ⟨enumG (fun i x => .tup [.int i, x]) 0 w.ds, w.g⟩ S
  | none => .stuck
def zipV (S : Store) (x y : D) : R Ws := match tupW x, tupW y with
  | some xs, some ys => .ok ⟨zipD xs ys, []⟩ S
  | none, none => match lstW S x, lstW S y with
    | some u, some v => .ok ⟨zipD u.ds v.ds, u.g ++ v.g⟩ S
    | _, _ => .stuck
  | _, _ => .stuck
def revW (S : Store) (x : D) : Option Ws := (seqW S x).map fun w => ⟨w.ds.reverse, w.g⟩

/-- how targets take a value -/
def asgs : List Nat → List D → Env → Option Env
  | [], [], ρ => some ρ
  | i :: is, d :: ds, ρ => asgs is ds (ρ.set i (some d))
  | _, _, _ => none
def asgT : T → D → Env → Option Env
  | .name i, d, ρ => some (ρ.set i (some d))
  | .tup is, .tup ds, ρ => asgs is ds ρ
  | .tup _, _, _ => none

/-- the loop of a comprehension -/
def lcLoop (w : Ws) (turn : D → List D → Store → R (List D)) : List D → List D → Store → R (List D)
  | [], acc, S => guardR (w.ok S) (.ok acc S)
  | d :: ds, acc, S => guardR (w.ok S) (match turn d acc S with
    | .ok acc' S' => lcLoop w turn ds acc' S'
    | _ => .stuck)
def endL (mu : Bool) (acc : List D) (S : Store) : R D := match mu with
  | true => .ok (.adr S.length) (S ++ [.lst acc])
  | false => .ok (.lst acc) S

def callV (sh : Bool) (f : FnI) (ds : List D) (S : Store) : R D := guardR (decide (ds.length = f.ps.length)) (match sh with
  | true => f.sem S ds
  | false => guardR (D.frees ds) (match f.sem [] ds with
    | .ok d _ => guardR (D.free d) (.ok d S)
    | .exc c _ => .exc c S
    | .stuck => .stuck))
/-- the values of keywords behind the written ones, in the parameters' order -/
def argK (ps ks : List Str) (us ws : List D) : List D := us ++ (ps.drop us.length).map fun p => ((ks.zip ws).lookup p).getD .non

mutual
def evE : E → Env → Store → R D
  | .var i, ρ, S => match ρ[i]? with
    | some (some d) => .ok d S
    | _ => .stuck
  | .int i, _, S => .ok (.int i) S
  | .str s, _, S => .ok (.str s) S
  | .bl b, _, S => .ok (.bl b) S
  | .non, _, S => .ok .non S
  | .glob _ d, _, S => .ok d S
  | .tup es, ρ, S => (evL es ρ S).bind fun ds S => .ok (.tup ds) S
  | .lst es, ρ, S => (evL es ρ S).bind fun ds S => .ok (.lst ds) S
  | .new es, ρ, S => (evL es ρ S).bind fun ds S => .ok (.adr S.length) (S ++ [.lst ds])
  | .dic, _, S => .ok (.adr S.length) (S ++ [.dic []])
  | .bin o a b, ρ, S => (evE a ρ S).bind fun x S => (evE b ρ S).bind fun y S => binV o S x y
  | .neg a, ρ, S => (evE a ρ S).bind fun x S => match x with
    | .int i => .ok (.int (-i)) S
    | _ => .stuck
  | .not a, ρ, S => (evE a ρ S).bind fun x S => match truthy S x with
    | some b => .ok (.bl (!b)) S
    | none => .stuck
  | .cmp o a b, ρ, S => (evE a ρ S).bind fun x S => (evE b ρ S).bind fun y S => cmpV o S x y
  | .chain o o' a b c, ρ, S => (evE a ρ S).bind fun x S => (evE b ρ S).bind fun y S => (cmpV o S x y).bind fun z S => match z with
    | .bl true => (evE c ρ S).bind fun w S => cmpV o' S y w
    | .bl false => .ok (.bl false) S
    | _ => .stuck
  | .and es, ρ, S => evAnd es ρ S
  | .or es, ρ, S => evOr es ρ S
  | .ite c a b, ρ, S => (evE c ρ S).bind fun x S => match truthy S x with
    | some true => evE a ρ S
    | some false => evE b ρ S
    | none => .stuck
  | .ix a i, ρ, S => (evE a ρ S).bind fun x S => (evE i ρ S).bind fun y S => ixV S x y
  | .sl a lo hi, ρ, S => (evE a ρ S).bind fun x S => (evO lo ρ S).bind fun l S => (evO hi ρ S).bind fun h S => slV S x l h
  | .rev a, ρ, S => (evE a ρ S).bind fun x S => backV S x
  | .call sh f es, ρ, S => (evL es ρ S).bind fun ds S => callV sh f ds S
  | .callk sh f es ks kes, ρ, S => (evL es ρ S).bind fun us S => (evL kes ρ S).bind fun ws S => callV sh f (argK f.ps ks us ws) S
  | .bi f es, ρ, S => (evL es ρ S).bind fun ds S => biV f S ds
  | .isi a t, ρ, S => (evE a ρ S).bind fun x S => isiV S x t
  | .meth m o es, ρ, S => (evE o ρ S).bind fun x S => guardR (mkind m S x) ((evL es ρ S).bind fun ds S => methV m S x ds)
  | .lc vs mu t it c e, ρ, S => (evI it ρ S).bind fun w S =>
      (lcLoop w (fun d acc S => match asgT t d (wipeE ρ vs) with
        | some ρ1 => (evC c ρ1 S).bind fun b S => match b with
          | true => (evE e ρ1 S).bind fun y S => guardR (decide (acc.length < sizeLine)) (.ok (acc ++ [y]) S)
          | false => .ok acc S
        | none => .stuck) w.ds [] S).bind fun acc S => endL mu acc S
  | .lc2 vs vs1 mu t it c t1 it1 c1 e, ρ, S => (evI it ρ S).bind fun w S =>
      (lcLoop w (fun d acc S => match asgT t d (wipeE ρ vs) with
        | some ρ1 => (evC c ρ1 S).bind fun b S => match b with
          | true => (evI it1 ρ1 S).bind fun w1 S => lcLoop w1 (fun d1 acc S => match asgT t1 d1 (wipeE ρ1 vs1) with
              | some ρ2 => (evC c1 ρ2 S).bind fun b S => match b with
                | true => (evE e ρ2 S).bind fun y S => guardR (decide (acc.length < sizeLine)) (.ok (acc ++ [y]) S)
                | false => .ok acc S
              | none => .stuck) w1.ds acc S
          | false => .ok acc S
        | none => .stuck) w.ds [] S).bind fun acc S => endL mu acc S
def evL : L → Env → Store → R (List D)
  | .nil, _, S => .ok [] S
  | .cons e es, ρ, S => (evE e ρ S).bind fun d S => (evL es ρ S).bind fun ds S => .ok (d :: ds) S
def evAnd : L → Env → Store → R D
  | .nil, _, _ => .stuck
  | .cons e es, ρ, S => match es with
    | .nil => evE e ρ S
    | .cons _ _ => (evE e ρ S).bind fun d S => match truthy S d with
      | some true => evAnd es ρ S
      | some false => .ok d S
      | none => .stuck
def evOr : L → Env → Store → R D
  | .nil, _, _ => .stuck
  | .cons e es, ρ, S => match es with
    | .nil => evE e ρ S
    | .cons _ _ => (evE e ρ S).bind fun d S => match truthy S d with
      | some true => .ok d S
      | some false => evOr es ρ S
      | none => .stuck
/-- a part of a slice -/
def evO : O → Env → Store → R (Option Int)
  | .none, _, S => .ok none S
  | .some e, ρ, S => (evE e ρ S).bind fun d S => match d with
    | .int i => .ok (some i) S
    | _ => .stuck
/-- a clause's test -/
def evC : O → Env → Store → R Bool
  | .none, _, S => .ok true S
  | .some e, ρ, S => (evE e ρ S).bind fun d S => optR (truthy S d) S
def evI : I → Env → Store → R Ws
  | .seq e, ρ, S => (evE e ρ S).bind fun x S => optR (seqW S x) S
  | .rng1 a, ρ, S => (evE a ρ S).bind fun x S => match x with
    | .int j => guardR (rngOk j) (.ok ⟨rngL 0 j.toNat, []⟩ S)
    | _ => .stuck
  | .rng2 a b, ρ, S => (evE a ρ S).bind fun x S => (evE b ρ S).bind fun y S => match x, y with
    | .int i, .int j => guardR (rngOk i && rngOk j) (.ok ⟨rngL i (j - i).toNat, []⟩ S)
    | _, _ => .stuck
  | .enum a, ρ, S => (evE a ρ S).bind fun x S => enumV S x
  | .zip a b, ρ, S => (evE a ρ S).bind fun x S => (evE b ρ S).bind fun y S => zipV S x y
  | .rev a, ρ, S => (evE a ρ S).bind fun x S => optR (revW S x) S
end

/-- the end of a statement -/
inductive Fl where
  | next | ret (d : D) | brk | cont
inductive RS where
  | fl (f : Fl) (ρ : Env) (S : Store) | exc (c : Str) (ρ : Env) (S : Store) | stuck
/-- an expression's outcome within a statement -/
def R.then {α : Type} (r : R α) (ρ : Env) (f : α → Store → RS) : RS := match r with
  | .ok a S => f a S
  | .exc c S => .exc c ρ S
  | .stuck => .stuck
@[simp] theorem R.then_ok {α : Type} (a : α) (S : Store) (ρ : Env) (f : α → Store → RS) : (R.ok a S).then ρ f = f a S := rfl
@[simp] theorem R.then_exc {α : Type} (c : Str) (S : Store) (ρ : Env) (f : α → Store → RS) : (R.exc c S).then ρ f = .exc c ρ S := rfl
@[simp] theorem R.then_stuck {α : Type} (ρ : Env) (f : α → Store → RS) : (R.stuck : R α).then ρ f = .stuck := rfl
def forLoop (w : Ws) (t : T) (body : Env → Store → RS) : List D → Env → Store → RS
  | [], ρ, S => match w.ok S with
    | true => .fl .next ρ S
    | false => .stuck
  | d :: ds, ρ, S => match w.ok S with
    | true => match asgT t d ρ with
      | some ρ1 => match body ρ1 S with
        | .fl .next ρ2 S2 => forLoop w t body ds ρ2 S2
        | .fl .cont ρ2 S2 => forLoop w t body ds ρ2 S2
        | .fl .brk ρ2 S2 => .fl .next ρ2 S2
        | r => r
      | none => .stuck
    | false => .stuck
def whileLoop (c : Env → Store → R D) (body : Env → Store → RS) : Nat → Env → Store → RS
  | 0, _, _ => .stuck
  | n + 1, ρ, S => (c ρ S).then ρ fun d S => match truthy S d with
    | some true => match body ρ S with
      | .fl .next ρ2 S2 => whileLoop c body n ρ2 S2
      | .fl .cont ρ2 S2 => whileLoop c body n ρ2 S2
      | .fl .brk ρ2 S2 => .fl .next ρ2 S2
      | r => r
    | some false => .fl .next ρ S
    | none => .stuck
/-- a clause: its class, those of cs that it takes, the slot and the text that it stores -/
def handle : List (Str × List Str × Nat × Str) → Str → Env → Store → RS
  | [], c, ρ, S => .exc c ρ S
  | (_, l, i, m) :: r, c, ρ, S => match decide (c ∈ l) with
    | true => .fl .next (ρ.set i (some (.str m))) S
    | false => handle r c ρ S
mutual
/-- n: how many turns a while may take -/
def evS (n : Nat) : PX.S → Env → Store → RS
  | .asg t e, ρ, S => (evE e ρ S).then ρ fun d S => match asgT t d ρ with
    | some ρ1 => .fl .next ρ1 S
    | none => .stuck
  | .par2 i j a b, ρ, S => (evE a ρ S).then ρ fun x S => (evE b ρ S).then ρ fun y S => .fl .next ((ρ.set i (some x)).set j (some y)) S
  | .par3 i j k a b c, ρ, S => (evE a ρ S).then ρ fun x S => (evE b ρ S).then ρ fun y S => (evE c ρ S).then ρ fun z S => .fl .next (((ρ.set i (some x)).set j (some y)).set k (some z)) S
  | .aug i o e, ρ, S => match ρ[i]? with
    | some (some x) => (evE e ρ S).then ρ fun y S => (match x, y with
      | .int _, .int _ => binV o S x y
      | _, _ => .stuck).then ρ fun z S => .fl .next (ρ.set i (some z)) S
    | _ => .stuck
  | .set o i e, ρ, S => (evE e ρ S).then ρ fun v S => (evE o ρ S).then ρ fun x S => (evE i ρ S).then ρ fun y S => (setV S x y v).then ρ fun _ S => .fl .next ρ S
  | .expr e, ρ, S => (evE e ρ S).then ρ fun _ S => .fl .next ρ S
  | .ret e, ρ, S => (evE e ρ S).then ρ fun d S => .fl (.ret d) ρ S
  | .retN, ρ, S => .fl (.ret .non) ρ S
  | .ite c a b, ρ, S => (evE c ρ S).then ρ fun d S => match truthy S d with
    | some true => evB n a ρ S
    | some false => evB n b ρ S
    | none => .stuck
  | .for_ t it b, ρ, S => (evI it ρ S).then ρ fun w S => forLoop w t (evB n b) w.ds ρ S
  | .while_ c b, ρ, S => whileLoop (evE c) (evB n b) n ρ S
  | .brk, ρ, S => .fl .brk ρ S
  | .cont, ρ, S => .fl .cont ρ S
  | .pass, ρ, S => .fl .next ρ S
  | .raise c _, ρ, S => .exc c ρ S
  | .try_ b cs hs, ρ, S => match evB n b ρ S with
    | .exc c ρ' S' => match decide (c ∈ cs) with
      | true => handle hs c ρ' S'
      | false => .stuck
    | r => r
def evB (n : Nat) : B → Env → Store → RS
  | .nil, ρ, S => .fl .next ρ S
  | .cons s r, ρ, S => match evS n s ρ S with
    | .fl .next ρ' S' => evB n r ρ' S'
    | q => q
end
/-- a def's body at its arguments; m: the number of its names -/
def runB (n m : Nat) (b : B) (S : Store) (ds : List D) : R D := match evB n b (ds.map some ++ List.replicate (m - ds.length) none) S with
  | .fl .next _ S' => .ok .non S'
  | .fl (.ret d) _ S' => .ok d S'
  | .exc c _ S' => .exc c S'
  | _ => .stuck
end PX

/-! PX3: the machine's operators keep the plain ones. -/
namespace PX
open PySem L2

section
variable {K : PySem.W.Frag} {H : Hp} {bar io : List Addr} {S : Store}
/-- a new object that stays -/
theorem Ext.new {p : Addr} {o : HO} (hp : H p = none) : Ext H bar io (upd H p o) bar io := by
  refine ⟨⟨[], by simp, by simp⟩, fun _ h => .inl h, fun _ h => h, fun a u h _ => ?_, fun a h => ?_⟩
  · rw [upd_ne (ne_of_none h hp)]; exact h
  · by_cases e : a = p
    · subst e; rw [upd_same] at h; cases h
    · rw [upd_ne e] at h; exact h
theorem StRep.new {p : Addr} {o : HO} (st : StRep K H bar io S) (hp : H p = none) : StRep K (upd H p o) bar io S := by
  refine st.mono (Ext.new hp) (fun a ha => ?_) fun a ha => ?_
  · have := st.bal a (st.sub a ha)
    rw [upd_ne (show a ≠ p from fun e => by rw [e, hp] at this; exact this)]
  · have := st.bal a ha
    rw [upd_ne (show a ≠ p from fun e => by rw [e, hp] at this; exact this)]; exact this
theorem StRep.notBar {p : Addr} (st : StRep K H bar io S) (hp : H p = none) : p ∉ bar := fun h => by have := st.bal p h; rw [hp] at this; exact this
/-- a new cell -/
theorem Ext.cell {p : Addr} {o : HO} (hp : H p = none) : Ext H bar io (upd H p o) (p :: bar) (io ++ [p]) := by
  refine ⟨⟨[p], rfl, by simpa using hp⟩, fun q h => ?_, fun q h => List.mem_cons_of_mem _ h, fun a u h _ => ?_, fun a h => ?_⟩
  · rcases List.mem_cons.mp h with e | h
    · exact .inr (e ▸ hp)
    · exact .inl h
  · rw [upd_ne (ne_of_none h hp)]; exact h
  · by_cases e : a = p
    · subst e; rw [upd_same] at h; cases h
    · rw [upd_ne e] at h; exact h
theorem StRep.cell' {p : Addr} {o : HO} {c : Cell} (st : StRep K H bar io S) (hp : H p = none) (r : CellRep K (upd H p o) (p :: bar) (io ++ [p]) o c) : StRep K (upd H p o) (p :: bar) (io ++ [p]) (S ++ [c]) := by
  have x : Ext H bar io (upd H p o) (p :: bar) (io ++ [p]) := Ext.cell hp
  have nb := st.notBar hp
  refine ⟨by simp [st.len], ?_, fun a ha => ?_, fun a ha => ?_, fun n d hn => ?_⟩
  · refine List.nodup_append.mpr ⟨st.nd, List.nodup_cons.mpr ⟨by simp, List.nodup_nil⟩, fun a ha b hb e => ?_⟩
    have : b = p := by simpa using hb
    rw [e, this] at ha
    exact nb (st.sub p ha)
  · rcases List.mem_append.mp ha with h | h
    · exact List.mem_cons_of_mem _ (st.sub a h)
    · have : a = p := by simpa using h
      rw [this]; exact List.mem_cons_self
  · by_cases e : a = p
    · rw [e, upd_same]; exact r.mutb
    · rw [upd_ne e]
      rcases List.mem_cons.mp ha with h | h
      · exact absurd h e
      · exact st.bal a h
  · by_cases hl : n < S.length
    · rw [List.getElem?_append_left hl] at hn
      obtain ⟨a, u, e1, e2, q⟩ := st.cell n d hn
      refine ⟨a, u, ?_, ?_, q.mono x st.live⟩
      · rw [List.getElem?_append_left (by rw [← st.len]; exact hl)]; exact e1
      · rw [upd_ne (ne_of_none e2 hp)]; exact e2
    · have hl' : S.length ≤ n := Nat.le_of_not_lt hl
      rw [List.getElem?_append_right hl'] at hn
      have : n - S.length = 0 := by
        by_cases z : n - S.length = 0
        · exact z
        · rw [List.getElem?_eq_none (by simp; omega)] at hn; cases hn
      rw [this] at hn
      have e : c = d := by simpa using hn
      subst e
      refine ⟨p, o, ?_, upd_same, r⟩
      rw [List.getElem?_append_right (by rw [← st.len]; exact hl'), ← st.len, this]
      rfl
/-- a cell is written -/
theorem Ext.wr {a : Addr} {o : HO} (ha : a ∈ io) : Ext H bar io (upd H a o) bar io := by
  refine ⟨⟨[], by simp, by simp⟩, fun _ h => .inl h, fun _ h => h, fun b u h hb => ?_, fun b h => ?_⟩
  · rw [upd_ne (show b ≠ a from fun e => hb (e ▸ ha))]; exact h
  · by_cases e : b = a
    · subst e; rw [upd_same] at h; cases h
    · rw [upd_ne e] at h; exact h
theorem StRep.wr {n : Nat} {a : Addr} {o : HO} {c : Cell} (st : StRep K H bar io S) (ha : io[n]? = some a) (r : CellRep K (upd H a o) bar io o c) : StRep K (upd H a o) bar io (S.set n c) := by
  have hm : a ∈ io := List.mem_of_getElem? ha
  have x : Ext H bar io (upd H a o) bar io := Ext.wr hm
  refine ⟨by simp [st.len], st.nd, st.sub, fun b hb => ?_, fun m d hd => ?_⟩
  · by_cases e : b = a
    · rw [e, upd_same]; exact r.mutb
    · rw [upd_ne e]; exact st.bal b hb
  · by_cases e : n = m
    · subst e
      have hl : n < S.length := by rw [st.len]; exact (List.getElem?_eq_some_iff.mp ha).1
      rw [List.getElem?_set_self hl] at hd
      cases hd
      exact ⟨a, o, ha, upd_same, r⟩
    · rw [List.getElem?_set_ne e] at hd
      obtain ⟨b, u, e1, e2, q⟩ := st.cell m d hd
      refine ⟨b, u, e1, ?_, q.mono x st.live⟩
      rw [upd_ne fun z => ?_]
      · exact e2
      · subst z
        obtain ⟨h1, g1⟩ := List.getElem?_eq_some_iff.mp ha
        obtain ⟨h2, g2⟩ := List.getElem?_eq_some_iff.mp e1
        exact e ((List.getElem_inj st.nd).mp (g1.trans g2.symm))

/-- a list that is read -/
theorem asLst_rep {x : V} {d : D} {xs : List D} (st : StRep K H bar io S) (r : Rep K H bar io x d) (h : asLst S d = some xs) : ∃ a vs, x = .ref a ∧ SqL K H a vs ∧ vs.length ≤ sizeLine ∧ Reps K H bar io vs xs := by
  cases r with
  | lst e b z r => cases h; exact ⟨_, _, rfl, .inl (.inl e), z, r⟩
  | scr e z r => cases h; exact ⟨_, _, rfl, .inl (.inr ⟨_, e⟩), z, r⟩
  | scrK e c dd d z v r => cases h; exact ⟨_, _, rfl, .inr ⟨_, _, _, e, c, dd, d, z, v⟩, by rw [v.length]; simpa using z, r⟩
  | @adr a n e =>
    have h : (match S[n]? with | some (.lst xs) => some xs | _ => none) = some xs := h
    cases hc : S[n]? with
    | none => rw [hc] at h; cases h
    | some c =>
      rw [hc] at h
      cases c with
      | dic _ => cases h
      | lst ys =>
        cases h
        obtain ⟨a', o, e1, e2, q⟩ := st.cell n _ hc
        rw [e] at e1; cases e1
        cases q with
        | lst z q => exact ⟨_, _, rfl, .inl (.inl e2), z, q⟩
  | _ => cases h
theorem asLstW_rep {x : V} {d : D} {xs : List D} (st : StRep K H bar io S) (r : Rep K H bar io x d) (h : asLstW S d = some xs) : ∃ a vs, x = .ref a ∧ H a = some (.lst vs) ∧ vs.length ≤ sizeLine ∧ Reps K H bar io vs xs := by
  cases r with
  | lst e b z r => cases h; exact ⟨_, _, rfl, e, z, r⟩
  | @adr a n e =>
    have h : (match S[n]? with | some (.lst xs) => some xs | _ => none) = some xs := h
    cases hc : S[n]? with
    | none => rw [hc] at h; cases h
    | some c =>
      rw [hc] at h
      cases c with
      | dic _ => cases h
      | lst ys =>
        cases h
        obtain ⟨a', o, e1, e2, q⟩ := st.cell n _ hc
        rw [e] at e1; cases e1
        cases q with
        | lst z q => exact ⟨_, _, rfl, e2, z, q⟩
  | _ => cases h
theorem asDic_rep {x : V} {d : D} {xs : List (Key × D)} (st : StRep K H bar io S) (r : Rep K H bar io x d) (h : asDic S d = some xs) : ∃ a vs, x = .ref a ∧ H a = some (.dK vs) ∧ vs.length ≤ sizeLine ∧ RepK K H bar io vs xs := by
  cases r with
  | @adr a n e =>
    have h : (match S[n]? with | some (.dic xs) => some xs | _ => none) = some xs := h
    cases hc : S[n]? with
    | none => rw [hc] at h; cases h
    | some c =>
      rw [hc] at h
      cases c with
      | lst _ => cases h
      | dic ys =>
        cases h
        obtain ⟨a', o, e1, e2, q⟩ := st.cell n _ hc
        rw [e] at e1; cases e1
        cases q with
        | dic z q => exact ⟨_, _, rfl, e2, z, q⟩
  | _ => cases h
theorem asKey_rep {x : V} {d : D} {k : Key} (r : Rep K H bar io x d) (h : asKey d = some k) : x = kV k := by
  cases r <;> simp [asKey] at h <;> subst h <;> rfl
theorem keyD_rep {x : V} {k : Key} (r : Rep K H bar io x (keyD k)) : x = kV k := by
  cases k <;> (cases r; rfl)
/-- entries -/
theorem RepK.val (k : Key) : ∀ {vs : List (Key × V)} {ds : List (Key × D)}, RepK K H bar io vs ds → (valV vs k).isSome = (valD ds k).isSome ∧ ∀ d, valD ds k = some d → ∃ v, valV vs k = some v ∧ Rep K H bar io v d
  | _, _, .nil => ⟨rfl, fun d h => by simp [valD] at h⟩
  | _, _, .cons (k := k') (v := v) (d := d) r t => by
    by_cases e : k' = k
    · rw [valV_pos (p := (k', v)) e]
      have : ∀ l : List (Key × D), valD ((k', d) :: l) k = some d := fun l => by simp [valD, List.find?_cons, e]
      rw [this]
      exact ⟨rfl, fun d' h => by cases h; exact ⟨v, rfl, r⟩⟩
    · rw [valV_neg (p := (k', v)) e]
      have : ∀ l : List (Key × D), valD ((k', d) :: l) k = valD l k := fun l => by simp [valD, List.find?_cons, e]
      rw [this]
      exact RepK.val k t
theorem RepK.any (k : Key) : ∀ {vs : List (Key × V)} {ds : List (Key × D)}, RepK K H bar io vs ds → (vs.any fun kv => decide (kv.1 = k)) = ds.any fun kv => decide (kv.1 = k)
  | _, _, .nil => rfl
  | _, _, .cons r t => by rw [List.any_cons, List.any_cons, RepK.any k t]
theorem RepK.repl (k : Key) {v : V} {d : D} (r : Rep K H bar io v d) : ∀ {vs : List (Key × V)} {ds : List (Key × D)}, RepK K H bar io vs ds → RepK K H bar io (vs.map fun kv => if kv.1 = k then (kv.1, v) else kv) (ds.map fun kv => if kv.1 = k then (kv.1, d) else kv)
  | _, _, .nil => .nil
  | _, _, .cons (k := k') r' t => by
    rw [List.map_cons, List.map_cons]
    by_cases e : k' = k
    · simp only [e, if_true]
      exact .cons r (RepK.repl k r t)
    · simp only [e, if_false]
      exact .cons r' (RepK.repl k r t)
theorem RepK.snoc {k : Key} {v : V} {d : D} (r : Rep K H bar io v d) : ∀ {vs : List (Key × V)} {ds : List (Key × D)}, RepK K H bar io vs ds → RepK K H bar io (vs ++ [(k, v)]) (ds ++ [(k, d)])
  | _, _, .nil => .cons r .nil
  | _, _, .cons r' t => .cons r' (RepK.snoc r t)
theorem RepK.put (k : Key) {v : V} {d : D} (r : Rep K H bar io v d) {vs : List (Key × V)} {ds : List (Key × D)} (h : RepK K H bar io vs ds) : RepK K H bar io (putK vs k v) (putD ds k d) := by
  unfold putK putD
  rw [h.any k]
  split
  · exact h.repl k r
  · exact h.snoc r
/-- a tuple -/
theorem tup_rep {x : V} {xs : List D} (r : Rep K H bar io x (.tup xs)) : ∃ a vs, x = .ref a ∧ SqT K H a vs ∧ vs.length ≤ sizeLine ∧ Reps K H bar io vs xs := by
  cases r with
  | tup h z r => exact ⟨_, _, rfl, .inl (.inl h), z, r⟩
theorem tup_repH {x : V} {xs : List D} (r : Rep K H bar io x (.tup xs)) : ∃ a vs, x = .ref a ∧ H a = some (.tup vs) ∧ vs.length ≤ sizeLine ∧ Reps K H bar io vs xs := by
  cases r with
  | tup h z r => exact ⟨_, _, rfl, h, z, r⟩
theorem kup_rep {x : V} {xs : List D} (r : Rep K H bar io x (.kup xs)) : ∃ a vs, x = .ref a ∧ SqT K H a vs ∧ vs.length ≤ sizeLine ∧ Reps K H bar io vs xs := by
  cases r with
  | kup h c d z v r => exact ⟨_, _, rfl, .inr ⟨_, _, _, h, c, d, z, v⟩, by rw [v.length]; simpa using z, r⟩

/-! ### == -/
mutual
def D.py : D → PyData
  | .non => .none
  | .bl b => .bool b
  | .int i => .int i
  | .str s => .str s
  | .tup xs => .tuple (D.pys xs)
  | .lst xs => .list (D.pys xs)
  | .scr xs => .list (D.pys xs)
  | .kup xs => .tuple (D.pys xs)
  | .adr _ => .none
def D.pys : List D → List PyData
  | [] => []
  | x :: xs => D.py x :: D.pys xs
end
end
mutual
theorem eqv_py : ∀ a b : D, a.free = true → b.free = true → PyData.eqv a.py b.py = D.eqv a b
  | .non, b, _, hb => by cases b <;> simp_all [D.py, PyData.eqv, D.eqv, D.free]
  | .bl x, b, _, hb => by cases b <;> simp_all [D.py, PyData.eqv, D.eqv, D.free]
  | .int x, b, _, hb => by cases b <;> simp_all [D.py, PyData.eqv, D.eqv, D.free]
  | .str x, b, _, hb => by cases b <;> simp_all [D.py, PyData.eqv, D.eqv, D.free]
  | .tup xs, b, ha, hb => by
    cases b <;> first
      | (simp only [D.py, PyData.eqv, D.eqv, D.free] at *; exact eqvs_py xs _ ha hb)
      | simp_all [D.py, PyData.eqv, D.eqv, D.free]
  | .lst xs, b, ha, hb => by
    cases b <;> first
      | (simp only [D.py, PyData.eqv, D.eqv, D.free] at *; exact eqvs_py xs _ ha hb)
      | simp_all [D.py, PyData.eqv, D.eqv, D.free]
  | .scr xs, b, ha, hb => by
    cases b <;> first
      | (simp only [D.py, PyData.eqv, D.eqv, D.free] at *; exact eqvs_py xs _ ha hb)
      | simp_all [D.py, PyData.eqv, D.eqv, D.free]
  | .kup xs, b, ha, hb => by
    cases b <;> first
      | (simp only [D.py, PyData.eqv, D.eqv, D.free] at *; exact eqvs_py xs _ ha hb)
      | simp_all [D.py, PyData.eqv, D.eqv, D.free]
  | .adr _, _, ha, _ => by simp [D.free] at ha
theorem eqvs_py : ∀ a b : List D, D.frees a = true → D.frees b = true → PyData.eqvAll (D.pys a) (D.pys b) = D.eqvs a b
  | [], b, _, _ => by cases b <;> simp [D.pys, PyData.eqvAll, D.eqvs]
  | x :: xs, b, ha, hb => by
    cases b with
    | nil => simp [D.pys, PyData.eqvAll, D.eqvs]
    | cons y ys =>
      simp only [D.frees, Bool.and_eq_true] at ha hb
      simp only [D.pys, PyData.eqvAll, D.eqvs]
      rw [eqv_py x y ha.1 hb.1, eqvs_py xs ys ha.2 hb.2]
end
mutual
theorem depth_py : ∀ a : D, a.free = true → PyData.depth a.py = a.depth
  | .non, _ => by simp [D.py, PyData.depth, D.depth]
  | .bl _, _ => by simp [D.py, PyData.depth, D.depth]
  | .int _, _ => by simp [D.py, PyData.depth, D.depth]
  | .str _, _ => by simp [D.py, PyData.depth, D.depth]
  | .tup xs, h => by simp only [D.py, PyData.depth, D.depth]; rw [depths_py xs (by simpa [D.free] using h)]
  | .lst xs, h => by simp only [D.py, PyData.depth, D.depth]; rw [depths_py xs (by simpa [D.free] using h)]
  | .scr xs, h => by simp only [D.py, PyData.depth, D.depth]; rw [depths_py xs (by simpa [D.free] using h)]
  | .kup xs, h => by simp only [D.py, PyData.depth, D.depth]; rw [depths_py xs (by simpa [D.free] using h)]
  | .adr _, h => by simp [D.free] at h
theorem depths_py : ∀ a : List D, D.frees a = true → PyData.depthAll (D.pys a) = D.depths a
  | [], _ => by simp [D.pys, PyData.depthAll, D.depths]
  | x :: xs, h => by
    simp only [D.frees, Bool.and_eq_true] at h
    simp only [D.pys, PyData.depthAll, D.depths]
    rw [depth_py x h.1, depths_py xs h.2]
end
section
variable {K : PySem.W.Frag} {H : Hp} {bar io : List Addr} {S : Store}
mutual
theorem Rep.dp : ∀ {v : V} {d : D}, d.free = true → Rep K H bar io v d → Dp K H v d.py ∧ d.py.canLay0 = true
  | _, _, _, .non => ⟨.non, by simp [D.py, PyData.canLay0]⟩
  | _, _, _, .bl b => ⟨.bl b, by simp [D.py, PyData.canLay0]⟩
  | _, _, _, .int i => ⟨.int i, by simp [D.py, PyData.canLay0]⟩
  | _, _, _, .str s _ k => ⟨.str s, by simp [D.py, PyData.canLay0, k]⟩
  | _, _, f, .tup h z r => by
    obtain ⟨a, b⟩ := Reps.dp (by simpa [D.free] using f) r
    exact ⟨.tup (.inl (.inl h)) a, by simpa [D.py, PyData.canLay0] using b⟩
  | _, _, f, .kup h c d z v r => by
    obtain ⟨a, b⟩ := Reps.dp (by simpa [D.free] using f) r
    exact ⟨.tup (.inr ⟨_, _, _, h, c, d, z, v⟩) a, by simpa [D.py, PyData.canLay0] using b⟩
  | _, _, f, .lst h b z r => by
    obtain ⟨a, b⟩ := Reps.dp (by simpa [D.free] using f) r
    exact ⟨.lst (.inl (.inl h)) a, by simpa [D.py, PyData.canLay0] using b⟩
  | _, _, f, .scr h z r => by
    obtain ⟨a, b⟩ := Reps.dp (by simpa [D.free] using f) r
    exact ⟨.lst (.inl (.inr ⟨_, h⟩)) a, by simpa [D.py, PyData.canLay0] using b⟩
  | _, _, f, .scrK h c dd d z v r => by
    obtain ⟨a, b⟩ := Reps.dp (by simpa [D.free] using f) r
    exact ⟨.lst (.inr ⟨_, _, _, h, c, dd, d, z, v⟩) a, by simpa [D.py, PyData.canLay0] using b⟩
  | _, _, f, .adr h => by simp [D.free] at f
theorem Reps.dp : ∀ {vs : List V} {ds : List D}, D.frees ds = true → Reps K H bar io vs ds → DpAll K H vs (D.pys ds) ∧ PyData.canLayAll0 (D.pys ds) = true
  | _, _, _, .nil => ⟨.nil, by simp [D.pys, PyData.canLayAll0]⟩
  | _, _, f, .cons r t => by
    simp only [D.frees, Bool.and_eq_true] at f
    obtain ⟨a, b⟩ := Rep.dp f.1 r
    obtain ⟨c, d⟩ := Reps.dp f.2 t
    exact ⟨.cons a c, by simp [D.pys, PyData.canLayAll0, b, d]⟩
end
theorem snap_rep {x : V} {d d' : D} (st : StRep K H bar io S) (r : Rep K H bar io x d) (h : snap S d = some d') : d'.free = true ∧ Dp K H x d'.py ∧ d'.py.canLay0 = true := by
  have easy : ∀ {d : D}, Rep K H bar io x d → (if D.free d = true then some d else none) = some d' → d'.free = true ∧ Dp K H x d'.py ∧ d'.py.canLay0 = true := fun {d} r h => by
    split at h
    · rename_i f
      cases h
      obtain ⟨a, b⟩ := r.dp f
      exact ⟨f, a, b⟩
    · cases h
  cases r with
  | @adr a n e =>
    have h : (match S[n]? with | some (.lst xs) => if D.frees xs = true then some (D.lst xs) else none | _ => none) = some d' := h
    cases hc : S[n]? with
    | none => rw [hc] at h; cases h
    | some c =>
      rw [hc] at h
      cases c with
      | dic _ => cases h
      | lst ys =>
        have h : (if D.frees ys = true then some (D.lst ys) else none) = some d' := h
        split at h
        · rename_i f
          cases h
          obtain ⟨a', o, e1, e2, q⟩ := st.cell n _ hc
          rw [e] at e1; cases e1
          cases q with
          | lst z q =>
            obtain ⟨a1, a2⟩ := q.dp f
            exact ⟨by simpa [D.free] using f, .lst (.inl (.inl e2)) a1, by simpa [D.py, PyData.canLay0] using a2⟩
        · cases h
  | non => exact easy .non h
  | bl b => exact easy (.bl b) h
  | int i => exact easy (.int i) h
  | str s z k => exact easy (.str s z k) h
  | tup a b c => exact easy (.tup a b c) h
  | lst a b c d => exact easy (.lst a b c d) h
  | scr a b c => exact easy (.scr a b c) h
  | scrK a b c d e f g => exact easy (.scrK a b c d e f g) h
  | kup a b c d e f => exact easy (.kup a b c d e f) h
end

/-! ### operators as rules -/
/-- f of two values; it may lay new things -/
def rOp (K : PySem.W.Frag) (f : Store → D → D → R D) : R2 := fun x y H Q => ∃ bar io S dx dy d S', StRep K H bar io S ∧ Rep K H bar io x dx ∧ Rep K H bar io y dy ∧ f S dx dy = .ok d S' ∧
  ∀ v H' bar' io', Ext H bar io H' bar' io' → StRep K H' bar' io' S' → Rep K H' bar' io' v d → Q v H'
theorem guardR_ok {α : Type} {b : Bool} {r : R α} {d : α} {S : Store} (h : guardR b r = .ok d S) : b = true ∧ r = .ok d S := by
  cases b
  · cases h
  · exact ⟨rfl, h⟩
theorem small64_iff {i : Int} (h : small64 i = true) : -(2 ^ 64) < i ∧ i < 2 ^ 64 := by
  simpa [small64] using h
theorem powOk_iff {i j : Int} (h : powOk i j = true) : CPow i j := by
  simp only [powOk, Bool.and_eq_true, decide_eq_true_eq] at h
  exact ⟨h.1.1, h.1.2, h.2⟩
section
variable {X : Cx}
def opOf : BO → Operator
  | .add => .Add | .sub => .Sub | .mul => .Mult | .fdiv => .FloorDiv | .mod => .Mod | .pow => .Pow
  | .and => .BitAnd | .or => .BitOr | .xor => .BitXor | .shl => .LShift | .shr => .RShift
theorem op_int (o : BO) {i j : Int} {d : D} {S S' : Store} {H : Hp} {Q : VK} {pins : List (Addr × Obj)} {s : Shared} {σ : St} {v u : Value} (I : Inv X pins σ H s) (rx : RelV (.int i) v) (ry : RelV (.int j) u)
    (h : binV o S (.int i) (.int j) = .ok d S') (q : ∀ k, d = .int k → S' = S → Q (.int k) H) : wpAny (model X.prog X.w) X.A (binaryOp (opOf o) v u) (EP X pins σ Q) X.xe s := by
  cases o
  case add => cases h; exact op_add pins s σ H _ _ v u Q I rx ry ⟨i, j, rfl, rfl, q _ rfl rfl⟩
  case sub => cases h; exact op_sub pins s σ H _ _ v u Q I rx ry ⟨i, j, rfl, rfl, q _ rfl rfl⟩
  case mul =>
    obtain ⟨g, h⟩ := guardR_ok h
    cases h
    simp only [mulOk, Bool.or_eq_true, decide_eq_true_eq] at g
    rcases g with (g | g) | g
    · exact op_mul pins s σ H _ _ v u Q I rx ry ⟨i, j, rfl, rfl, .inl (small64_iff g), q _ rfl rfl⟩
    · exact op_mul pins s σ H _ _ v u Q I rx ry ⟨i, j, rfl, rfl, .inr (small64_iff g), q _ rfl rfl⟩
    · exact op_mulW pins s σ H _ _ v u Q I rx ry ⟨i, j, rfl, rfl, g, q _ rfl rfl⟩
  case fdiv =>
    obtain ⟨g, h⟩ := guardR_ok h
    cases h
    simp only [divOk, Bool.and_eq_true, decide_eq_true_eq] at g
    exact op_fdivW pins s σ H _ _ v u Q I rx ry ⟨i, j, rfl, rfl, g, q _ rfl rfl⟩
  case mod =>
    obtain ⟨g, h⟩ := guardR_ok h
    cases h
    exact op_mod pins s σ H _ _ v u Q I rx ry ⟨i, j, rfl, rfl, of_decide_eq_true g, q _ rfl rfl⟩
  case pow =>
    obtain ⟨g, h⟩ := guardR_ok h
    cases h
    exact op_pow pins s σ H _ _ v u Q I rx ry ⟨i, j, rfl, rfl, powOk_iff g, q _ rfl rfl⟩
  case and => cases h; exact op_and pins s σ H _ _ v u Q I rx ry ⟨i, j, rfl, rfl, q _ rfl rfl⟩
  case or => cases h; exact op_or pins s σ H _ _ v u Q I rx ry ⟨i, j, rfl, rfl, q _ rfl rfl⟩
  case xor => cases h; exact op_xor pins s σ H _ _ v u Q I rx ry ⟨i, j, rfl, rfl, q _ rfl rfl⟩
  case shl =>
    obtain ⟨g, h⟩ := guardR_ok h
    cases h
    exact op_shl pins s σ H _ _ v u Q I rx ry ⟨i, j, rfl, rfl, powOk_iff g, q _ rfl rfl⟩
  case shr =>
    obtain ⟨g, h⟩ := guardR_ok h
    cases h
    exact op_shr pins s σ H _ _ v u Q I rx ry ⟨i, j, rfl, rfl, of_decide_eq_true g, q _ rfl rfl⟩
end
end PX

/-! PX4: operators, comparisons, items, slices, built-ins, methods as rules of the layer. -/
namespace PX
open PySem L2
theorem len_rep {α : Type} (xs : List α) : ∀ k : Nat, (List.replicate k xs).flatten.length = xs.length * k
  | 0 => by simp
  | k + 1 => by rw [List.replicate_succ, List.flatten_cons, List.length_append, len_rep xs k, Nat.mul_succ, Nat.add_comm]
section
variable {X : Cx}
theorem op_bin (o : BO) : OpR X (binaryOp (opOf o)) (rOp X.K (binV o)) := by
  intro pins s σ H x y v u Q I rx ry h
  obtain ⟨bar, io, S, dx, dy, d, S', st, r1, r2, h, q⟩ := h
  have lay : ∀ {f : V → Hp → Prop}, True := fun {_} => trivial
  unfold binV at h
  split at h
  · rename_i i j
    cases r1; cases r2
    exact op_int (S := S) o I rx ry (S' := S') (d := d) h fun k e eS => by subst e; subst eS; exact q _ _ _ _ Ext.refl st (.int k)
  · rename_i a b
    cases r1 with
    | str _ za ka =>
    cases r2 with
    | str _ zb kb =>
    split at h
    · obtain ⟨g, h⟩ := guardR_ok h
      cases h
      have g := of_decide_eq_true g
      refine op_add_str pins s σ H _ _ v u Q I rx ry ⟨a, b, rfl, rfl, g, q _ _ _ _ Ext.refl st (.str _ ?_ ?_)⟩
      · rw [PySem.Str.length_append]; exact g
      · simp only [PyData.strOk] at ka kb ⊢
        show (a.cps ++ b.cps).all _ = true
        rw [Array.all_append, ka, kb]; rfl
    · cases h
  · rename_i a b
    obtain ⟨p1, vs1, rfl, h1, z1, q1⟩ := tup_rep r1
    obtain ⟨p2, vs2, rfl, h2, z2, q2⟩ := tup_rep r2
    split at h
    · obtain ⟨g, h⟩ := guardR_ok h
      cases h
      have g := of_decide_eq_true g
      rw [← q1.length, ← q2.length] at g
      refine op_catA pins s σ H _ _ v u Q I rx ry ⟨p1, p2, vs1, vs2, rfl, rfl, h1, h2, g, fun e => ?_, fun _ e => ?_, fun _ _ p hp => ?_⟩
      · subst e; cases q1; exact q _ _ _ _ Ext.refl st (by simpa using r2)
      · subst e; cases q2; exact q _ _ _ _ Ext.refl st (by simpa using r1)
      · have x1 : Ext H bar io (upd H p (.tup (vs1 ++ vs2))) bar io := Ext.new hp
        exact q _ _ _ _ x1 (st.new hp) (.tup upd_same (by rw [List.length_append]; exact g) ((q1.append q2).mono x1 st.live))
    · cases h
  · rename_i k _
    cases r2
    split at h
    · split at h
      · rename_i a ha
        obtain ⟨g, h⟩ := guardR_ok h
        cases h
        simp only [Bool.and_eq_true, decide_eq_true_eq] at g
        obtain ⟨p1, vs1, rfl, h1, z1, q1⟩ := asLstW_rep st r1 ha
        rw [← q1.length] at g
        refine op_rep pins s σ H _ _ v u Q I rx ry ⟨p1, k, vs1, rfl, rfl, h1, g.1.1, g.1.2, g.2, fun p hp => ?_⟩
        have x1 : Ext H bar io (upd H p (.lst (List.replicate k.toNat vs1).flatten)) bar io := Ext.new hp
        have rr := (q1.rep k.toNat).mono x1 st.live
        refine q _ _ _ _ x1 (st.new hp) (.lst upd_same (st.notBar hp) ?_ rr)
        rw [len_rep]; exact g.2
      · cases h
    · cases h
  · split at h
    · split at h
      · rename_i a b ha hb
        obtain ⟨g, h⟩ := guardR_ok h
        cases h
        have g := of_decide_eq_true g
        obtain ⟨p1, vs1, rfl, h1, z1, q1⟩ := asLstW_rep st r1 ha
        obtain ⟨p2, vs2, rfl, h2, z2, q2⟩ := asLstW_rep st r2 hb
        rw [← q1.length, ← q2.length] at g
        refine op_cat pins s σ H _ _ v u Q I rx ry ⟨p1, p2, vs1, vs2, rfl, rfl, h1, h2, g, fun p hp => ?_⟩
        have x1 : Ext H bar io (upd H p (.lst (vs1 ++ vs2))) bar io := Ext.new hp
        exact q _ _ _ _ x1 (st.new hp) (.lst upd_same (st.notBar hp) (by rw [List.length_append]; exact g) ((q1.append q2).mono x1 st.live))
      · cases h
    · cases h

/-! ### comparisons -/
theorem op_eq2 (hu : X.A.units + 64 < cLine) : OpR X (compareOp .Eq) (rOp X.K (eqR false)) := by
  intro pins s σ H x y v u Q I rx ry h
  obtain ⟨bar, io, S, dx, dy, d, S', st, r1, r2, h, q⟩ := h
  unfold eqR at h
  split at h
  · rename_i a b ha hb
    obtain ⟨g, h⟩ := guardR_ok h
    cases h
    simp only [Bool.and_eq_true, decide_eq_true_eq] at g
    obtain ⟨f1, d1, c1⟩ := snap_rep st r1 ha
    obtain ⟨f2, d2, c2⟩ := snap_rep st r2 hb
    refine op_eqD hu pins s σ H _ _ v u Q I rx ry ⟨a.py, b.py, d1, d2, ?_, ?_, ?_⟩
    · simp only [SeqAt.shaped, c1, Bool.true_and, decide_eq_true_eq]; rw [depth_py a f1]; exact g.1
    · simp only [SeqAt.shaped, c2, Bool.true_and, decide_eq_true_eq]; rw [depth_py b f2]; exact g.2
    · rw [eqv_py a b f1 f2]; exact q _ _ _ _ Ext.refl st (.bl _)
  · cases h
theorem op_ne2 (hu : X.A.units + 64 < cLine) : OpR X (compareOp .NotEq) (rOp X.K (eqR true)) := by
  intro pins s σ H x y v u Q I rx ry h
  obtain ⟨bar, io, S, dx, dy, d, S', st, r1, r2, h, q⟩ := h
  unfold eqR at h
  split at h
  · rename_i a b ha hb
    obtain ⟨g, h⟩ := guardR_ok h
    cases h
    simp only [Bool.and_eq_true, decide_eq_true_eq] at g
    obtain ⟨f1, d1, c1⟩ := snap_rep st r1 ha
    obtain ⟨f2, d2, c2⟩ := snap_rep st r2 hb
    refine op_neD hu pins s σ H _ _ v u Q I rx ry ⟨a.py, b.py, d1, d2, ?_, ?_, ?_⟩
    · simp only [SeqAt.shaped, c1, Bool.true_and, decide_eq_true_eq]; rw [depth_py a f1]; exact g.1
    · simp only [SeqAt.shaped, c2, Bool.true_and, decide_eq_true_eq]; rw [depth_py b f2]; exact g.2
    · rw [eqv_py a b f1 f2]; exact q _ _ _ _ Ext.refl st (.bl _)
  · cases h
section
variable {K : PySem.W.Frag} {H : Hp} {bar io : List Addr} {S : Store}
theorem flat_rep {v : V} {d : D} (r : Rep K H bar io v d) (f : d.flat = true) : flatV v = true := by
  cases r <;> first | rfl | simp [D.flat] at f
theorem flats_rep : ∀ {vs : List V} {ds : List D}, Reps K H bar io vs ds → ds.all D.flat = true → vs.all flatV = true
  | _, _, .nil, _ => rfl
  | _, _, .cons r t, f => by
    simp only [List.all_cons, Bool.and_eq_true] at f ⊢
    exact ⟨flat_rep r f.1, flats_rep t f.2⟩
theorem eqV_rep {v u : V} {d e : D} (r : Rep K H bar io v d) (q : Rep K H bar io u e) (f : d.flat = true) (g : e.flat = true) : eqV v u = D.eqv d e := by
  cases r <;> cases q <;> first
    | (simp [D.flat] at f; done)
    | (simp [D.flat] at g; done)
    | rfl
    | (simp [eqV, D.eqv, b2i]; done)
    | (simp only [eqV, D.eqv]; rfl)
theorem inV_rep {v : V} {d : D} (r : Rep K H bar io v d) (f : d.flat = true) : ∀ {vs : List V} {ds : List D}, Reps K H bar io vs ds → ds.all D.flat = true → inV v vs = ds.any fun z => D.eqv z d
  | _, _, .nil, _ => rfl
  | _, _, .cons r' t, g => by
    simp only [List.all_cons, Bool.and_eq_true] at g
    have ih := inV_rep r f t g.2
    unfold inV at ih ⊢
    rw [List.any_cons, List.any_cons, ih, eqV_rep r' r g.1 f]
theorem asLst_none_tup {xs : List D} : asLst S (.tup xs) = none := rfl
end
theorem op_in2 (hu : X.A.units + 1 < cLine) : OpR X (compareOp .In) (rOp X.K (inR false)) := by
  intro pins s σ H x y v u Q I rx ry h
  obtain ⟨bar, io, S, dx, dy, d, S', st, r1, r2, h, q⟩ := h
  unfold inR at h
  split at h
  · rename_i ds
    obtain ⟨g, h⟩ := guardR_ok h
    cases h
    simp only [Bool.and_eq_true] at g
    obtain ⟨p1, vs1, rfl, h1, z1, q1⟩ := kup_rep r2
    refine op_in_seq pins s σ H _ _ v u Q I rx ry ⟨p1, vs1, rfl, .inr h1, flat_rep r1 g.1, flats_rep q1 g.2, ?_⟩
    rw [inV_rep r1 g.1 q1 g.2]
    exact q _ _ _ _ Ext.refl st (.bl _)
  · rename_i ds
    obtain ⟨g, h⟩ := guardR_ok h
    cases h
    simp only [Bool.and_eq_true] at g
    obtain ⟨p1, vs1, rfl, h1, z1, q1⟩ := tup_rep r2
    refine op_in_seq pins s σ H _ _ v u Q I rx ry ⟨p1, vs1, rfl, .inr h1, flat_rep r1 g.1, flats_rep q1 g.2, ?_⟩
    rw [inV_rep r1 g.1 q1 g.2]
    exact q _ _ _ _ Ext.refl st (.bl _)
  · split at h
    · rename_i ds hd
      obtain ⟨g, h⟩ := guardR_ok h
      cases h
      simp only [Bool.and_eq_true] at g
      obtain ⟨p1, vs1, rfl, h1, z1, q1⟩ := asLst_rep st r2 hd
      refine op_in_seq pins s σ H _ _ v u Q I rx ry ⟨p1, vs1, rfl, .inl h1, flat_rep r1 g.1, flats_rep q1 g.2, ?_⟩
      rw [inV_rep r1 g.1 q1 g.2]
      exact q _ _ _ _ Ext.refl st (.bl _)
    · split at h
      · rename_i kvs k hk he
        cases h
        obtain ⟨p1, vs1, rfl, h1, z1, q1⟩ := asDic_rep st r2 hk
        have ek := asKey_rep r1 he
        subst ek
        cases ry
        refine d_in hu I (DGet.k (k := k) h1) rx fun s' I' => ⟨.bl _, H, I', rfl, ?_⟩
        rw [(q1.val k).1]
        exact q _ _ _ _ Ext.refl st (.bl _)
      · cases h
theorem op_notIn2 (hu : X.A.units + 1 < cLine) : OpR X (compareOp .NotIn) (rOp X.K (inR true)) := by
  intro pins s σ H x y v u Q I rx ry h
  obtain ⟨bar, io, S, dx, dy, d, S', st, r1, r2, h, q⟩ := h
  unfold inR at h
  split at h
  · rename_i ds
    obtain ⟨g, h⟩ := guardR_ok h
    cases h
    simp only [Bool.and_eq_true] at g
    obtain ⟨p1, vs1, rfl, h1, z1, q1⟩ := kup_rep r2
    refine op_notIn_seq pins s σ H _ _ v u Q I rx ry ⟨p1, vs1, rfl, .inr h1, flat_rep r1 g.1, flats_rep q1 g.2, ?_⟩
    rw [inV_rep r1 g.1 q1 g.2]
    exact q _ _ _ _ Ext.refl st (.bl _)
  · rename_i ds
    obtain ⟨g, h⟩ := guardR_ok h
    cases h
    simp only [Bool.and_eq_true] at g
    obtain ⟨p1, vs1, rfl, h1, z1, q1⟩ := tup_rep r2
    refine op_notIn_seq pins s σ H _ _ v u Q I rx ry ⟨p1, vs1, rfl, .inr h1, flat_rep r1 g.1, flats_rep q1 g.2, ?_⟩
    rw [inV_rep r1 g.1 q1 g.2]
    exact q _ _ _ _ Ext.refl st (.bl _)
  · split at h
    · rename_i ds hd
      obtain ⟨g, h⟩ := guardR_ok h
      cases h
      simp only [Bool.and_eq_true] at g
      obtain ⟨p1, vs1, rfl, h1, z1, q1⟩ := asLst_rep st r2 hd
      refine op_notIn_seq pins s σ H _ _ v u Q I rx ry ⟨p1, vs1, rfl, .inl h1, flat_rep r1 g.1, flats_rep q1 g.2, ?_⟩
      rw [inV_rep r1 g.1 q1 g.2]
      exact q _ _ _ _ Ext.refl st (.bl _)
    · split at h
      · rename_i kvs k hk he
        cases h
        obtain ⟨p1, vs1, rfl, h1, z1, q1⟩ := asDic_rep st r2 hk
        have ek := asKey_rep r1 he
        subst ek
        cases ry
        refine d_notIn hu I (DGet.k (k := k) h1) rx fun s' I' => ⟨.bl _, H, I', rfl, ?_⟩
        rw [(q1.val k).1]
        exact q _ _ _ _ Ext.refl st (.bl _)
      · cases h
theorem non_rep {K : PySem.W.Frag} {H : Hp} {bar io : List Addr} {v : V} {d : D} (r : Rep K H bar io v d) : decide (v = .non) = decide (d = .non) := by
  cases r <;> first | rfl | simp
theorem op_is2 : OpR X (compareOp .Is) (rOp X.K (isR false)) := by
  intro pins s σ H x y v u Q I rx ry h
  obtain ⟨bar, io, S, dx, dy, d, S', st, r1, r2, h, q⟩ := h
  unfold isR at h
  split at h
  · cases h
    cases r2
    refine op_isN pins s σ H _ _ v u Q I rx ry ⟨rfl, ?_⟩
    rw [non_rep r1]
    exact q _ _ _ _ Ext.refl st (.bl _)
  · split at h
    · cases h
      cases r1; cases r2
      exact op_isBl pins s σ H _ _ v u Q I rx ry ⟨_, _, rfl, rfl, q _ _ _ _ Ext.refl st (.bl _)⟩
    · cases h
  · cases h
theorem op_isNot2 : OpR X (compareOp .IsNot) (rOp X.K (isR true)) := by
  intro pins s σ H x y v u Q I rx ry h
  obtain ⟨bar, io, S, dx, dy, d, S', st, r1, r2, h, q⟩ := h
  unfold isR at h
  split at h
  · cases h
    cases r2
    refine op_notN pins s σ H _ _ v u Q I rx ry ⟨rfl, ?_⟩
    rw [non_rep r1]
    exact q _ _ _ _ Ext.refl st (.bl _)
  · split at h
    · cases h
      cases r1; cases r2
      exact op_notBl pins s σ H _ _ v u Q I rx ry ⟨_, _, rfl, rfl, q _ _ _ _ Ext.refl st (.bl _)⟩
    · cases h
  · cases h
def cmpOf : CO → CmpOp
  | .eq => .Eq | .ne => .NotEq | .lt => .Lt | .le => .LtE | .gt => .Gt | .ge => .GtE | .is => .Is | .isNot => .IsNot | .inn => .In | .notIn => .NotIn
theorem op_cmp (hu : X.A.units + 64 < cLine) (o : CO) : OpR X (compareOp (cmpOf o)) (rOp X.K (cmpV o)) := by
  cases o
  case eq => exact op_eq2 hu
  case ne => exact op_ne2 hu
  case is => exact op_is2
  case isNot => exact op_isNot2
  case inn => exact op_in2 (by omega)
  case notIn => exact op_notIn2 (by omega)
  case lt =>
    intro pins s σ H x y v u Q I rx ry h
    obtain ⟨bar, io, S, dx, dy, d, S', st, r1, r2, h, q⟩ := h
    simp only [cmpV] at h
    split at h
    · cases h; cases r1; cases r2
      exact op_lt pins s σ H _ _ v u Q I rx ry ⟨_, _, rfl, rfl, q _ _ _ _ Ext.refl st (.bl _)⟩
    · cases h
  case le =>
    intro pins s σ H x y v u Q I rx ry h
    obtain ⟨bar, io, S, dx, dy, d, S', st, r1, r2, h, q⟩ := h
    simp only [cmpV] at h
    split at h
    · cases h; cases r1; cases r2
      exact op_le pins s σ H _ _ v u Q I rx ry ⟨_, _, rfl, rfl, q _ _ _ _ Ext.refl st (.bl _)⟩
    · cases h
  case gt =>
    intro pins s σ H x y v u Q I rx ry h
    obtain ⟨bar, io, S, dx, dy, d, S', st, r1, r2, h, q⟩ := h
    simp only [cmpV] at h
    split at h
    · cases h; cases r1; cases r2
      exact op_gt pins s σ H _ _ v u Q I rx ry ⟨_, _, rfl, rfl, q _ _ _ _ Ext.refl st (.bl _)⟩
    · cases h
  case ge =>
    intro pins s σ H x y v u Q I rx ry h
    obtain ⟨bar, io, S, dx, dy, d, S', st, r1, r2, h, q⟩ := h
    simp only [cmpV] at h
    split at h
    · cases h; cases r1; cases r2
      exact op_ge pins s σ H _ _ v u Q I rx ry ⟨_, _, rfl, rfl, q _ _ _ _ Ext.refl st (.bl _)⟩
    · cases h

/-! ### items, slices -/
theorem optR_ok {α : Type} {o : Option α} {S S' : Store} {d : α} (h : optR o S = .ok d S') : o = some d ∧ S' = S := by
  cases o with
  | none => cases h
  | some a => cases h; exact ⟨rfl, rfl⟩
theorem atI_rep {K : PySem.W.Frag} {H : Hp} {bar io : List Addr} {vs : List V} {ds : List D} {i : Int} {d : D} (r : Reps K H bar io vs ds) (h : atI ds i = some d) : ∃ v, atI vs i = some v ∧ Rep K H bar io v d := by
  unfold atI at h ⊢
  rw [r.length]
  cases e : ixN ds.length i with
  | none => rw [e] at h; cases h
  | some j =>
    rw [e] at h
    exact r.get h
theorem ix_any (hu : X.A.units + 1 < cLine) : IxR X (rOp X.K ixV) := by
  intro value slice pins s σ H x y v u Q I rx ry h hsub
  obtain ⟨bar, io, S, dx, dy, d, S', st, r1, r2, h, q⟩ := h
  unfold ixV at h
  split at h
  · rename_i xs k
    obtain ⟨hv, e⟩ := optR_ok h
    subst e
    cases r2
    obtain ⟨p1, vs1, rfl, h1, z1, q1⟩ := kup_rep r1
    obtain ⟨w, e1, rw1⟩ := atI_rep q1 hv
    exact ix_tup value slice pins s σ H _ _ v u Q I rx ry (by exact ⟨p1, vs1, k, w, rfl, rfl, h1, e1, q _ _ _ _ Ext.refl st rw1⟩) hsub
  · rename_i xs k
    obtain ⟨hv, e⟩ := optR_ok h
    subst e
    cases r2
    obtain ⟨p1, vs1, rfl, h1, z1, q1⟩ := tup_rep r1
    obtain ⟨w, e1, rw1⟩ := atI_rep q1 hv
    exact ix_tup value slice pins s σ H _ _ v u Q I rx ry (by exact ⟨p1, vs1, k, w, rfl, rfl, h1, e1, q _ _ _ _ Ext.refl st rw1⟩) hsub
  · rename_i z k
    cases r2
    cases r1 with
    | str _ zl ks =>
    split at h
    · rename_i c hc
      cases h
      refine ix_str value slice pins s σ H _ _ v u Q I rx ry ⟨z, k, c, rfl, rfl, zl, hc, q _ _ _ _ Ext.refl st (.str _ ?_ ?_)⟩ hsub
      · show 1 ≤ sizeLine; rw [sizeLine_eq]; decide
      · obtain ⟨j, _, e2, _⟩ := atI_get hc
        have hm : c ∈ z.cps.toList := List.mem_of_getElem? e2
        simp only [PyData.strOk, Array.all_eq_true_iff_forall_mem] at ks ⊢
        intro x hx
        have : x = c := by simpa using hx
        rw [this]
        exact ks c (by simpa using hm)
    · cases h
  · split at h
    · rename_i xs hx
      split at h
      · rename_i k _
        obtain ⟨hv, e⟩ := optR_ok h
        subst e
        cases r2
        obtain ⟨p1, vs1, rfl, h1, z1, q1⟩ := asLst_rep st r1 hx
        obtain ⟨w, e1, rw1⟩ := atI_rep q1 hv
        exact ix_list value slice pins s σ H _ _ v u Q I rx ry (by exact ⟨p1, vs1, _, w, rfl, rfl, h1, e1, q _ _ _ _ Ext.refl st rw1⟩) hsub
      · cases h
    · split at h
      · rename_i kvs k hk he
        obtain ⟨hv, e⟩ := optR_ok h
        subst e
        obtain ⟨p1, vs1, rfl, h1, z1, q1⟩ := asDic_rep st r1 hk
        have ek := asKey_rep r2 he
        subst ek
        cases rx
        obtain ⟨w, e1, rw1⟩ := (q1.val k).2 d hv
        have g : DGet H p1 (kV k) (some w) := by have := DGet.k (k := k) h1; rw [e1] at this; exact this
        exact PyProof.Rows.tail_any (dict_typeIs I g) PySem.F.slot_dict_getitem.lookup (d_getItem hu I g ry fun w' s' I' rw' => ⟨w, H, I', rw', q _ _ _ _ Ext.refl st rw1⟩) hsub
      · cases h
def rSl2 (K : PySem.W.Frag) : V → Option Int → Option Int → Hp → VK → Prop := fun x lo hi H Q => ∃ bar io S dx d S', StRep K H bar io S ∧ Rep K H bar io x dx ∧ slV S dx lo hi = .ok d S' ∧
  ∀ v H' bar' io', Ext H bar io H' bar' io' → StRep K H' bar' io' S' → Rep K H' bar' io' v d → Q v H'
theorem cutG_rep {K : PySem.W.Frag} {H : Hp} {bar io : List Addr} {vs : List V} {ds : List D} (r : Reps K H bar io vs ds) (lo hi : Option Int) : Reps K H bar io (cutV vs lo hi) (cutG ds lo hi) := by
  unfold cutV cutG
  rw [r.length]
  exact (r.drop _).take _
theorem sl_any : SlR X (rSl2 X.K) := by
  intro pins s σ H x v vl vu lo hi sl Q I rx hs pl pu h
  obtain ⟨bar, io, S, dx, d, S', st, r1, h, q⟩ := h
  unfold slV at h
  split at h
  · rename_i xs
    cases h
    obtain ⟨p1, vs1, rfl, h1, z1, q1⟩ := tup_repH r1
    refine sl_tupA pins s σ H _ v vl vu lo hi sl Q I rx hs pl pu ⟨p1, vs1, rfl, .inl (.inl h1), fun e => ?_, fun _ p hp => ?_⟩
    · refine q _ _ _ _ Ext.refl st (.tup h1 z1 ?_)
      have r := cutG_rep q1 lo hi
      unfold cutV at r
      rw [e.1, e.2] at r
      simpa using r
    · have x1 : Ext H bar io (upd H p (.tup (cutV vs1 lo hi))) bar io := Ext.new hp
      exact q _ _ _ _ x1 (st.new hp) (.tup upd_same (Nat.le_trans (cutV_length _ _ _) z1) ((cutG_rep q1 lo hi).mono x1 st.live))
  · split at h
    · rename_i xs hx
      cases h
      obtain ⟨p1, vs1, rfl, h1, z1, q1⟩ := asLst_rep st r1 hx
      refine sl_list pins s σ H _ v vl vu lo hi sl Q I rx hs pl pu ⟨p1, vs1, rfl, h1, fun p hp => ?_⟩
      have x1 : Ext H bar io (upd H p (.lst (cutV vs1 lo hi))) bar io := Ext.new hp
      exact q _ _ _ _ x1 (st.new hp) (.lst upd_same (st.notBar hp) (Nat.le_trans (cutV_length _ _ _) z1) ((cutG_rep q1 lo hi).mono x1 st.live))
    · cases h
end
end PX

/-! PX5: built-in functions, methods, stores as rules of the layer. -/
namespace PX
open PySem L2 PyProof.Rows
/-! ### sorting -/
theorem sortI_uniq {ns ms : List Int} (hp : ms.Perm ns) (hs : ms.Pairwise (· ≤ ·)) : ms = sortI ns := by
  have h1 : (sortI ns).Perm ns := List.mergeSort_perm _ _
  have h2 : (sortI ns).Pairwise (fun a b => decide (a ≤ b) = true) := List.pairwise_mergeSort (fun a b c h1 h2 => by simp at *; omega) (fun a b => by simp; omega) ns
  refine List.Perm.eq_of_pairwise (le := fun a b : Int => a ≤ b) (fun a b _ _ h1 h2 => by omega) hs (h2.imp fun h => of_decide_eq_true h) (hp.trans h1.symm)
theorem leP_iff {p q : Int × Int} : leP p q = true ↔ p.1 < q.1 ∨ (p.1 = q.1 ∧ p.2 ≤ q.2) := by
  unfold leP
  rw [Bool.not_eq_true', SrtO.lexB_no]
  omega
theorem sortP_uniq {ps ms : List (Int × Int)} (hp : ms.Perm ps) (hs : ms.Pairwise (fun a b => leP a b = true)) : ms = sortP ps := by
  have h1 : (sortP ps).Perm ps := List.mergeSort_perm _ _
  have h2 : (sortP ps).Pairwise (fun a b => leP a b = true) := List.pairwise_mergeSort (fun a b c h1 h2 => by rw [leP_iff] at *; omega) (fun a b => by
    rw [Bool.or_eq_true, leP_iff, leP_iff]; omega) ps
  refine List.Perm.eq_of_pairwise (le := fun a b => leP a b = true) (fun a b _ _ h1 h2 => ?_) hs h2 (hp.trans h1.symm)
  rw [leP_iff] at h1 h2
  exact Prod.ext (by omega) (by omega)

section
variable {X : Cx}
/-- sorted(d) of a dict whose keys are ints -/
def rSortD : List V → Hp → VK → Prop := fun xs H Q => ∃ (a : Addr) (kvs : List (Key × V)) (ks : List Int), xs = [.ref a] ∧ Rd H a (.dK kvs) ∧ kvs.map (·.1) = ks.map Sum.inl ∧
  ∀ (ys : List Int) p, ys.Perm ks → ys.Pairwise (· ≤ ·) → H p = none → Q (.ref p) (upd H p (.lst (ys.map V.int)))
theorem ints_of_keys : ∀ {us : List Value} {ks : List Int}, us.length = ks.length → (∀ (j : Nat) (v : Value), us[j]? = some v → ∃ (x : Int) (t : Tok), ks[j]? = some x ∧ v = Value.int x t) → PyProof.Rows.IntsAre us ks
  | [], [], _, _ => .nil
  | u :: us, k :: ks, hl, h => by
    obtain ⟨x, t, e1, e2⟩ := h 0 u rfl
    obtain rfl : k = x := Option.some.inj e1
    subst e2
    exact .cons _ _ (ints_of_keys (by simpa using hl) fun j v e => by
      obtain ⟨x, t, a, b⟩ := h (j + 1) v (by simpa using e)
      exact ⟨x, t, by simpa using a, b⟩)
  | [], _ :: _, hl, _ => by simp at hl
  | _ :: _, [], hl, _ => by simp at hl
theorem cr_sortD (hcalm : X.calm = true) : CallR X (.builtin "sorted") rSortD := by
  intro pins s σ H xs us Q I r q
  obtain ⟨a, kvs, ks, rfl, hd, hks, q⟩ := q
  obtain ⟨u, rfl, rx⟩ := vals1 r
  cases rx
  obtain ⟨z, lo, vs, rel, dd⟩ := dk_rd I.hok hd
  obtain ⟨ep, hat⟩ := dd.dictAt
  have hkeys : vs.map (·.1) = ks.map Sum.inl := rel.keys.symm.trans hks
  have hl : vs.length = ks.length := by simpa using congrArg List.length hkeys
  have hz : vs.length ≤ sizeLine := by rw [← rel.length]; exact z
  refine Calls.call_function_entry PyProof.Rows.kind_sorted PyProof.Rows.plain_sorted PyProof.Rows.entry_sorted (PyProof.Rows.args_sorted1 _) ?_
  unfold Builtin.«sorted»
  refine wpAny_bind (m := checkCount "sorted" 1 1 _) (wpAny_pure ?_)
  refine wpAny_bind (PySem.W.kdu_collect (A := X.A.in1) (PySem.W.kdl_dict (knd := mixKind X.prog X.w) (kvs := vs) (ep := ep) lo) (I.ok.hd hcalm) hat hz fun h' tk acc hk hacc => ?_)
  have hal : acc.toList.length = ks.length := by rw [Array.length_toList, hacc.1, hl]
  have hI : PyProof.Rows.IntsAre acc.toList ks := ints_of_keys hal fun j v e => by
    obtain ⟨k, x, e1, e2⟩ := hacc.2 j v (by rw [← Array.getElem?_toList]; exact e)
    have e3 : (ks.map (Sum.inl : Int → Key))[j]? = some k := by rw [← hkeys, List.getElem?_map, e1]; rfl
    rw [List.getElem?_map] at e3
    cases e4 : ks[j]? with
    | none => rw [e4] at e3; cases e3
    | some y =>
      rw [e4] at e3
      obtain rfl : Sum.inl y = k := Option.some.inj e3
      obtain ⟨t, ev⟩ := Value.isInt_shape (k := y) (v := v) e2
      exact ⟨y, t, rfl, ev⟩
  have I1 : Inv X pins σ H { s with heap := h', toks := tk } := I.kept hk
  have hz2 : acc.toList.length ≤ sizeLine := by rw [hal, ← hl]; exact hz
  refine wpAny_bind (wpAny_newList ?_ hz2)
  have hoL : (h'.push (seqObj "list" acc.toList.toArray 0)).get? h'.objs.size = some (seqObj "list" acc.toList.toArray 0) := Heap.get?_push_size _ rfl
  show wpAny _ _ _ _ _ { s with heap := h'.push (seqObj "list" acc.toList.toArray 0), toks := tk }
  refine wpAny_bind (wpAny_holding (wpAny_call_entry PyProof.Rows.slot_list_sort ⟨_, hoL, rfl⟩ PyProof.Rows.entry_list_sort
    (SrtO.list_sort_ord SrtO.swo_int (s := { s with heap := h'.push (seqObj "list" acc.toList.toArray 0), toks := tk }) hoL hz2 (fun h2 => SrtO.ints_sortable hI h2) fun out h1 h2 => ⟨_, rfl, ?_⟩)
    (PyProof.Rows.args_list_sort _)))
  obtain ⟨k1, k2, k3⟩ := SrtO.ints_out hI h1 h2
  obtain ⟨e', he'⟩ := PyProof.Rows.sortedHeap_at (vs := acc.toList) (out := out.toArray) hoL
  have hlen : ((out.map SrtO.iv).map V.int).length ≤ sizeLine := by
    rw [List.length_map, k2.length_eq, ← hal]
    exact hz2
  refine wpAny_pure ⟨_, rfl, .ref h'.objs.size, upd H h'.objs.size (.lst ((out.map SrtO.iv).map V.int)), I1.laid (t' := tk) (fun b u e => ?_) (Nat.le_refl _) ⟨hlen, out, e', vals_of_ints k1, he'⟩, rfl, q _ _ k2 k3 (I1.hok.fresh (Nat.le_refl _))⟩
  have hb : b < h'.objs.size := Heap.lt_size e
  rw [PyProof.Rows.sortedHeap_old (Nat.ne_of_lt hb) (by rw [size_push']; exact Nat.lt_succ_of_lt hb)]
  exact Heap.get?_push_of_some _ e

/-! ### built-in functions by data -/
def bfV : BF → Value
  | .len => .builtin "len" | .sum => .builtin "sum" | .all => .builtin "all" | .any => .builtin "any" | .abs => .builtin "abs"
  | .int => .type "int" | .bool => .type "bool" | .str => .type "str" | .tuple => .type "tuple" | .list => .type "list" | .listM => .type "list"
  | .sorted => .builtin "sorted" | .sortedP => .builtin "sorted" | .max2 => .builtin "max" | .min2 => .builtin "min" | .maxL => .builtin "max" | .minL => .builtin "min"
def rBi (K : PySem.W.Frag) (f : BF) : List V → Hp → VK → Prop := fun vs H Q => ∃ bar io S ds d S', StRep K H bar io S ∧ Reps K H bar io vs ds ∧ biV f S ds = .ok d S' ∧
  ∀ v H' bar' io', Ext H bar io H' bar' io' → StRep K H' bar' io' S' → Rep K H' bar' io' v d → Q v H'
theorem maxI_mem : ∀ {ns : List Int}, ns ≠ [] → maxI ns ∈ ns ∧ ∀ y ∈ ns, y ≤ maxI ns
  | [], h => absurd rfl h
  | [x], _ => by simp [maxI]
  | x :: y :: r, _ => by
    obtain ⟨h1, h2⟩ := maxI_mem (ns := y :: r) (by simp)
    unfold maxI
    by_cases h : x ≤ maxI (y :: r)
    · simp only [h, if_true]
      exact ⟨List.mem_cons_of_mem _ h1, fun z hz => (List.mem_cons.mp hz).elim (fun e => e ▸ h) (h2 z)⟩
    · simp only [h, if_false]
      exact ⟨List.mem_cons_self, fun z hz => (List.mem_cons.mp hz).elim (fun e => by rw [e]; omega) fun m => by have := h2 z m; omega⟩
theorem minI_mem : ∀ {ns : List Int}, ns ≠ [] → minI ns ∈ ns ∧ ∀ y ∈ ns, minI ns ≤ y
  | [], h => absurd rfl h
  | [x], _ => by simp [minI]
  | x :: y :: r, _ => by
    obtain ⟨h1, h2⟩ := minI_mem (ns := y :: r) (by simp)
    unfold minI
    by_cases h : minI (y :: r) ≤ x
    · simp only [h, if_true]
      exact ⟨List.mem_cons_of_mem _ h1, fun z hz => (List.mem_cons.mp hz).elim (fun e => e ▸ h) (h2 z)⟩
    · simp only [h, if_false]
      exact ⟨List.mem_cons_self, fun z hz => (List.mem_cons.mp hz).elim (fun e => by rw [e]; omega) fun m => by have := h2 z m; omega⟩
theorem keyInts_eq : ∀ {kvs : List (Key × D)} {ks : List Int}, keyInts kvs = some ks → kvs.map (·.1) = ks.map Sum.inl
  | [], ks, h => by simp [keyInts] at h; subst h; rfl
  | (.inl i, d) :: r, ks, h => by
    simp only [keyInts, Option.map_eq_some_iff] at h
    obtain ⟨q, h1, h2⟩ := h
    subst h2
    rw [List.map_cons, List.map_cons, keyInts_eq h1]
  | (.inr i, d) :: r, ks, h => by simp [keyInts] at h
theorem RepK.keys {K : PySem.W.Frag} {H : Hp} {bar io : List Addr} : ∀ {vs : List (Key × V)} {ds : List (Key × D)}, RepK K H bar io vs ds → vs.map (·.1) = ds.map (·.1)
  | _, _, .nil => rfl
  | _, _, .cons _ t => by rw [List.map_cons, List.map_cons, RepK.keys t]
/-- a list of ints that is read -/
theorem ints_rep {K : PySem.W.Frag} {H : Hp} {bar io : List Addr} {S : Store} {x : V} {d : D} {ns : List Int} (st : StRep K H bar io S) (r : Rep K H bar io x d) (h : (asLst S d).bind asInts = some ns) : ∃ a, x = .ref a ∧ SqL K H a (ns.map V.int) ∧ ns.length ≤ sizeLine := by
  cases e : asLst S d with
  | none => rw [e] at h; cases h
  | some xs =>
    rw [e] at h
    obtain ⟨a, vs, rfl, h1, z1, q1⟩ := asLst_rep st r e
    have e2 := asInts_eq (show asInts xs = some ns from h)
    subst e2
    have e3 := q1.ints
    subst e3
    exact ⟨a, rfl, h1, by simpa using z1⟩
theorem bls_rep {K : PySem.W.Frag} {H : Hp} {bar io : List Addr} {S : Store} {x : V} {d : D} {ns : List Bool} (st : StRep K H bar io S) (r : Rep K H bar io x d) (h : (asLst S d).bind asBls = some ns) : ∃ a, x = .ref a ∧ SqL K H a (ns.map V.bl) := by
  cases e : asLst S d with
  | none => rw [e] at h; cases h
  | some xs =>
    rw [e] at h
    obtain ⟨a, vs, rfl, h1, z1, q1⟩ := asLst_rep st r e
    have e2 := asBls_eq (show asBls xs = some ns from h)
    subst e2
    have e3 := q1.bls
    subst e3
    exact ⟨a, rfl, h1⟩
/-- a new list, a new cell -/
theorem new_lst {K : PySem.W.Frag} {H : Hp} {bar io : List Addr} {S : Store} {vs : List V} {ds : List D} {p : Addr} (st : StRep K H bar io S) (r : Reps K H bar io vs ds) (z : vs.length ≤ sizeLine) (hp : H p = none) :
    Ext H bar io (upd H p (.lst vs)) bar io ∧ StRep K (upd H p (.lst vs)) bar io S ∧ Rep K (upd H p (.lst vs)) bar io (.ref p) (.lst ds) :=
  ⟨Ext.new hp, st.new hp, .lst upd_same (st.notBar hp) z (r.mono (Ext.new hp) st.live)⟩
theorem new_tup {K : PySem.W.Frag} {H : Hp} {bar io : List Addr} {S : Store} {vs : List V} {ds : List D} {p : Addr} (st : StRep K H bar io S) (r : Reps K H bar io vs ds) (z : vs.length ≤ sizeLine) (hp : H p = none) :
    Ext H bar io (upd H p (.tup vs)) bar io ∧ StRep K (upd H p (.tup vs)) bar io S ∧ Rep K (upd H p (.tup vs)) bar io (.ref p) (.tup ds) :=
  ⟨Ext.new hp, st.new hp, .tup upd_same z (r.mono (Ext.new hp) st.live)⟩
theorem new_cell {K : PySem.W.Frag} {H : Hp} {bar io : List Addr} {S : Store} {vs : List V} {ds : List D} {p : Addr} (st : StRep K H bar io S) (r : Reps K H bar io vs ds) (z : vs.length ≤ sizeLine) (hp : H p = none) :
    Ext H bar io (upd H p (.lst vs)) (p :: bar) (io ++ [p]) ∧ StRep K (upd H p (.lst vs)) (p :: bar) (io ++ [p]) (S ++ [.lst ds]) ∧ Rep K (upd H p (.lst vs)) (p :: bar) (io ++ [p]) (.ref p) (.adr S.length) :=
  ⟨Ext.cell hp, st.cell' hp (.lst z (r.mono (Ext.cell hp) st.live)), .adr (by rw [st.len]; simp)⟩
theorem new_dic {K : PySem.W.Frag} {H : Hp} {bar io : List Addr} {S : Store} {p : Addr} (st : StRep K H bar io S) (hp : H p = none) :
    Ext H bar io (upd H p (.dK [])) (p :: bar) (io ++ [p]) ∧ StRep K (upd H p (.dK [])) (p :: bar) (io ++ [p]) (S ++ [.dic []]) ∧ Rep K (upd H p (.dK [])) (p :: bar) (io ++ [p]) (.ref p) (.adr S.length) :=
  ⟨Ext.cell hp, st.cell' hp (.dic (Nat.zero_le _) .nil), .adr (by rw [st.len]; simp)⟩
theorem toString_ok (i : Int) (h : i.natAbs.log2 < 1920) : (Str.ofString (toString i)).length ≤ sizeLine ∧ PyData.strOk (Str.ofString (toString i)) = true := by
  refine ⟨int_text_fits h, ?_⟩
  rw [Str.ofString_eq_toList]
  unfold PyData.strOk
  simp only [List.all_toArray, List.all_map, List.all_eq_true, Function.comp, decide_eq_true_eq]
  intro c _
  have := c.valid
  simp only [UInt32.isValidChar, Nat.isValidChar] at this
  show c.val.toNat < 1114112
  omega
/-- pairs of ints, as the machine holds them -/
def pairOf (H : Hp) (v : V) : Int × Int := match v with
  | .ref t => match H t with
    | some (.tup [.int i, .int j]) => (i, j)
    | _ => (0, 0)
  | _ => (0, 0)
theorem pairs_rep {K : PySem.W.Frag} {H : Hp} {bar io : List Addr} {v : V} {p : Int × Int} (r : Rep K H bar io v (pairD p)) : (∃ t, v = V.ref t ∧ H t = some (.tup [.int p.1, .int p.2])) ∧ pairOf H v = p := by
  obtain ⟨a', ws, rfl, hT, _, q⟩ := tup_repH r
  obtain ⟨w1, w2, rfl, q1, q2⟩ := q.two
  cases q1; cases q2
  refine ⟨⟨a', rfl, hT⟩, ?_⟩
  simp only [pairOf, hT]
theorem pairs_map {K : PySem.W.Frag} {H : Hp} {bar io : List Addr} : ∀ {vs : List V} {ps : List (Int × Int)}, Reps K H bar io vs (ps.map pairD) → vs.map (pairOf H) = ps ∧ ∀ x ∈ vs, Rep K H bar io x (pairD (pairOf H x))
  | [], [], _ => ⟨rfl, by simp⟩
  | [], p :: ps, h => by cases h
  | v :: vs, [], h => by cases h
  | v :: vs, p :: ps, h => by
    rw [List.map_cons] at h
    cases h with
    | cons r t =>
      obtain ⟨h1, h2⟩ := pairs_map t
      have e := (pairs_rep r).2
      refine ⟨by rw [List.map_cons, h1, e], fun x hx => ?_⟩
      rcases List.mem_cons.mp hx with rfl | hx
      · rw [e]; exact r
      · exact h2 x hx
theorem reps_map {K : PySem.W.Frag} {H : Hp} {bar io : List Addr} {f : V → D} : ∀ {vs : List V}, (∀ x ∈ vs, Rep K H bar io x (f x)) → Reps K H bar io vs (vs.map f)
  | [], _ => .nil
  | v :: vs, h => .cons (h v List.mem_cons_self) (reps_map fun x hx => h x (List.mem_cons_of_mem _ hx))
theorem call_bi (hc : X.calm = true) (f : BF) : CallR X (bfV f) (rBi X.K f) := by
  intro pins s σ H xs us Q I r h
  obtain ⟨bar, io, S, ds, d, S', st, rs, h, q⟩ := h
  have oneL : ∀ {x : D}, ds = [x] → ∃ w, xs = [w] ∧ Rep X.K H bar io w x := fun {x} e => by subst e; exact rs.one
  unfold biV at h
  split at h
  case h_1 ys =>
    cases h
    obtain ⟨w, rfl, rw1⟩ := rs.one
    obtain ⟨p1, vs1, rfl, h1, z1, q1⟩ := tup_rep rw1
    exact call_len_seq pins s σ H _ us Q I r ⟨p1, vs1, rfl, .inr h1, by rw [q1.length]; exact q _ _ _ _ Ext.refl st (.int _)⟩
  case h_2 ys =>
    cases h
    obtain ⟨w, rfl, rw1⟩ := rs.one
    obtain ⟨p1, vs1, rfl, h1, z1, q1⟩ := kup_rep rw1
    exact call_len_seq pins s σ H _ us Q I r ⟨p1, vs1, rfl, .inr h1, by rw [q1.length]; exact q _ _ _ _ Ext.refl st (.int _)⟩
  case h_3 z =>
    cases h
    obtain ⟨w, rfl, rw1⟩ := rs.one
    cases rw1 with
    | str _ zl ks => exact call_len_str pins s σ H _ us Q I r ⟨z, rfl, zl, q _ _ _ _ Ext.refl st (.int _)⟩
  case h_4 x _ _ _ =>
    obtain ⟨w, rfl, rw1⟩ := rs.one
    split at h
    · rename_i ys hy
      cases h
      obtain ⟨p1, vs1, rfl, h1, z1, q1⟩ := asLst_rep st rw1 hy
      exact call_len_seq pins s σ H _ us Q I r ⟨p1, vs1, rfl, .inl h1, by rw [q1.length]; exact q _ _ _ _ Ext.refl st (.int _)⟩
    · split at h
      · rename_i kvs hk
        cases h
        obtain ⟨p1, vs1, rfl, h1, z1, q1⟩ := asDic_rep st rw1 hk
        obtain ⟨u, rfl, rx⟩ := vals1 r
        cases rx
        exact d_len I (.inl h1) fun t s' I' => ⟨.int _, H, I', ⟨t, rfl⟩, by rw [q1.length]; exact q _ _ _ _ Ext.refl st (.int _)⟩
      · cases h
  case h_5 x =>
    obtain ⟨w, rfl, rw1⟩ := rs.one
    split at h
    · rename_i ns hn
      cases h
      obtain ⟨a, rfl, h1, _⟩ := ints_rep st rw1 hn
      exact cr_sum hc pins s σ H _ us Q I r ⟨a, ns, rfl, h1, q _ _ _ _ Ext.refl st (.int _)⟩
    · cases h
  case h_6 x =>
    obtain ⟨w, rfl, rw1⟩ := rs.one
    split at h
    · rename_i ns hn
      cases h
      obtain ⟨a, rfl, h1⟩ := bls_rep st rw1 hn
      exact cr_all hc pins s σ H _ us Q I r ⟨a, ns, rfl, h1, q _ _ _ _ Ext.refl st (.bl _)⟩
    · cases h
  case h_7 x =>
    obtain ⟨w, rfl, rw1⟩ := rs.one
    split at h
    · rename_i ns hn
      cases h
      obtain ⟨a, rfl, h1⟩ := bls_rep st rw1 hn
      exact cr_any hc pins s σ H _ us Q I r ⟨a, ns, rfl, h1, q _ _ _ _ Ext.refl st (.bl _)⟩
    · cases h
  case h_8 i =>
    cases h
    obtain ⟨w, rfl, rw1⟩ := rs.one
    cases rw1
    exact call_abs pins s σ H _ us Q I r ⟨i, rfl, q _ _ _ _ Ext.refl st (.int _)⟩
  case h_9 i =>
    cases h
    obtain ⟨w, rfl, rw1⟩ := rs.one
    cases rw1
    exact call_int1 pins s σ H _ us Q I r (.inl ⟨i, rfl, q _ _ _ _ Ext.refl st (.int _)⟩)
  case h_10 b =>
    cases h
    obtain ⟨w, rfl, rw1⟩ := rs.one
    cases rw1
    exact call_int1 pins s σ H _ us Q I r (.inr ⟨b, rfl, q _ _ _ _ Ext.refl st (.int _)⟩)
  case h_11 i =>
    cases h
    obtain ⟨w, rfl, rw1⟩ := rs.one
    cases rw1
    exact call_bool1 pins s σ H _ us Q I r (.inl ⟨i, rfl, q _ _ _ _ Ext.refl st (.bl _)⟩)
  case h_12 b =>
    cases h
    obtain ⟨w, rfl, rw1⟩ := rs.one
    cases rw1
    exact call_bool1 pins s σ H _ us Q I r (.inr ⟨b, rfl, q _ _ _ _ Ext.refl st (.bl _)⟩)
  case h_13 i =>
    obtain ⟨g, h⟩ := guardR_ok h
    cases h
    obtain ⟨w, rfl, rw1⟩ := rs.one
    cases rw1
    have g := of_decide_eq_true g
    obtain ⟨l1, l2⟩ := toString_ok i g
    exact call_str_int pins s σ H _ us Q I r ⟨i, rfl, g, q _ _ _ _ Ext.refl st (.str _ l1 l2)⟩
  case h_14 ys =>
    cases h
    obtain ⟨w, rfl, rw1⟩ := rs.one
    obtain ⟨p1, vs1, rfl, h1, z1, q1⟩ := tup_rep rw1
    exact call_tuple_of pins s σ H _ us Q I r ⟨p1, vs1, rfl, .inr ⟨h1, q _ _ _ _ Ext.refl st rw1⟩⟩
  case h_15 x _ =>
    obtain ⟨w, rfl, rw1⟩ := rs.one
    split at h
    · rename_i ys hy
      cases h
      obtain ⟨p1, vs1, rfl, h1, z1, q1⟩ := asLst_rep st rw1 hy
      refine call_tuple_of pins s σ H _ us Q I r ⟨p1, vs1, rfl, .inl ⟨h1, fun l hl => ?_⟩⟩
      obtain ⟨x1, x2, x3⟩ := new_tup st q1 z1 hl
      exact q _ _ _ _ x1 x2 x3
    · cases h
  case h_16 ys =>
    cases h
    obtain ⟨w, rfl, rw1⟩ := rs.one
    obtain ⟨p1, vs1, rfl, h1, z1, q1⟩ := tup_rep rw1
    refine call_list_of pins s σ H _ us Q I r ⟨p1, vs1, rfl, .inr h1, fun l hl => ?_⟩
    obtain ⟨x1, x2, x3⟩ := new_lst st q1 z1 hl
    exact q _ _ _ _ x1 x2 x3
  case h_17 x _ =>
    obtain ⟨w, rfl, rw1⟩ := rs.one
    split at h
    · rename_i ys hy
      cases h
      obtain ⟨p1, vs1, rfl, h1, z1, q1⟩ := asLst_rep st rw1 hy
      refine call_list_of pins s σ H _ us Q I r ⟨p1, vs1, rfl, .inl h1, fun l hl => ?_⟩
      obtain ⟨x1, x2, x3⟩ := new_lst st q1 z1 hl
      exact q _ _ _ _ x1 x2 x3
    · cases h
  case h_18 ys =>
    cases h
    obtain ⟨w, rfl, rw1⟩ := rs.one
    obtain ⟨p1, vs1, rfl, h1, z1, q1⟩ := tup_rep rw1
    refine call_list_of pins s σ H _ us Q I r ⟨p1, vs1, rfl, .inr h1, fun l hl => ?_⟩
    obtain ⟨x1, x2, x3⟩ := new_cell st q1 z1 hl
    exact q _ _ _ _ x1 x2 x3
  case h_19 x _ =>
    obtain ⟨w, rfl, rw1⟩ := rs.one
    split at h
    · rename_i ys hy
      cases h
      obtain ⟨p1, vs1, rfl, h1, z1, q1⟩ := asLst_rep st rw1 hy
      refine call_list_of pins s σ H _ us Q I r ⟨p1, vs1, rfl, .inl h1, fun l hl => ?_⟩
      obtain ⟨x1, x2, x3⟩ := new_cell st q1 z1 hl
      exact q _ _ _ _ x1 x2 x3
    · cases h
  case h_20 x =>
    obtain ⟨w, rfl, rw1⟩ := rs.one
    split at h
    · rename_i ns hn
      cases h
      obtain ⟨a, rfl, h1, z1⟩ := ints_rep st rw1 hn
      refine cr_sortedI pins s σ H _ us Q I r ⟨a, ns, rfl, h1, fun ns' p hp hs hn => ?_⟩
      rw [sortI_uniq hp hs]
      obtain ⟨x1, x2, x3⟩ := new_lst st (Reps.of_ints (ns := sortI ns)) (by rw [List.length_map]; unfold sortI; rw [List.length_mergeSort]; exact z1) hn
      exact q _ _ _ _ x1 x2 x3
    · split at h
      · rename_i ns hn
        cases h
        cases e : asDic S x with
        | none => rw [e] at hn; cases hn
        | some kvs =>
          rw [e] at hn
          obtain ⟨p1, vs1, rfl, h1, z1, q1⟩ := asDic_rep st rw1 e
          have ek := keyInts_eq (show keyInts kvs = some ns from hn)
          refine cr_sortD hc pins s σ H _ us Q I r ⟨p1, vs1, ns, rfl, .inl h1, q1.keys.trans ek, fun ys p hp hs hn => ?_⟩
          rw [sortI_uniq hp hs]
          obtain ⟨x1, x2, x3⟩ := new_lst st (Reps.of_ints (ns := sortI ns)) (by
            rw [List.length_map]; unfold sortI; rw [List.length_mergeSort]
            have := congrArg List.length (q1.keys.trans ek)
            simp only [List.length_map] at this
            rw [← this]; exact z1) hn
          exact q _ _ _ _ x1 x2 x3
      · cases h
  case h_21 x =>
    obtain ⟨w, rfl, rw1⟩ := rs.one
    split at h
    · rename_i ps hn
      cases h
      cases e : asLst S x with
      | none => rw [e] at hn; cases hn
      | some xs1 =>
        rw [e] at hn
        obtain ⟨p1, vs1, rfl, h1, z1, q1⟩ := asLst_rep st rw1 e
        have ep := asPairs_eq (show asPairs xs1 = some ps from hn)
        subst ep
        obtain ⟨m1, m2⟩ := pairs_map q1
        refine cr_sortedPO pins s σ H _ us Q I r ⟨p1, vs1, pairOf H, rfl, h1, fun y hy => (pairs_rep (m2 y hy)).1, fun ys p hs hb hn => ?_⟩
        have hm : ys.map (pairOf H) = sortP ps := by
          refine sortP_uniq ?_ ?_
          · rw [← m1]; exact hb.perm.map _
          · refine List.pairwise_map.mpr (hs.imp fun {a b} hab => ?_)
            unfold leP
            rw [Bool.not_eq_true']
            exact hab
        have hr : Reps X.K H bar io ys ((sortP ps).map pairD) := by
          rw [← hm, List.map_map]
          exact reps_map fun x hx => m2 x (hb.perm.mem_iff.mp hx)
        obtain ⟨x1, x2, x3⟩ := new_lst st hr (by rw [hb.perm.length_eq]; exact z1) hn
        exact q _ _ _ _ x1 x2 x3
    · cases h
  case h_22 i j =>
    cases h
    obtain ⟨w, w2, rfl, rw1, rw2⟩ := rs.two
    cases rw1; cases rw2
    exact call_max2 hc pins s σ H _ us Q I r ⟨i, j, rfl, q _ _ _ _ Ext.refl st (.int _)⟩
  case h_23 i j =>
    cases h
    obtain ⟨w, w2, rfl, rw1, rw2⟩ := rs.two
    cases rw1; cases rw2
    exact call_min2 hc pins s σ H _ us Q I r ⟨i, j, rfl, q _ _ _ _ Ext.refl st (.int _)⟩
  case h_24 x =>
    obtain ⟨w, rfl, rw1⟩ := rs.one
    split at h
    · rename_i ns hn
      obtain ⟨g, h⟩ := guardR_ok h
      cases h
      obtain ⟨a, rfl, h1, z1⟩ := ints_rep st rw1 hn
      have hne : ns ≠ [] := fun e => by subst e; simp at g
      refine cr_max hc pins s σ H _ us Q I r ⟨a, ns, rfl, h1, List.length_pos_iff.mpr hne, fun m hm hl => ?_⟩
      have e : m = maxI ns := Int.le_antisymm ((maxI_mem hne).2 m hm) (hl _ (maxI_mem hne).1)
      rw [e]
      exact q _ _ _ _ Ext.refl st (.int _)
    · cases h
  case h_25 x =>
    obtain ⟨w, rfl, rw1⟩ := rs.one
    split at h
    · rename_i ns hn
      obtain ⟨g, h⟩ := guardR_ok h
      cases h
      obtain ⟨a, rfl, h1, z1⟩ := ints_rep st rw1 hn
      have hne : ns ≠ [] := fun e => by subst e; simp at g
      refine cr_min hc pins s σ H _ us Q I r ⟨a, ns, rfl, h1, List.length_pos_iff.mpr hne, fun m hm hl => ?_⟩
      have e : m = minI ns := Int.le_antisymm (hl _ (minI_mem hne).1) ((minI_mem hne).2 m hm)
      rw [e]
      exact q _ _ _ _ Ext.refl st (.int _)
    · cases h
  case h_26 => cases h
end
end PX

/-! PX6: methods and stores as rules of the layer. -/
namespace PX
open PySem L2 PyProof.Rows
def ME.ty (m : ME) : String := if m.ofDict then "dict" else "list"
def ME.name : ME → Str
  | .append => "append" | .extend => "extend" | .pop => "pop" | .popAt => "pop" | .get1 => "get" | .get2 => "get" | .clear => "clear"
def ME.id : ME → String
  | .append => "list.append" | .extend => "list.extend" | .pop => "list.pop" | .popAt => "list.pop" | .get1 => "dict.get" | .get2 => "dict.get" | .clear => "list.clear"
theorem ME.plain : ∀ m : ME, PlainAttrs m.ty
  | .append => PySem.F.plainAttrs_list
  | .extend => PySem.F.plainAttrs_list
  | .pop => PySem.F.plainAttrs_list
  | .popAt => PySem.F.plainAttrs_list
  | .clear => PySem.F.plainAttrs_list
  | .get1 => PySem.F.plainAttrs_dict
  | .get2 => PySem.F.plainAttrs_dict
theorem ME.slot : ∀ m : ME, Slot m.ty m.name m.id
  | .append => PySem.F.slot_list_append
  | .extend => PySem.F.slot_list_extend
  | .pop => PySem.F.slot_list_pop
  | .popAt => PySem.F.slot_list_pop
  | .clear => PySem.F.slot_list_clear
  | .get1 => PySem.F.slot_dict_get
  | .get2 => PySem.F.slot_dict_get
theorem ME.type : ∀ m : ME, typeOf (.builtin m.id) = pure (.type "method_descriptor")
  | .append => PySem.F.type_list_append
  | .extend => PySem.F.type_list_extend
  | .pop => PySem.F.type_list_pop
  | .popAt => PySem.F.type_list_pop
  | .clear => PySem.F.type_list_clear
  | .get1 => PySem.F.type_dict_get
  | .get2 => PySem.F.type_dict_get
def rMe (K : PySem.W.Frag) (m : ME) : V → List V → Hp → VK → Prop := fun x vs H Q => ∃ bar io S dx ds d S', StRep K H bar io S ∧ Rep K H bar io x dx ∧ Reps K H bar io vs ds ∧ methV m S dx ds = .ok d S' ∧
  ∀ v H' bar' io', Ext H bar io H' bar' io' → StRep K H' bar' io' S' → Rep K H' bar' io' v d → Q v H'
section
variable {K : PySem.W.Frag} {H : Hp} {bar io : List Addr} {S : Store}
/-- a cell at its address -/
theorem cell_at {x : V} {n : Nat} {c : Cell} (st : StRep K H bar io S) (r : Rep K H bar io x (.adr n)) (h : S[n]? = some c) : ∃ a o, x = .ref a ∧ io[n]? = some a ∧ H a = some o ∧ CellRep K H bar io o c := by
  cases r with
  | adr e =>
    obtain ⟨a, o, e1, e2, q⟩ := st.cell n c h
    rw [e] at e1; cases e1
    exact ⟨_, o, rfl, e, e2, q⟩
/-- a list's cell is written -/
theorem wr_lst {n : Nat} {a : Addr} {vs : List V} {ds : List D} (st : StRep K H bar io S) (ha : io[n]? = some a) (r : Reps K H bar io vs ds) (z : vs.length ≤ sizeLine) :
    Ext H bar io (upd H a (.lst vs)) bar io ∧ StRep K (upd H a (.lst vs)) bar io (S.set n (.lst ds)) :=
  ⟨Ext.wr (List.mem_of_getElem? ha), st.wr ha (.lst z (r.mono (Ext.wr (List.mem_of_getElem? ha)) st.live))⟩
theorem wr_dic {n : Nat} {a : Addr} {vs : List (Key × V)} {ds : List (Key × D)} (st : StRep K H bar io S) (ha : io[n]? = some a) (r : RepK K H bar io vs ds) (z : vs.length ≤ sizeLine) :
    Ext H bar io (upd H a (.dK vs)) bar io ∧ StRep K (upd H a (.dK vs)) bar io (S.set n (.dic ds)) :=
  ⟨Ext.wr (List.mem_of_getElem? ha), st.wr ha (.dic z (r.mono (Ext.wr (List.mem_of_getElem? ha)) st.live))⟩
end
theorem RepK.none_of {K : PySem.W.Frag} {H : Hp} {bar io : List Addr} {k : Key} {vs : List (Key × V)} {ds : List (Key × D)} (r : RepK K H bar io vs ds) (e : valD ds k = none) : valV vs k = none := by
  have h := (r.val k).1
  rw [e] at h
  cases z : valV vs k with
  | none => rfl
  | some _ => rw [z] at h; cases h
section
variable {X : Cx}
theorem Reps.dropLast {K : PySem.W.Frag} {H : Hp} {bar io : List Addr} {vs : List V} {ds : List D} (h : Reps K H bar io vs ds) : Reps K H bar io vs.dropLast ds.dropLast := by
  rw [List.dropLast_eq_take, List.dropLast_eq_take, h.length]
  exact h.take _
theorem mt_me (hu : X.A.units + 1 < cLine) (m : ME) : MtR X m.id (rMe X.K m) := by
  intro pins s σ H x xs v us Q I rx rxs h
  obtain ⟨bar, io, S, dx, ds, d, S', st, r1, rs, h, q⟩ := h
  unfold methV at h
  split at h
  · rename_i n
    split at h
    · rename_i ys hc
      obtain ⟨a, o, rfl, ha, hH, cr⟩ := cell_at st r1 hc
      cases cr with
      | lst zl r =>
      split at h
      · rename_i y
        obtain ⟨g, h⟩ := guardR_ok h
        cases h
        have g := of_decide_eq_true g
        obtain ⟨w, rfl, rw1⟩ := rs.one
        rw [← r.length] at g
        obtain ⟨x1, x2⟩ := wr_lst st ha (r.append (.cons rw1 .nil)) (by rw [List.length_append]; exact g)
        exact mt_append pins s σ H _ _ v us Q I rx rxs ⟨a, _, w, rfl, rfl, hH, g, q _ _ _ _ x1 x2 .non⟩
      · rename_i y
        split at h
        · rename_i zs hz
          obtain ⟨g, h⟩ := guardR_ok h
          cases h
          have g := of_decide_eq_true g
          obtain ⟨w, rfl, rw1⟩ := rs.one
          obtain ⟨b, vs2, rfl, hb, z2, q2⟩ := asLstW_rep st rw1 hz
          rw [← r.length, ← q2.length] at g
          obtain ⟨x1, x2⟩ := wr_lst st ha (r.append q2) (by rw [List.length_append]; exact g)
          exact mt_extend pins s σ H _ _ v us Q I rx rxs ⟨a, b, _, vs2, rfl, rfl, hH, hb, g, q _ _ _ _ x1 x2 .non⟩
        · cases h
      · split at h
        · rename_i y hy
          cases h
          cases rs
          rw [← r.length] at hy
          obtain ⟨w, e1, rw1⟩ := r.get hy
          obtain ⟨x1, x2⟩ := wr_lst st ha r.dropLast (by rw [List.length_dropLast]; omega)
          exact mt_pop pins s σ H _ _ v us Q I rx rxs ⟨a, _, w, rfl, rfl, hH, e1, q _ _ _ _ x1 x2 (rw1.mono x1 st.live)⟩
        · cases h
      · rename_i i
        split at h
        · rename_i k hk
          split at h
          · rename_i y hy
            cases h
            obtain ⟨w, rfl, rw1⟩ := rs.one
            cases rw1
            rw [← r.length] at hk
            obtain ⟨w2, e1, rw2⟩ := r.get hy
            obtain ⟨k1, k2, k3, k4⟩ := ixN_seq hk
            obtain ⟨x1, x2⟩ := wr_lst st ha (r.eraseIdx k) (Nat.le_trans (len_erase _ _) zl)
            have hl := line63
            have hz : sizeLine = 16777216 := sizeLine_eq
            exact mt_popAt pins s σ H _ _ v us Q I rx rxs ⟨a, _, i, k, w2, rfl, rfl, hH, by omega, by omega, k1, e1, q _ _ _ _ x1 x2 (rw2.mono x1 st.live)⟩
          · cases h
        · cases h
      · cases h
        cases rs
        obtain ⟨x1, x2⟩ := wr_lst st ha (.nil : Reps X.K H bar io [] []) (Nat.zero_le _)
        exact mt_clear pins s σ H _ _ v us Q I rx rxs ⟨a, _, rfl, rfl, hH, q _ _ _ _ x1 x2 .non⟩
      · cases h
    · rename_i kvs hc
      obtain ⟨a, o, rfl, ha, hH, cr⟩ := cell_at st r1 hc
      cases cr with
      | dic zl r =>
      cases rx
      split at h
      · rename_i k
        split at h
        · rename_i k' hk
          cases h
          obtain ⟨w, rfl, rw1⟩ := rs.one
          have ek := asKey_rep rw1 hk
          subst ek
          obtain ⟨u, rfl, ru⟩ := vals1 rxs
          refine d_get1 hu I (DGet.k (k := k') hH) ru fun w' s' I' rw' => ⟨_, H, I', rw', q _ _ _ _ Ext.refl st ?_⟩
          cases e : valD kvs k' with
          | none =>
            rw [r.none_of e]
            exact .non
          | some d' =>
            obtain ⟨v', e1, r'⟩ := (r.val k').2 d' e
            rw [e1]
            exact r'
        · cases h
      · rename_i k y
        split at h
        · rename_i k' hk
          cases h
          obtain ⟨w, w2, rfl, rw1, rw2⟩ := rs.two
          have ek := asKey_rep rw1 hk
          subst ek
          obtain ⟨u, u2, rfl, ru, ru2⟩ := vals2 rxs
          refine d_get2 hu I (DGet.k (k := k') hH) ru ru2 fun w' s' I' rw' => ⟨_, H, I', rw', q _ _ _ _ Ext.refl st ?_⟩
          cases e : valD kvs k' with
          | none =>
            rw [r.none_of e]
            exact rw2
          | some d' =>
            obtain ⟨v', e1, r'⟩ := (r.val k').2 d' e
            rw [e1]
            exact r'
        · cases h
      · cases h
    · cases h
  · cases h
theorem kind_rep {m : ME} {S : Store} {H : Hp} {bar io : List Addr} {x : V} {d : D} (st : StRep X.K H bar io S) (r : Rep X.K H bar io x d) (h : mkind m S d = true) : tyV X.K m.ty x H := by
  unfold mkind at h
  unfold ME.ty
  cases e : m.ofDict with
  | true =>
    rw [e] at h
    have h : (asDic S d).isSome = true := h
    cases hd : asDic S d with
    | none => rw [hd] at h; cases h
    | some kvs =>
      obtain ⟨a, vs, rfl, hH, _, _⟩ := asDic_rep st r hd
      exact .inr (.inr (.inl ⟨rfl, .inl ⟨_, hH⟩⟩))
  | false =>
    rw [e] at h
    have h : (asLstW S d).isSome = true := h
    cases hd : asLstW S d with
    | none => rw [hd] at h; cases h
    | some kvs =>
      obtain ⟨a, vs, rfl, hH, _, _⟩ := asLstW_rep st r hd
      exact .inl ⟨rfl, _, .inl (.inl hH)⟩
/-- o[i] = v -/
def rSet (K : PySem.W.Frag) : TSet := fun o i v H Q => ∃ bar io S do_ di dv S', StRep K H bar io S ∧ Rep K H bar io o do_ ∧ Rep K H bar io i di ∧ Rep K H bar io v dv ∧ setV S do_ di dv = .ok () S' ∧
  ∀ H' bar' io', Ext H bar io H' bar' io' → StRep K H' bar' io' S' → Q H'
theorem set_any (hu : X.A.units + 1 < cLine) : PSet X (rSet X.K) := by
  intro pins s σ H o i v ov iv u Q I ro ri rv h
  obtain ⟨bar, io, S, do_, di, dv, S', st, r1, r2, r3, h, q⟩ := h
  unfold setV at h
  split at h
  · rename_i n
    split at h
    · rename_i ys hc
      obtain ⟨a, ob, rfl, ha, hH, cr⟩ := cell_at st r1 hc
      cases cr with
      | lst zl r =>
      split at h
      · rename_i k
        split at h
        · rename_i j hj
          cases h
          cases r2
          rw [← r.length] at hj
          obtain ⟨x1, x2⟩ := wr_lst st ha (Reps.set r3 j r) (by rw [List.length_set]; exact zl)
          exact set_list pins s σ H _ _ v ov iv u Q I ro ri rv ⟨a, _, k, j, rfl, rfl, hH, hj, q _ _ _ x1 x2⟩
        · cases h
      · cases h
    · rename_i kvs hc
      obtain ⟨a, ob, rfl, ha, hH, cr⟩ := cell_at st r1 hc
      cases cr with
      | dic zl r =>
      split at h
      · rename_i k hk
        obtain ⟨g, h⟩ := guardR_ok h
        cases h
        have g := of_decide_eq_true g
        have ek := asKey_rep r2 hk
        subst ek
        cases ro
        rw [← r.length] at g
        obtain ⟨x1, x2⟩ := wr_dic st ha (r.put k r3) (Nat.le_trans (length_putK _ _ _) g)
        exact d_setItem hu I (DPut.k hH g) ri rv fun s' I' => ⟨_, I', q _ _ _ x1 x2⟩
      · cases h
    · cases h
  · cases h
end
end PX

/-! PX7: readings by data, and the steps of expressions. -/
namespace PX
open PySem L2

/-! ### no exception comes of an operator -/
def R.noX {α : Type} (r : R α) : Prop := ∀ c S, r ≠ .exc c S
theorem noX_ok {α : Type} {a : α} {S : Store} : (R.ok a S).noX := fun _ _ h => by cases h
theorem noX_stuck {α : Type} : (R.stuck : R α).noX := fun _ _ h => by cases h
theorem noX_guard {α : Type} {b : Bool} {r : R α} (h : r.noX) : (guardR b r).noX := by cases b; exact noX_stuck; exact h
theorem noX_opt {α : Type} {o : Option α} {S : Store} : (optR o S).noX := by cases o; exact noX_stuck; exact noX_ok
local macro_rules | `(tactic| trivial) => `(tactic| first | exact noX_ok | exact noX_stuck | exact noX_opt | (refine noX_guard ?_; trivial))
theorem binV_noX (o : BO) (S : Store) (x y : D) : (binV o S x y).noX := by unfold binV; (repeat' split) <;> trivial
theorem eqR_noX (n : Bool) (S : Store) (x y : D) : (eqR n S x y).noX := by unfold eqR; (repeat' split) <;> trivial
theorem inR_noX (n : Bool) (S : Store) (x y : D) : (inR n S x y).noX := by unfold inR; (repeat' split) <;> trivial
theorem isR_noX (n : Bool) (S : Store) (x y : D) : (isR n S x y).noX := by unfold isR; (repeat' split) <;> trivial
theorem cmpV_noX (o : CO) (S : Store) (x y : D) : (cmpV o S x y).noX := by
  cases o <;> simp only [cmpV] <;> first
    | exact eqR_noX _ _ _ _
    | exact inR_noX _ _ _ _
    | exact isR_noX _ _ _ _
    | (split <;> trivial)
theorem ixV_noX (S : Store) (x y : D) : (ixV S x y).noX := by unfold ixV; (repeat' split) <;> trivial
theorem slV_noX (S : Store) (x : D) (l h : Option Int) : (slV S x l h).noX := by unfold slV; (repeat' split) <;> trivial
theorem isiV_noX (S : Store) (x : D) (t : TY) : (isiV S x t).noX := by unfold isiV; (repeat' split) <;> trivial
theorem biV_noX (f : BF) (S : Store) (ds : List D) : (biV f S ds).noX := by unfold biV; (repeat' split) <;> trivial
theorem methV_noX (m : ME) (S : Store) (x : D) (ds : List D) : (methV m S x ds).noX := by unfold methV; (repeat' split) <;> trivial
theorem setV_noX (S : Store) (x i v : D) : (setV S x i v).noX := by unfold setV; (repeat' split) <;> trivial

/-! ### readings -/
section
variable (K : PySem.W.Frag) (mg : Str → Option Value)
/-- what has to hold behind an outcome -/
def Aft {α β : Type} (P : Hp → List Addr → List Addr → β → α → Prop) (H : Hp) (bar io : List Addr) (σ : St) (ρ : Env) (W : WX) (Q : β → Hp → Prop) : R α → Prop
  | .ok a S' => ∀ b H' bar' io', Ext H bar io H' bar' io' → Wd K H' bar' io' σ ρ S' → P H' bar' io' b a → Q b H'
  | .exc c S' => ∀ H' bar' io' C, Ext H bar io H' bar' io' → Wd K H' bar' io' σ ρ S' → mg c = some (.ref C) → W (.ref C) none σ H'
  | .stuck => False
def tG {α β : Type} (P : Hp → List Addr → List Addr → β → α → Prop) (m : Env → Store → R α) (W : WX) : St → Hp → (β → Hp → Prop) → Prop := fun σ H Q => ∃ bar io ρ S, Wd K H bar io σ ρ S ∧ Aft K mg P H bar io σ ρ W Q (m ρ S)
abbrev PRep : Hp → List Addr → List Addr → V → D → Prop := fun H bar io v d => Rep K H bar io v d
abbrev PReps : Hp → List Addr → List Addr → List V → List D → Prop := fun H bar io v d => Reps K H bar io v d
abbrev PEq {α : Type} : Hp → List Addr → List Addr → α → α → Prop := fun _ _ _ b a => b = a
abbrev tE (m : Env → Store → R D) (W : WX) : TE := tG K mg (PRep K) m W
abbrev tL (m : Env → Store → R (List D)) (W : WX) : TA := tG K mg (PReps K) m W
abbrev tQ {α : Type} (m : Env → Store → R α) (W : WX) : St → Hp → (α → Hp → Prop) → Prop := tG K mg PEq m W
/-- .. as a test -/
def tst (m : Env → Store → R D) : Env → Store → R Bool := fun ρ S => (m ρ S).bind fun d S => optR (truthy S d) S
end
section
variable {K : PySem.W.Frag} {mg : Str → Option Value} {α β γ δ : Type} {P : Hp → List Addr → List Addr → β → α → Prop} {P2 : Hp → List Addr → List Addr → δ → γ → Prop}
  {H H1 : Hp} {bar io bar1 io1 : List Addr} {σ : St} {ρ : Env} {W : WX}
theorem Aft.imp {Q Q' : β → Hp → Prop} {r : R α} (h : Aft K mg P H bar io σ ρ W Q r) (f : ∀ b H, Q b H → Q' b H) : Aft K mg P H bar io σ ρ W Q' r := by
  cases r with
  | ok a S => exact fun b H' bar' io' x w p => f b H' (h b H' bar' io' x w p)
  | exc c S => exact h
  | stuck => exact h
theorem Aft.mono {Q : β → Hp → Prop} {r : R α} (x : Ext H bar io H1 bar1 io1) (h : Aft K mg P H bar io σ ρ W Q r) : Aft K mg P H1 bar1 io1 σ ρ W Q r := by
  cases r with
  | ok a S => exact fun b H' bar' io' y w p => h b H' bar' io' (x.trans y) w p
  | exc c S => exact fun H' bar' io' C y w e => h H' bar' io' C (x.trans y) w e
  | stuck => exact h
/-- the first part, then the rest -/
theorem Aft.bind {Q : δ → Hp → Prop} {r : R α} {f : α → Store → R γ} (h : Aft K mg P2 H bar io σ ρ W Q (r.bind f)) :
    Aft K mg P H bar io σ ρ W (fun b H1 => ∃ bar1 io1 S1 a, Ext H bar io H1 bar1 io1 ∧ Wd K H1 bar1 io1 σ ρ S1 ∧ P H1 bar1 io1 b a ∧ r = .ok a S1 ∧ Aft K mg P2 H1 bar1 io1 σ ρ W Q (f a S1)) r := by
  cases r with
  | ok a S => exact fun b H' bar' io' x w p => ⟨bar', io', S, a, x, w, p, rfl, Aft.mono x h⟩
  | exc c S => exact h
  | stuck => exact h
/-- an operator's outcome -/
theorem Aft.op {Q : β → Hp → Prop} {r : R α} (h : Aft K mg P H bar io σ ρ W Q r) (n : r.noX) : ∃ a S', r = .ok a S' ∧ ∀ b H' bar' io', Ext H bar io H' bar' io' → Wd K H' bar' io' σ ρ S' → P H' bar' io' b a → Q b H' := by
  cases r with
  | ok a S => exact ⟨a, S, rfl, h⟩
  | exc c S => exact absurd rfl (n c S)
  | stuck => exact h.elim
/-- an outcome at once -/
theorem Aft.now {Q : β → Hp → Prop} {a : α} {S : Store} {b : β} (h : Aft K mg P H bar io σ ρ W Q (.ok a S)) (w : Wd K H bar io σ ρ S) (p : P H bar io b a) : Q b H := h b H bar io Ext.refl w p
theorem Wd.mono' {S S' : Store} (w : Wd K H bar io σ ρ S) (x : Ext H bar io H1 bar1 io1) (st : StRep K H1 bar1 io1 S') : Wd K H1 bar1 io1 σ ρ S' := ⟨w.env.mono x w.st.live, st⟩
end
section
variable {X : Cx} {W : WX}
/-- another reading of the same -/
theorem _root_.L2.PE.imp {e : Expr} {t t' : TE} (h : PE X e t) (f : ∀ σ H Q, t' σ H Q → t σ H Q) : PE X e t' := ⟨fun pins s σ H Q I q => h.run pins s σ H Q I (f σ H Q q)⟩
theorem _root_.L2.PT.imp {e : Expr} {t t' : TT} (h : PT X e t) (f : ∀ σ H Q, t' σ H Q → t σ H Q) : PT X e t' := ⟨fun pins s σ H Q I q => h.run pins s σ H Q I (f σ H Q q)⟩
theorem _root_.L2.PW.imp {e : Expr} {t t' : TT} (h : PW X e t) (f : ∀ σ H Q, t' σ H Q → t σ H Q) : PW X e t' := ⟨fun wh pins s σ H Q I q => h.run wh pins s σ H Q I (f σ H Q q)⟩
theorem _root_.L2.PA.imp {e : List Expr} {t t' : TA} (h : PA X e t) (f : ∀ σ H Q, t' σ H Q → t σ H Q) : PA X e t' := ⟨fun pos pins s σ H Q I q => h.run pos pins s σ H Q I (f σ H Q q)⟩
theorem _root_.L2.PO.imp {e : Option Expr} {t t' : TO} (h : PO X e t) (f : ∀ σ H Q, t' σ H Q → t σ H Q) : PO X e t' := ⟨fun pins s σ H Q I q => h.run pins s σ H Q I (f σ H Q q)⟩
theorem _root_.L2.PTs.imp {e : List Expr} {t t' : TT} (h : PTs X e t) (f : ∀ σ H Q, t' σ H Q → t σ H Q) : PTs X e t' := ⟨fun pins s σ H Q I q => h.run pins s σ H Q I (f σ H Q q)⟩
theorem _root_.L2.PS.imp {e : Stmt} {t t' : TS} (h : PS X e t) (f : ∀ D σ H, t' D σ H → t D σ H) : PS X e t' := ⟨fun pins s σ H D I q => h.run pins s σ H D I (f D σ H q)⟩
theorem _root_.L2.PSs.imp {e : List Stmt} {t t' : TS} (h : PSs X e t) (f : ∀ D σ H, t' D σ H → t D σ H) : PSs X e t' := ⟨fun pins s σ H D I q => h.run pins s σ H D I (f D σ H q)⟩
theorem _root_.L2.PI.imp {tg e : Expr} {t t' : TI} (h : PI X tg e t) (f : ∀ σ H R, t' σ H R → t σ H R) : PI X tg e t' := ⟨fun pins s σ H Q I q => h.run pins s σ H Q I (f σ H Q q)⟩

abbrev XE' (X : Cx) (W : WX) (e : Expr) (m : Env → Store → R D) : Prop := PE X e (tE X.K X.mg m W)
abbrev XT (X : Cx) (W : WX) (e : Expr) (m : Env → Store → R D) : Prop := PT X e (tQ X.K X.mg (tst m) W)
abbrev XW (X : Cx) (W : WX) (e : Expr) (m : Env → Store → R D) : Prop := PW X e (tQ X.K X.mg (tst m) W)
abbrev XL (X : Cx) (W : WX) (es : List Expr) (m : Env → Store → R (List D)) : Prop := PA X es (tL X.K X.mg m W)

/-! ### the steps -/
theorem x_var {i : Nat} {x : Str} {pos : Pos} (hN : X.N[i]? = some x) (hv : Vis X.env.scope x) (hd : (x == ("__debug__" : Str)) = false) (hcd : (x == ("__classdict__" : Str)) = false) : XE' X W (.Name x pos) (evE (.var i)) := by
  refine (pe_var hN hv hd hcd).imp fun σ H Q ⟨bar, io, ρ, S, wd, h⟩ => ?_
  simp only [evE] at h
  split at h
  · rename_i d hd
    obtain ⟨v, e, r⟩ := wd.env.2 i d hd
    exact ⟨v, e, h.now wd r⟩
  · exact h.elim
theorem x_int {i : Int} {j : Nat} {pos : Pos} : XE' X W (.Constant (.int i) j pos) (evE (.int i)) :=
  pe_int.imp fun σ H Q ⟨bar, io, ρ, S, wd, h⟩ => Aft.now (b := V.int i) h wd (.int i)
theorem x_bl {i : Bool} {j : Nat} {pos : Pos} : XE' X W (.Constant (.bool i) j pos) (evE (.bl i)) :=
  pe_bl.imp fun σ H Q ⟨bar, io, ρ, S, wd, h⟩ => Aft.now (b := V.bl i) h wd (.bl i)
theorem x_non {j : Nat} {pos : Pos} : XE' X W (.Constant .none j pos) (evE .non) :=
  pe_non.imp fun σ H Q ⟨bar, io, ρ, S, wd, h⟩ => Aft.now (b := V.non) h wd .non
theorem x_str {z : Str} {j : Nat} {pos : Pos} (h1 : z.length ≤ sizeLine) (h2 : PyData.strOk z = true) : XE' X W (.Constant (.str z) j pos) (evE (.str z)) :=
  pe_str.imp fun σ H Q ⟨bar, io, ρ, S, wd, h⟩ => Aft.now (b := V.str z) h wd (.str z h1 h2)
/-- a constant of the module -/
def GlobOk (K : PySem.W.Frag) (mg : Str → Option Value) (x : Str) (d : D) : Prop := ∃ v u, mg x = some u ∧ RelV v u ∧ ∀ H bar io, Rep K H bar io v d
theorem x_glob {x : Str} {d : D} {pos : Pos} (hg : Gl X x) (ok : GlobOk X.K X.mg x d) (hd : (x == ("__debug__" : Str)) = false) : XE' X W (.Name x pos) (evE (.glob x d)) := by
  obtain ⟨v, u, hm, r, q⟩ := ok
  exact (pe_glob hg hm r hd).imp fun σ H Q ⟨bar, io, ρ, S, wd, h⟩ => Aft.now (b := v) h wd (q H bar io)
section
variable {a b c : Expr} {ma mb mc : Env → Store → R D} {pos : Pos}
/-- two values, then an operator -/
theorem two_op {f : Store → D → D → R D} (n : ∀ S x y, (f S x y).noX) {σ : St} {H : Hp} {Q : VK} (h : tE X.K X.mg (fun ρ S => (ma ρ S).bind fun x S => (mb ρ S).bind fun y S => f S x y) W σ H Q) :
    tOp (rOp X.K f) (tE X.K X.mg ma W) (tE X.K X.mg mb W) σ H Q := by
  obtain ⟨bar, io, ρ, S, wd, h⟩ := h
  refine ⟨bar, io, ρ, S, wd, (Aft.bind (P := PRep X.K) h).imp fun x H1 ⟨bar1, io1, S1, d1, x1, wd1, r1, _, h1⟩ => ?_⟩
  refine ⟨bar1, io1, ρ, S1, wd1, (Aft.bind (P := PRep X.K) h1).imp fun y H2 ⟨bar2, io2, S2, d2, x2, wd2, r2, _, h2⟩ => ?_⟩
  obtain ⟨d, S', e, q⟩ := h2.op (n _ _ _)
  exact ⟨bar2, io2, S2, d1, d2, d, S', wd2.st, r1.mono x2 wd1.st.live, r2, e, fun v H' bar' io' x st r => q v H' bar' io' x (wd2.mono' x st) r⟩
theorem x_bin (o : BO) (ha : XE' X W a ma) (hb : XE' X W b mb) : XE' X W (.BinOp a (opOf o) b pos) (fun ρ S => (ma ρ S).bind fun x S => (mb ρ S).bind fun y S => binV o S x y) :=
  (pe_op (op_bin o) ha hb).imp fun σ H Q h => two_op (binV_noX o) h
theorem x_neg (ha : XE' X W a ma) : XE' X W (.UnaryOp .USub a pos) (fun ρ S => (ma ρ S).bind fun x S => match x with
    | .int i => .ok (.int (-i)) S
    | _ => .stuck) := by
  refine (pe_un un_neg ha).imp fun σ H Q ⟨bar, io, ρ, S, wd, h⟩ => ?_
  refine ⟨bar, io, ρ, S, wd, (Aft.bind (P := PRep X.K) h).imp fun x H1 ⟨bar1, io1, S1, d1, x1, wd1, r1, _, h1⟩ => ?_⟩
  split at h1
  · cases r1
    exact ⟨_, rfl, h1.now wd1 (.int _)⟩
  · exact h1.elim
theorem tru_rep {K : PySem.W.Frag} {H : Hp} {bar io : List Addr} {S : Store} {x : V} {d : D} {k : Bool} (st : StRep K H bar io S) (r : Rep K H bar io x d) (h : truthy S d = some k) : TruV K x H k := by
  cases r with
  | non => cases h; rfl
  | bl b => cases h; rfl
  | int i => cases h; rfl
  | str s z _ => cases h; exact ⟨z, rfl⟩
  | tup hh z q => cases h; exact .inr (.inl ⟨_, .inl (.inl hh), by cases q <;> rfl⟩)
  | lst hh b z q => cases h; exact .inl ⟨_, .inl (.inl hh), by cases q <;> rfl⟩
  | scr hh z q => cases h; exact .inl ⟨_, .inl (.inr ⟨_, hh⟩), by cases q <;> rfl⟩
  | scrK a b dd c e v q => cases h; exact .inl ⟨_, .inr ⟨_, _, _, a, b, dd, c, e, v⟩, by cases q <;> rfl⟩
  | kup a b c e v q => cases h; exact .inr (.inl ⟨_, .inr ⟨_, _, _, a, b, c, e, v⟩, by cases q <;> rfl⟩)
  | @adr a n e =>
    have h : (match S[n]? with | some (.lst xs) => some (!xs.isEmpty) | some (.dic xs) => some (!xs.isEmpty) | none => none) = some k := h
    cases hc : S[n]? with
    | none => rw [hc] at h; cases h
    | some c =>
      rw [hc] at h
      obtain ⟨a', o, e1, e2, q⟩ := st.cell n _ hc
      rw [e] at e1; cases e1
      cases q with
      | lst z q => cases h; exact .inl ⟨_, .inl (.inl e2), by cases q <;> rfl⟩
      | dic z q => cases h; exact .inr (.inr ⟨_, e2, by cases q <;> rfl⟩)
theorem x_not (ha : XE' X W a ma) : XE' X W (.UnaryOp .Not a pos) (fun ρ S => (ma ρ S).bind fun x S => match truthy S x with
    | some b => .ok (.bl (!b)) S
    | none => .stuck) := by
  refine (pe_notT ha).imp fun σ H Q ⟨bar, io, ρ, S, wd, h⟩ => ?_
  refine ⟨bar, io, ρ, S, wd, (Aft.bind (P := PRep X.K) h).imp fun x H1 ⟨bar1, io1, S1, d1, x1, wd1, r1, _, h1⟩ => ?_⟩
  split at h1
  · rename_i k hk
    exact ⟨k, tru_rep wd1.st r1 hk, h1.now wd1 (.bl _)⟩
  · exact h1.elim
theorem x_cmp (hu : X.A.units + 64 < cLine) (o : CO) (ha : XE' X W a ma) (hb : XE' X W b mb) (hm : behindInMarks (cmpOf o) b = false) : XE' X W (.Compare a [cmpOf o] [b] pos) (fun ρ S => (ma ρ S).bind fun x S => (mb ρ S).bind fun y S => cmpV o S x y) :=
  (pe_cmpR (op_cmp hu o) ha hb hm).imp fun σ H Q h => two_op (cmpV_noX o) h
theorem x_ix (hu : X.A.units + 1 < cLine) (ha : XE' X W a ma) (hb : XE' X W b mb) (hs : PlainIx b) : XE' X W (.Subscript a b pos) (fun ρ S => (ma ρ S).bind fun x S => (mb ρ S).bind fun y S => ixV S x y) :=
  (pe_ix (ix_any hu) ha hb hs).imp fun σ H Q h => two_op ixV_noX h
theorem cmp_bl {o : CO} {S S' : Store} {x y d : D} (h : cmpV o S x y = .ok d S') : (∃ k, d = .bl k) ∧ S' = S := by
  have g : ∀ {b : Bool} {k : Bool} {S S' : Store} {d : D}, guardR b (.ok (.bl k) S) = .ok d S' → (∃ k, d = .bl k) ∧ S' = S := fun {b k S S' d} h => by
    obtain ⟨_, h⟩ := guardR_ok h
    cases h; exact ⟨⟨_, rfl⟩, rfl⟩
  cases o <;> simp only [cmpV] at h
  case eq | ne => unfold eqR at h; split at h; exact g h; cases h
  case inn | notIn =>
    unfold inR at h
    split at h
    · exact g h
    · exact g h
    · split at h
      · exact g h
      · split at h
        · cases h; exact ⟨⟨_, rfl⟩, rfl⟩
        · cases h
  case is | isNot =>
    unfold isR at h
    repeat' split at h
    all_goals first | (cases h; exact ⟨⟨_, rfl⟩, rfl⟩) | cases h
  all_goals (split at h <;> cases h; exact ⟨⟨_, rfl⟩, rfl⟩)
theorem x_chain (hu : X.A.units + 64 < cLine) (o o' : CO) (ha : XE' X W a ma) (hb : XE' X W b mb) (hc : XE' X W c mc) (hm : lastMarks [cmpOf o, cmpOf o'] [b, c] = false) :
    XE' X W (.Compare a [cmpOf o, cmpOf o'] [b, c] pos) (fun ρ S => (ma ρ S).bind fun x S => (mb ρ S).bind fun y S => (cmpV o S x y).bind fun z S => match z with
    | .bl true => (mc ρ S).bind fun w S => cmpV o' S y w
    | .bl false => .ok (.bl false) S
    | _ => .stuck) := by
  refine (pe_chain (op_cmp hu o) (op_cmp hu o') ha hb hc hm).imp fun σ H Q ⟨bar, io, ρ, S, wd, h⟩ => ?_
  refine ⟨bar, io, ρ, S, wd, (Aft.bind (P := PRep X.K) h).imp fun x H1 ⟨bar1, io1, S1, d1, x1, wd1, r1, _, h1⟩ => ?_⟩
  refine ⟨bar1, io1, ρ, S1, wd1, (Aft.bind (P := PRep X.K) h1).imp fun y H2 ⟨bar2, io2, S2, d2, x2, wd2, r2, _, h2⟩ => ?_⟩
  have h3 := Aft.bind (P := PRep X.K) h2
  obtain ⟨d, S', e, q⟩ := h3.op (cmpV_noX _ _ _ _)
  obtain ⟨⟨k, rfl⟩, rfl⟩ := cmp_bl e
  refine ⟨bar2, io2, S', d1, d2, .bl k, S', wd2.st, r1.mono x2 wd1.st.live, r2, e, fun v H' bar' io' x st r => ?_⟩
  obtain ⟨bar3, io3, S3, d3, x3, wd3, r3, e3, h4⟩ := q v H' bar' io' x (wd2.mono' x st) r
  rw [e] at e3; cases e3
  cases r3
  refine ⟨k, rfl, ?_⟩
  cases k with
  | false => exact h4.now wd3 (.bl _)
  | true =>
    refine ⟨bar3, io3, ρ, S', wd3, (Aft.bind (P := PRep X.K) h4).imp fun w H4 ⟨bar4, io4, S4, d4, x4, wd4, r4, _, h5⟩ => ?_⟩
    obtain ⟨d, S', e, q⟩ := h5.op (cmpV_noX _ _ _ _)
    exact ⟨bar4, io4, S4, d2, d4, d, S', wd4.st, (r2.mono x3 wd2.st.live).mono x4 wd3.st.live, r4, e, fun v H' bar' io' x st r => q v H' bar' io' x (wd4.mono' x st) r⟩
end
end
end PX

/-! PXR: t[::-1], t a tuple. -/
namespace PX
open PySem PySem.Spec PyProof.Rows L2 HT
section
variable {prog : Program} {w : World} {A : Around} {E : Value → Shared → Prop} {s : Shared}
theorem sliceApplied_back {sl : Addr} {vs : Value} {n : Nat} {Q : Int × Int × Nat → Shared → Prop} (hs : s.heap.IsSliceOf sl .none .none vs) (ps : IsPart vs (some (-1)))
    (h : Q ((n : Int) - 1, -1, n) s) : wpAny (model prog w) A (Builtin.Slice.sliceApplied (.ref sl) (pure (n : Int))) Q E s := by
  obtain ⟨os, hos, hcs, hds⟩ := id hs
  unfold Builtin.Slice.sliceApplied Builtin.Slice.sliceFields
  refine wpAny_bind (wpAny_bind (wpAny_field hos hds (x := .none) rfl (wpAny_bind (wpAny_field hos hds (x := .none) rfl (wpAny_bind (wpAny_field hos hds (x := vs) rfl (wpAny_pure ?_)))))))
  refine wpAny_bind (slicePart_ ps ?_)
  show wpAny _ _ (if ((-1 : Int) == 0) = true then _ else _) _ _ s
  rw [if_neg (by decide)]
  refine wpAny_bind (slicePart_none (wpAny_bind (slicePart_none (wpAny_bind (wpAny_pure ?_)))))
  have e1 : Builtin.Slice.sliceAdjust none none (-1) (n : Int) = ((n : Int) - 1, -1) := by
    unfold Builtin.Slice.sliceAdjust
    simp
  have e2 : Builtin.Slice.slicePlaces ((n : Int) - 1) (-1) (-1) = n := by
    unfold Builtin.Slice.slicePlaces
    rw [if_neg (by decide)]
    by_cases hn : n = 0
    · subst hn; rfl
    · rw [if_pos (by omega)]
      have : ((n : Int) - 1 - -1 - 1) / (- -1) + 1 = (n : Int) := by
        rw [show (- -1 : Int) = 1 from rfl, Int.ediv_one]
        omega
      rw [this]
      exact Int.toNat_natCast n
  show wpAny _ _ (match Builtin.Slice.sliceAdjust none none (-1) (n : Int) with | (lo, hi) => pure (lo, (-1 : Int), Builtin.Slice.slicePlaces lo hi (-1))) _ _ s
  rw [e1]
  show wpAny _ _ (pure ((n : Int) - 1, (-1 : Int), Builtin.Slice.slicePlaces ((n : Int) - 1) (-1) (-1))) _ _ s
  rw [e2]
  exact wpAny_pure h
theorem fm_congr {α β : Type} {f g : α → Option β} : ∀ {l : List α}, (∀ x ∈ l, f x = g x) → l.filterMap f = l.filterMap g
  | [], _ => rfl
  | x :: l, h => by rw [List.filterMap_cons, List.filterMap_cons, h x List.mem_cons_self, fm_congr fun y hy => h y (List.mem_cons_of_mem _ hy)]
theorem pick_back (xs : Array Value) : ((List.range xs.size).filterMap fun (m : Nat) => xs[((xs.size : Int) - 1 + (m : Int) * (-1)).toNat]?).toArray = xs.toList.reverse.toArray := by
  congr 1
  have e : ∀ m ∈ List.range xs.size, (fun (m : Nat) => xs[((xs.size : Int) - 1 + (m : Int) * (-1)).toNat]?) m = (fun (m : Nat) => xs.toList.reverse[m]?) m := fun m hm => by
    have hm := List.mem_range.mp hm
    have e1 : ((xs.size : Int) - 1 + (m : Int) * (-1)).toNat = xs.size - 1 - m := by omega
    dsimp only
    rw [e1, List.getElem?_reverse (by simpa using hm), Array.length_toList, Array.getElem?_toList]
  rw [fm_congr e]
  have : ∀ l : List Value, (List.range l.length).filterMap (fun m => l[m]?) = l := fun l => by
    induction l with
    | nil => rfl
    | cons x l ih =>
      rw [List.length_cons, List.range_succ_eq_map, List.filterMap_cons]
      simp only [List.getElem?_cons_zero, List.filterMap_map]
      rw [show ((fun m => (x :: l)[m]?) ∘ Nat.succ) = fun m => l[m]? from by funext m; simp]
      rw [ih]
  have h2 := this xs.toList.reverse
  rw [List.length_reverse, Array.length_toList] at h2
  exact h2
theorem getItem_tuple_back {t sl : Addr} {items : Array Value} {vs : Value} {Q : Value → Shared → Prop} (ht : IsTup s.heap t items) (hs : s.heap.IsSliceOf sl .none .none vs) (ps : IsPart vs (some (-1)))
    (h : Q (.ref s.heap.objs.size) { s with heap := s.heap.push { cls := .type "tuple", data := .seq items.toList.reverse.toArray } }) (hsz : items.size ≤ sizeLine) : wpAny (model prog w) A (getItem (.ref t) (.ref sl)) Q E s := by
  have htake : sizeOk (.seq items.toList.reverse.toArray) := by
    show items.toList.reverse.toArray.size ≤ sizeLine
    rw [List.size_toArray, List.length_reverse, Array.length_toList]
    exact hsz
  obtain ⟨os, hos, hcs, hds⟩ := id hs
  have hTs : s.TypeIs (.ref sl) "slice" := ⟨os, hos, hcs⟩
  unfold getItem
  try with_reducible refine wpAny_holding ?_
  first | refine wpAny_bind (wpAny_pure ?_) | skip
  refine wpAny_bind (wpAny_sequenceKey ht.typeIs (by decide) ?_)
  refine wpAny_bind (wpAny_callSpecial?_slot (name := Str.ofString "__getitem__") ht.typeIs PyProof.Rows.slot_tuple_getitem
    (wpAny_call_entry PyProof.Rows.slot_tuple_getitem ht.typeIs entry_tuple_getitem ?_ (args_tuple_getitem _ _)))
  show wpAny _ _ (Builtin.Tuple.tupleItemsOf (.ref t) >>= _) _ _ s
  refine wpAny_bind (tupleItemsOf_ ht ?_)
  refine wpAny_bind (wpAny_typeOf hTs ?_)
  rw [if_pos (by decide)]
  refine wpAny_bind (sliceApplied_back hs ps ?_)
  have hno : ¬ ((((items.size : Int) - 1) == 0 && (-1 : Int) == 1 && items.size == items.size) = true) := by
    intro q
    rw [Bool.and_eq_true, Bool.and_eq_true] at q
    exact absurd q.1.2 (by decide)
  show wpAny _ _ (if (((items.size : Int) - 1) == 0 && (-1 : Int) == 1 && items.size == items.size) = true then _ else _) _ _ s
  rw [if_neg hno, pick_back]
  first
    | exact wpAny_bind (m := Builtin.Tuple.tupleExact _) (wpAny_newObj_type (wpAny_pure ⟨_, rfl, wpAny_pure h⟩) htake)
    | exact wpAny_bind (m := Builtin.Tuple.tupleExact _) (wpAny_newObj_type (wpAny_bind (wpAny_pure (wpAny_pure ⟨_, rfl, wpAny_pure h⟩))) htake)
    | exact wpAny_bind (wpAny_bind (m := Builtin.Tuple.tupleExact _) (wpAny_newObj_type (wpAny_pure (wpAny_pure ⟨_, rfl, wpAny_pure h⟩)) htake))
    | exact wpAny_bind (wpAny_bind (m := Builtin.Tuple.tupleExact _) (wpAny_newObj_type (wpAny_pure ⟨_, rfl, wpAny_pure h⟩) htake))
end
section
variable {X : Cx}
/-- a list or a tuple, from behind -/
def tBack (K : PySem.W.Frag) (te : TE) : TE := fun σ H Q => te σ H fun x H1 => ∃ a xs, x = .ref a ∧ ((SqL K H1 a xs ∧ ∀ p, H1 p = none → Q (.ref p) (upd H1 p (.lst xs.reverse))) ∨ (SqT K H1 a xs ∧ ∀ p, H1 p = none → Q (.ref p) (upd H1 p (.tup xs.reverse))))
theorem pe_back {e : Expr} {te : TE} {k : Nat} {p1 p2 p3 pos : Pos} (he : PE X e te) : PE X (.Subscript e (.Slice none none (some (.UnaryOp .USub (.Constant (.int 1) k p1) p2)) p3) pos) (tBack X.K te) := by
  refine ⟨fun pins s σ H Q I h => ?_⟩
  refine Subscript_ (thn (he.run pins s σ H _ I h) fun v s1 ⟨x, H1, I1, r1, q1⟩ => ?_)
  obtain ⟨a, xs, ex, q⟩ := q1
  subst ex
  cases r1
  have hst : PO X (some (.UnaryOp .USub (.Constant (.int 1) k p1) p2)) (tPart (tUn (rU fun i => .int (-i)) (tC (.int 1)))) := po_some (pe_un un_neg pe_int)
  refine wpAny_Slice (thn (po_none.run pins s1 σ H1 (fun o H2 => o = none ∧ H2 = H1) I1 ⟨rfl, rfl⟩) fun vl s2 ⟨l, H2, I2, pl, el, e2⟩ => ?_)
  subst el e2
  refine thn (po_none.run pins s2 σ H2 (fun o H3 => o = none ∧ H3 = H2) I2 ⟨rfl, rfl⟩) fun vu s3 ⟨u, H3, I3, pu, eu, e3⟩ => ?_
  subst eu e3
  refine thn (hst.run pins s3 σ H3 (fun o H4 => o = some (-1) ∧ H4 = H3) I3 ⟨1, rfl, -1, rfl, rfl, rfl⟩) fun vs s4 ⟨o, H4, I4, ps, eo, e4⟩ => ?_
  subst eo e4
  have I5 : Inv X pins σ H4 { s4 with heap := s4.heap.push { cls := .type "slice", data := .fields #[vl, vu, vs] } } := I4.kept (t' := s4.toks) fun b ob q => Heap.get?_push_of_some _ q
  show wpAny (model X.prog X.w) X.A (subscriptTail e (.Slice none none (some (.UnaryOp .USub (.Constant (.int 1) k p1) p2)) p3) (.ref a) (.ref s4.heap.objs.size)) (EP X pins σ Q) X.xe { s4 with heap := s4.heap.push { cls := .type "slice", data := .fields #[vl, vu, vs] } }
  rcases q with ⟨hx, q⟩ | ⟨hx, q⟩
  · obtain ⟨its, r, ht, hz⟩ := I5.list hx
    have hlen := r.length
    refine tail_any (ops := [.ref a, .ref s4.heap.objs.size]) ht.isList.typeIs (PySem.slot_list_getitem.lookup) ?_ (by with_unfolding_all rfl)
    refine wpAny_getItem_list_slice ht.isList (Heap.IsSliceOf.new _ vl vu vs) pl pu ps (by decide) ?_ (by rw [List.size_toArray]; omega)
    rw [PySem.W.krv_pick]
    refine ⟨.ref _, _, I5.laid (t' := s4.toks) (o := .lst xs.reverse) (fun b ob q => Heap.get?_push_of_some _ q) (Nat.le_refl _) ?_, rfl, q _ (I5.hok.fresh (Nat.le_refl _))⟩
    exact ⟨by rw [List.length_reverse]; exact hz, _, 0, r.reverse, Heap.get?_push_size _ rfl⟩
  · obtain ⟨its, r, ht, hz⟩ := I5.tuple hx
    have hlen := r.length
    cases pl
    cases pu
    refine tail_any (ops := [.ref a, .ref s4.heap.objs.size]) ht.typeIs (PyProof.Rows.slot_tuple_getitem.lookup) ?_ (by with_unfolding_all rfl)
    refine getItem_tuple_back ht (Heap.IsSliceOf.new _ .none .none vs) ps ?_ (by rw [List.size_toArray]; omega)
    refine ⟨.ref _, _, I5.laid (t' := s4.toks) (o := .tup xs.reverse) (fun b ob q => Heap.get?_push_of_some _ q) (Nat.le_refl _) ?_, rfl, q _ (I5.hok.fresh (Nat.le_refl _))⟩
    exact ⟨by rw [List.length_reverse]; exact hz, its.reverse, r.reverse, ⟨_, Heap.get?_push_size _ rfl, rfl, _, rfl⟩⟩
end
end PX

/-! PX8: tests, displays, slices, calls. -/
namespace PX
open PySem L2
section
variable {X : Cx} {W : WX} {a b c : Expr} {es : List Expr} {ma mb mc : Env → Store → R D} {ml : Env → Store → R (List D)} {pos : Pos}
theorem optR_noX {α : Type} (o : Option α) (S : Store) : (optR o S).noX := noX_opt
/-! ### tests -/
/-- a value, then its truth -/
theorem tst_truth {σ : St} {H : Hp} {Q : Bool → Hp → Prop} (h : tQ X.K X.mg (tst ma) W σ H Q) : tE X.K X.mg ma W σ H fun x H' => ∃ k, TruV X.K x H' k ∧ Q k H' := by
  obtain ⟨bar, io, ρ, S, wd, h⟩ := h
  refine ⟨bar, io, ρ, S, wd, (Aft.bind (P := PRep X.K) h).imp fun x H1 ⟨bar1, io1, S1, d1, x1, wd1, r1, _, h1⟩ => ?_⟩
  obtain ⟨k, S', e, q⟩ := h1.op (optR_noX _ _)
  obtain ⟨e, rfl⟩ := optR_ok e
  exact ⟨k, tru_rep wd1.st r1 e, q k H1 bar1 io1 Ext.refl wd1 rfl⟩
theorem t_plain (ha : XE' X W a ma) (he : ∀ whole, isTrue a X.env whole = (do let v ← whole; standAt a.pos; holding [v] (PySem.truthy v))) : XT X W a ma :=
  (pt_truth ha he).imp fun σ H Q h => tst_truth h
theorem t_not (ha : XT X W a ma) : XT X W (.UnaryOp .Not a pos) (fun ρ S => (ma ρ S).bind fun x S => match truthy S x with
    | some b => .ok (.bl (!b)) S
    | none => .stuck) := by
  refine (pt_not ha).imp fun σ H Q ⟨bar, io, ρ, S, wd, h⟩ => ⟨bar, io, ρ, S, wd, ?_⟩
  unfold tst at h ⊢
  dsimp only at h
  cases e : ma ρ S with
  | stuck => rw [e] at h; exact h.elim
  | exc c S' => rw [e] at h; exact h
  | ok d S' =>
    rw [e] at h
    simp only [R.bind_ok] at h ⊢
    cases e2 : truthy S' d with
    | none => rw [e2] at h; exact h.elim
    | some k =>
      rw [e2] at h
      intro b H' bar' io' x w p
      subst p
      exact h _ H' bar' io' x w rfl
/-- of an operator that gives a truth -/
theorem bl_tst {r : R D} {H : Hp} {bar io : List Addr} {σ : St} {ρ : Env} {Q : Bool → Hp → Prop} (hb : ∀ d S', r = .ok d S' → ∃ k, d = .bl k) (h : Aft X.K X.mg PEq H bar io σ ρ W Q (r.bind fun d S => optR (truthy S d) S)) :
    Aft X.K X.mg (PRep X.K) H bar io σ ρ W (fun x H' => ∃ k, x = .bl k ∧ Q k H') r := by
  refine (Aft.bind (P := PRep X.K) h).imp fun x H1 ⟨bar1, io1, S1, d1, x1, wd1, r1, e1, h1⟩ => ?_
  obtain ⟨k, rfl⟩ := hb _ _ e1
  cases r1
  exact ⟨k, rfl, Aft.now (b := k) h1 wd1 rfl⟩
theorem R.bind_eq_ok {α β : Type} {r : R α} {f : α → Store → R β} {b : β} {S' : Store} (h : r.bind f = .ok b S') : ∃ a S, r = .ok a S ∧ f a S = .ok b S' := by
  cases r with
  | ok a S => exact ⟨a, S, rfl, h⟩
  | exc c S => cases h
  | stuck => cases h
theorem t_cmp (hu : X.A.units + 64 < cLine) (o : CO) (ha : XE' X W a ma) (hb : XE' X W b mb) (hm : behindInMarks (cmpOf o) b = false) : XT X W (.Compare a [cmpOf o] [b] pos) (fun ρ S => (ma ρ S).bind fun x S => (mb ρ S).bind fun y S => cmpV o S x y) := by
  refine (pt_cmpR (op_cmp hu o) ha hb hm).imp fun σ H Q ⟨bar, io, ρ, S, wd, h⟩ => two_op (cmpV_noX o) ⟨bar, io, ρ, S, wd, bl_tst (fun d S' e => ?_) h⟩
  obtain ⟨d1, S1, _, e⟩ := R.bind_eq_ok e
  obtain ⟨d2, S2, _, e⟩ := R.bind_eq_ok e
  exact (cmp_bl e).1
theorem t_chain (hu : X.A.units + 64 < cLine) (o o' : CO) (ha : XE' X W a ma) (hb : XE' X W b mb) (hc : XE' X W c mc) (hm : lastMarks [cmpOf o, cmpOf o'] [b, c] = false) :
    XT X W (.Compare a [cmpOf o, cmpOf o'] [b, c] pos) (fun ρ S => (ma ρ S).bind fun x S => (mb ρ S).bind fun y S => (cmpV o S x y).bind fun z S => match z with
    | .bl true => (mc ρ S).bind fun w S => cmpV o' S y w
    | .bl false => .ok (.bl false) S
    | _ => .stuck) := by
  refine (pt_chain (op_cmp hu o) (op_cmp hu o') ha hb hc hm).imp fun σ H Q ⟨bar, io, ρ, S, wd, h⟩ => ?_
  have h := bl_tst (fun d S' e => ?_) h
  · refine ⟨bar, io, ρ, S, wd, (Aft.bind (P := PRep X.K) h).imp fun x H1 ⟨bar1, io1, S1, d1, x1, wd1, r1, _, h1⟩ => ?_⟩
    refine ⟨bar1, io1, ρ, S1, wd1, (Aft.bind (P := PRep X.K) h1).imp fun y H2 ⟨bar2, io2, S2, d2, x2, wd2, r2, _, h2⟩ => ?_⟩
    have h3 := Aft.bind (P := PRep X.K) h2
    obtain ⟨d, S', e, q⟩ := h3.op (cmpV_noX _ _ _ _)
    obtain ⟨⟨k, rfl⟩, rfl⟩ := cmp_bl e
    refine ⟨bar2, io2, S', d1, d2, .bl k, S', wd2.st, r1.mono x2 wd1.st.live, r2, e, fun v H' bar' io' x st r => ?_⟩
    obtain ⟨bar3, io3, S3, d3, x3, wd3, r3, e3, h4⟩ := q v H' bar' io' x (wd2.mono' x st) r
    rw [e] at e3; cases e3
    cases r3
    refine ⟨k, rfl, ?_⟩
    cases k with
    | false => exact h4.now wd3 (.bl _)
    | true =>
      refine ⟨bar3, io3, ρ, S', wd3, (Aft.bind (P := PRep X.K) h4).imp fun w H4 ⟨bar4, io4, S4, d4, x4, wd4, r4, _, h5⟩ => ?_⟩
      obtain ⟨d, S', e, q⟩ := h5.op (cmpV_noX _ _ _ _)
      exact ⟨bar4, io4, S4, d2, d4, d, S', wd4.st, (r2.mono x3 wd2.st.live).mono x4 wd3.st.live, r4, e, fun v H' bar' io' x st r => q v H' bar' io' x (wd4.mono' x st) r⟩
  · obtain ⟨d1, S1, _, e⟩ := R.bind_eq_ok e
    obtain ⟨d2, S2, _, e⟩ := R.bind_eq_ok e
    obtain ⟨d3, S3, _, e⟩ := R.bind_eq_ok e
    split at e
    · obtain ⟨d4, S4, _, e⟩ := R.bind_eq_ok e
      exact (cmp_bl e).1
    · cases e; exact ⟨_, rfl⟩
    · cases e

/-! ### if else -/
theorem ite_aft {β γ : Type} {P : Hp → List Addr → List Addr → β → γ → Prop} {ga gb : Env → Store → R γ} {H : Hp} {bar io : List Addr} {σ : St} {ρ : Env} {S : Store} {Q : β → Hp → Prop} {mt : Env → Store → R D} (wd : Wd X.K H bar io σ ρ S)
    (h : Aft X.K X.mg P H bar io σ ρ W Q ((mt ρ S).bind fun x S => match truthy S x with
      | some true => ga ρ S
      | some false => gb ρ S
      | none => .stuck)) : tQ X.K X.mg (tst mt) W σ H fun k H1 => if k = true then tG X.K X.mg P ga W σ H1 Q else tG X.K X.mg P gb W σ H1 Q := by
  refine ⟨bar, io, ρ, S, wd, ?_⟩
  unfold tst
  cases e : mt ρ S with
  | stuck => rw [e] at h; exact h.elim
  | exc c S' => rw [e] at h; exact h
  | ok d S' =>
    rw [e] at h
    simp only [R.bind_ok] at h ⊢
    cases e2 : truthy S' d with
    | none => rw [e2] at h; exact h.elim
    | some k =>
      rw [e2] at h
      intro b H' bar' io' x w p
      subst p
      cases b with
      | true => exact ⟨bar', io', ρ, S', w, h.mono x⟩
      | false => exact ⟨bar', io', ρ, S', w, h.mono x⟩
theorem x_ite (hc : XT X W c mc) (ha : XE' X W a ma) (hb : XE' X W b mb) : XE' X W (.IfExp c a b pos) (fun ρ S => (mc ρ S).bind fun x S => match truthy S x with
    | some true => ma ρ S
    | some false => mb ρ S
    | none => .stuck) :=
  (pe_ifExp hc ha hb).imp fun σ H Q ⟨bar, io, ρ, S, wd, h⟩ => ite_aft wd h

theorem t_ite (hc : XT X W c mc) (ha : XT X W a ma) (hb : XT X W b mb) : XT X W (.IfExp c a b pos) (fun ρ S => (mc ρ S).bind fun x S => match truthy S x with
    | some true => ma ρ S
    | some false => mb ρ S
    | none => .stuck) := by
  refine ⟨fun pins s σ H Q I ⟨bar, io, ρ, S, wd, h⟩ => ?_⟩
  have h2 : Aft X.K X.mg PEq H bar io σ ρ W Q ((mc ρ S).bind fun x S => match truthy S x with
      | some true => tst ma ρ S
      | some false => tst mb ρ S
      | none => .stuck) := by
    unfold tst at h ⊢
    dsimp only at h
    cases e : mc ρ S with
    | stuck => rw [e] at h; exact h
    | exc c S' => rw [e] at h; exact h
    | ok d S' =>
      rw [e] at h
      simp only [R.bind_ok] at h ⊢
      cases e2 : truthy S' d with
      | none => rw [e2] at h; exact h
      | some k => rw [e2] at h; cases k <;> exact h
  have h3 := ite_aft wd h2
  show wpAny _ _ (do if ← isTrue c X.env (eval c X.env) then isTrue a X.env (eval a X.env) else isTrue b X.env (eval b X.env)) _ _ _
  refine wpAny_bind (thn (hc.run pins s σ H _ I h3) fun d s1 ⟨H1, I1, q1⟩ => ?_)
  cases d with
  | true => exact ha.run pins s1 σ H1 Q I1 q1
  | false => exact hb.run pins s1 σ H1 Q I1 q1

/-! ### lists of values, displays -/
theorem l_nil : XL X W [] (evL .nil) := pa_nil.imp fun σ H Q ⟨bar, io, ρ, S, wd, h⟩ => Aft.now (b := ([] : List V)) h wd .nil
theorem l_cons (ha : XE' X W a ma) (hr : XL X W es ml) (hs : starEach (a :: es) X.env = (false, eval a X.env) :: starEach es X.env) : XL X W (a :: es) (fun ρ S => (ma ρ S).bind fun d S => (ml ρ S).bind fun ds S => .ok (d :: ds) S) := by
  refine (pa_cons ha hr hs).imp fun σ H Q ⟨bar, io, ρ, S, wd, h⟩ => ?_
  refine ⟨bar, io, ρ, S, wd, (Aft.bind (P := PRep X.K) h).imp fun x H1 ⟨bar1, io1, S1, d1, x1, wd1, r1, _, h1⟩ => ?_⟩
  refine ⟨bar1, io1, ρ, S1, wd1, (Aft.bind (P := PReps X.K) h1).imp fun y H2 ⟨bar2, io2, S2, d2, x2, wd2, r2, _, h2⟩ => ?_⟩
  exact Aft.now (b := x :: y) h2 wd2 (.cons (r1.mono x2 wd1.st.live) r2)
theorem x_tup {k : Nat} (hl : es.length ≤ sizeLine) (hn : ∀ ρ S ds S', ml ρ S = .ok ds S' → ds.length = es.length) (he : XL X W es ml) : XE' X W (.Tuple es k pos) (fun ρ S => (ml ρ S).bind fun ds S => .ok (.tup ds) S) := by
  refine (pe_tup he).imp fun σ H Q ⟨bar, io, ρ, S, wd, h⟩ => ?_
  refine ⟨bar, io, ρ, S, wd, (Aft.bind (P := PReps X.K) h).imp fun x H1 ⟨bar1, io1, S1, d1, x1, wd1, r1, e1, h1⟩ => ?_⟩
  have z : x.length ≤ sizeLine := by rw [r1.length, hn _ _ _ _ e1]; exact hl
  refine ⟨z, fun p hp => ?_⟩
  obtain ⟨y1, y2, y3⟩ := new_tup wd1.st r1 z hp
  exact h1 _ _ _ _ y1 (wd1.mono' y1 y2) y3
theorem x_lst (hl : es.length ≤ sizeLine) (hn : ∀ ρ S ds S', ml ρ S = .ok ds S' → ds.length = es.length) (he : XL X W es ml) : XE' X W (.List es pos) (fun ρ S => (ml ρ S).bind fun ds S => .ok (.lst ds) S) := by
  refine (pe_lst he).imp fun σ H Q ⟨bar, io, ρ, S, wd, h⟩ => ?_
  refine ⟨bar, io, ρ, S, wd, (Aft.bind (P := PReps X.K) h).imp fun x H1 ⟨bar1, io1, S1, d1, x1, wd1, r1, e1, h1⟩ => ?_⟩
  have z : x.length ≤ sizeLine := by rw [r1.length, hn _ _ _ _ e1]; exact hl
  refine ⟨z, fun p hp => ?_⟩
  obtain ⟨y1, y2, y3⟩ := new_lst wd1.st r1 z hp
  exact h1 _ _ _ _ y1 (wd1.mono' y1 y2) y3
theorem x_new (hl : es.length ≤ sizeLine) (hn : ∀ ρ S ds S', ml ρ S = .ok ds S' → ds.length = es.length) (he : XL X W es ml) : XE' X W (.List es pos) (fun ρ S => (ml ρ S).bind fun ds S => .ok (.adr S.length) (S ++ [.lst ds])) := by
  refine (pe_lst he).imp fun σ H Q ⟨bar, io, ρ, S, wd, h⟩ => ?_
  refine ⟨bar, io, ρ, S, wd, (Aft.bind (P := PReps X.K) h).imp fun x H1 ⟨bar1, io1, S1, d1, x1, wd1, r1, e1, h1⟩ => ?_⟩
  have z : x.length ≤ sizeLine := by rw [r1.length, hn _ _ _ _ e1]; exact hl
  refine ⟨z, fun p hp => ?_⟩
  obtain ⟨y1, y2, y3⟩ := new_cell wd1.st r1 z hp
  exact h1 _ _ _ _ y1 (wd1.mono' y1 y2) y3
theorem x_dic : XE' X W (.Dict [] [] pos) (evE .dic) := by
  refine pe_dnewK.imp fun σ H Q ⟨bar, io, ρ, S, wd, h⟩ p hp => ?_
  obtain ⟨y1, y2, y3⟩ := new_dic wd.st hp
  exact h _ _ _ _ y1 (wd.mono' y1 y2) y3

/-! ### and, or -/
section
variable {op : BoolOp} {rest : List Expr}
theorem and_aft {σ : St} {H : Hp} {Q : VK} (h : tE X.K X.mg (fun ρ S => (ma ρ S).bind fun d S => match truthy S d with
      | some true => mb ρ S
      | some false => .ok d S
      | none => .stuck) W σ H Q) : tAndT X.K (tE X.K X.mg ma W) (tE X.K X.mg mb W) σ H Q := by
  obtain ⟨bar, io, ρ, S, wd, h⟩ := h
  refine ⟨bar, io, ρ, S, wd, (Aft.bind (P := PRep X.K) h).imp fun x H1 ⟨bar1, io1, S1, d1, x1, wd1, r1, _, h1⟩ => ?_⟩
  split at h1
  · rename_i e
    exact ⟨true, tru_rep wd1.st r1 e, iteT ⟨bar1, io1, ρ, S1, wd1, h1⟩⟩
  · rename_i e
    exact ⟨false, tru_rep wd1.st r1 e, iteF (h1.now wd1 r1)⟩
  · exact h1.elim
theorem x_and (ha : XE' X W a ma) (hb : XE' X W (.BoolOp .And (b :: rest) pos) mb) : XE' X W (.BoolOp .And (a :: b :: rest) pos) (fun ρ S => (ma ρ S).bind fun d S => match truthy S d with
      | some true => mb ρ S
      | some false => .ok d S
      | none => .stuck) := (pe_andT ha hb).imp fun σ H Q h => and_aft h
theorem or_aft {σ : St} {H : Hp} {Q : VK} (h : tE X.K X.mg (fun ρ S => (ma ρ S).bind fun d S => match truthy S d with
      | some true => .ok d S
      | some false => mb ρ S
      | none => .stuck) W σ H Q) : tOrT X.K (tE X.K X.mg ma W) (tE X.K X.mg mb W) σ H Q := by
  obtain ⟨bar, io, ρ, S, wd, h⟩ := h
  refine ⟨bar, io, ρ, S, wd, (Aft.bind (P := PRep X.K) h).imp fun x H1 ⟨bar1, io1, S1, d1, x1, wd1, r1, _, h1⟩ => ?_⟩
  split at h1
  · rename_i e
    exact ⟨true, tru_rep wd1.st r1 e, iteT (h1.now wd1 r1)⟩
  · rename_i e
    exact ⟨false, tru_rep wd1.st r1 e, iteF ⟨bar1, io1, ρ, S1, wd1, h1⟩⟩
  · exact h1.elim
theorem x_or (ha : XE' X W a ma) (hb : XE' X W (.BoolOp .Or (b :: rest) pos) mb) : XE' X W (.BoolOp .Or (a :: b :: rest) pos) (fun ρ S => (ma ρ S).bind fun d S => match truthy S d with
      | some true => .ok d S
      | some false => mb ρ S
      | none => .stuck) := (pe_orT ha hb).imp fun σ H Q h => or_aft h
/-- as tests -/
theorem w_and (ha : XT X W a ma) (hb : XW X W (.BoolOp .And (b :: rest) pos) mb) : XW X W (.BoolOp .And (a :: b :: rest) pos) (fun ρ S => (ma ρ S).bind fun d S => match truthy S d with
      | some true => mb ρ S
      | some false => .ok d S
      | none => .stuck) := by
  refine (pw_and ha hb).imp fun σ H Q ⟨bar, io, ρ, S, wd, h⟩ => ⟨bar, io, ρ, S, wd, ?_⟩
  unfold tst at h ⊢
  dsimp only at h
  cases e : ma ρ S with
  | stuck => rw [e] at h; exact h
  | exc c S' => rw [e] at h; exact h
  | ok d S' =>
    rw [e] at h
    simp only [R.bind_ok] at h ⊢
    cases e2 : truthy S' d with
    | none => rw [e2] at h; exact h
    | some k =>
      rw [e2] at h
      intro k' H' bar' io' x w p
      subst p
      cases k' with
      | true => exact iteT ⟨bar', io', ρ, S', w, h.mono x⟩
      | false =>
        have h : Aft X.K X.mg PEq H bar io σ ρ W Q ((R.ok d S').bind fun d S => optR (truthy S d) S) := h
        simp only [R.bind_ok, e2] at h
        exact iteF (h false H' bar' io' x w rfl)
theorem w_or (ha : XT X W a ma) (hb : XW X W (.BoolOp .Or (b :: rest) pos) mb) : XW X W (.BoolOp .Or (a :: b :: rest) pos) (fun ρ S => (ma ρ S).bind fun d S => match truthy S d with
      | some true => .ok d S
      | some false => mb ρ S
      | none => .stuck) := by
  refine (pw_or ha hb).imp fun σ H Q ⟨bar, io, ρ, S, wd, h⟩ => ⟨bar, io, ρ, S, wd, ?_⟩
  unfold tst at h ⊢
  dsimp only at h
  cases e : ma ρ S with
  | stuck => rw [e] at h; exact h
  | exc c S' => rw [e] at h; exact h
  | ok d S' =>
    rw [e] at h
    simp only [R.bind_ok] at h ⊢
    cases e2 : truthy S' d with
    | none => rw [e2] at h; exact h
    | some k =>
      rw [e2] at h
      intro k' H' bar' io' x w p
      subst p
      cases k' with
      | false => exact iteF ⟨bar', io', ρ, S', w, h.mono x⟩
      | true =>
        have h : Aft X.K X.mg PEq H bar io σ ρ W Q ((R.ok d S').bind fun d S => optR (truthy S d) S) := h
        simp only [R.bind_ok, e2] at h
        exact iteT (h true H' bar' io' x w rfl)
end

/-! ### slices -/
abbrev XO (X : Cx) (W : WX) (e : Option Expr) (m : Env → Store → R (Option Int)) : Prop := PO X e (tQ X.K X.mg m W)
theorem o_none : XO X W none (evO .none) := po_none.imp fun σ H Q ⟨bar, io, ρ, S, wd, h⟩ => Aft.now (b := none) h wd rfl
theorem o_some (ha : XE' X W a ma) : XO X W (some a) (fun ρ S => (ma ρ S).bind fun d S => match d with
    | .int i => .ok (some i) S
    | _ => .stuck) := by
  refine (po_some ha).imp fun σ H Q ⟨bar, io, ρ, S, wd, h⟩ => ?_
  refine ⟨bar, io, ρ, S, wd, (Aft.bind (P := PRep X.K) h).imp fun x H1 ⟨bar1, io1, S1, d1, x1, wd1, r1, _, h1⟩ => ?_⟩
  split at h1
  · cases r1
    exact ⟨_, rfl, Aft.now (b := some _) h1 wd1 rfl⟩
  · exact h1.elim
theorem x_sl {lo hi : Option Expr} {ml mh : Env → Store → R (Option Int)} {p2 : Pos} (ha : XE' X W a ma) (hl : XO X W lo ml) (hh : XO X W hi mh) :
    XE' X W (.Subscript a (.Slice lo hi none p2) pos) (fun ρ S => (ma ρ S).bind fun x S => (ml ρ S).bind fun l S => (mh ρ S).bind fun h S => slV S x l h) := by
  refine (pe_slice sl_any ha hl hh).imp fun σ H Q ⟨bar, io, ρ, S, wd, h⟩ => ?_
  refine ⟨bar, io, ρ, S, wd, (Aft.bind (P := PRep X.K) h).imp fun x H1 ⟨bar1, io1, S1, d1, x1, wd1, r1, _, h1⟩ => ?_⟩
  refine ⟨bar1, io1, ρ, S1, wd1, (Aft.bind (P := PEq) h1).imp fun y H2 ⟨bar2, io2, S2, d2, x2, wd2, r2, _, h2⟩ => ?_⟩
  subst r2
  refine ⟨bar2, io2, ρ, S2, wd2, (Aft.bind (P := PEq) h2).imp fun z H3 ⟨bar3, io3, S3, d3, x3, wd3, r3, _, h3⟩ => ?_⟩
  subst r3
  obtain ⟨d, S', e, q⟩ := h3.op (slV_noX _ _ _ _)
  exact ⟨bar3, io3, S3, d1, d, S', wd3.st, (r1.mono x2 wd1.st.live).mono x3 wd2.st.live, e, fun v H' bar' io' x st r => q v H' bar' io' x (wd3.mono' x st) r⟩
theorem tupW_rep {K : PySem.W.Frag} {H : Hp} {bar io : List Addr} {x : V} {d : D} {xs : List D} (r : Rep K H bar io x d) (h : tupW d = some xs) : ∃ a vs, x = .ref a ∧ SqT K H a vs ∧ vs.length ≤ sizeLine ∧ Reps K H bar io vs xs := by
  cases d with
  | tup ys => cases h; exact tup_rep r
  | kup ys => cases h; exact kup_rep r
  | _ => cases h
theorem x_rev {k : Nat} {p1 p2 p3 : Pos} (ha : XE' X W a ma) : XE' X W (.Subscript a (.Slice none none (some (.UnaryOp .USub (.Constant (.int 1) k p1) p2)) p3) pos) (fun ρ S => (ma ρ S).bind fun x S => backV S x) := by
  refine (pe_back ha).imp fun σ H Q ⟨bar, io, ρ, S, wd, h⟩ => ?_
  refine ⟨bar, io, ρ, S, wd, (Aft.bind (P := PRep X.K) h).imp fun x H1 ⟨bar1, io1, S1, d1, x1, wd1, r1, _, h1⟩ => ?_⟩
  unfold backV at h1
  cases ht : tupW d1 with
  | some xs =>
    rw [ht] at h1
    obtain ⟨p, vs, rfl, hs, z, q⟩ := tupW_rep r1 ht
    refine ⟨p, vs, rfl, .inr ⟨hs, fun p hp => ?_⟩⟩
    obtain ⟨y1, y2, y3⟩ := new_tup wd1.st q.reverse (by rw [List.length_reverse]; exact z) hp
    exact h1 _ _ _ _ y1 (wd1.mono' y1 y2) y3
  | none =>
    rw [ht] at h1
    dsimp only at h1
    split at h1
    · rename_i xs hx
      obtain ⟨p, vs, rfl, hs, z, q⟩ := asLst_rep wd1.st r1 hx
      refine ⟨p, vs, rfl, .inl ⟨hs, fun p hp => ?_⟩⟩
      obtain ⟨y1, y2, y3⟩ := new_lst wd1.st q.reverse (by rw [List.length_reverse]; exact z) hp
      exact h1 _ _ _ _ y1 (wd1.mono' y1 y2) y3
    · exact h1.elim
end
end PX

/-! PX9: calls of defs, of built-ins, of methods; isinstance. -/
namespace PX
open PySem L2
/-- what a def promises -/
def spFn (K : PySem.W.Frag) (mg : Str → Option Value) (f : FnI) : Sp := fun vs H Q E => vs.length = f.ps.length ∧ ∃ bar io S ds, StRep K H bar io S ∧ Reps K H bar io vs ds ∧ match f.sem S ds with
  | .ok d S' => ∀ v H' bar' io', Ext H bar io H' bar' io' → StRep K H' bar' io' S' → Rep K H' bar' io' v d → Q v H'
  | .exc c S' => ∀ H' bar' io' C, Ext H bar io H' bar' io' → StRep K H' bar' io' S' → mg c = some (.ref C) → E (.ref C) none H'
  | .stuck => False
/-- the values in the parameters' order -/
def argG {α : Type} (z : α) (ps ks : List Str) (us ws : List α) : List α := us ++ (ps.drop us.length).map fun p => ((ks.zip ws).lookup p).getD z
structure FnGood (P : Program) (w : World) (K : PySem.W.Frag) (mg : Str → Option Value) (base : Heap) (lvl : Nat) (f : FnI) : Prop where
  ex : ∃ (a : Addr) (fd : FuncData), FnOk P w K mg base (L2.CX P w) lvl a fd f.ps (spFn K mg f) ∧ mg f.name = some (.ref a) ∧ PySem.W.keepIn K (.ref a) = true ∧ Binds K fd f.ps [] ∧
    ∀ q ∈ f.kps, ∀ (s : Shared) (us ws : List Value), us.length = q.1 → ws.length = q.2.length → BindsTo s fd ⟨us, q.2.zip ws⟩ (f.ps.zip (argG Value.none f.ps q.2 us ws))
theorem FnGood.mono {P : Program} {w : World} {K : PySem.W.Frag} {mg : Str → Option Value} {base : Heap} {j k : Nat} {f : FnI} (h : FnGood P w K mg base j f) (l : j ≤ k) : FnGood P w K mg base k f := by
  obtain ⟨a, fd, h1, h2⟩ := h.ex
  exact ⟨a, fd, h1.mono l, h2⟩
section
variable {K : PySem.W.Frag} {mg : Str → Option Value} {H : Hp} {bar io : List Addr} {σ : St} {ρ : Env} {W : WX} {S : Store}
/-- back from a call that had a store of its own -/
theorem Ext.own {H' : Hp} {bar' io' : List Addr} {S' : Store} (st : StRep K H bar io S) (x : Ext H bar [] H' bar' io') (st' : StRep K H' bar' io' S') : Ext H bar io H' bar' io ∧ StRep K H' bar' io S := by
  have x1 : Ext H bar io H' bar' io := ⟨⟨[], by simp, by simp⟩, x.bo, x.bi, fun a o h _ => x.ke a o h (by simp), x.al⟩
  refine ⟨x1, st.mono x1 (fun a ha => ?_) st'.bal⟩
  have hm := st.live.1 a ha
  cases e : H a with
  | none => rw [e] at hm; exact hm.elim
  | some o => exact x.ke a o e (by simp)
theorem call_aft {sh : Bool} {f : FnI} {vs : List V} {ds : List D} {Q : VK} (wd : Wd K H bar io σ ρ S) (r : Reps K H bar io vs ds) (h : Aft K mg (PRep K) H bar io σ ρ W Q (callV sh f ds S)) : spFn K mg f vs H Q (WE W σ) := by
  unfold callV at h
  cases hl : decide (ds.length = f.ps.length) with
  | false => rw [hl] at h; exact h.elim
  | true =>
    rw [hl] at h
    rw [guardR_true] at h
    have hl := of_decide_eq_true hl
    refine ⟨r.length.trans hl, ?_⟩
    cases sh with
    | true =>
      refine ⟨bar, io, S, ds, wd.st, r, ?_⟩
      have h : Aft K mg (PRep K) H bar io σ ρ W Q (f.sem S ds) := h
      cases e : f.sem S ds with
      | ok d S' => rw [e] at h; exact fun v H' bar' io' x st q => h v H' bar' io' x (wd.mono' x st) q
      | exc c S' => rw [e] at h; exact fun H' bar' io' C x st q => h H' bar' io' C x (wd.mono' x st) q
      | stuck => rw [e] at h; exact h
    | false =>
      have h : Aft K mg (PRep K) H bar io σ ρ W Q (guardR (D.frees ds) (match f.sem [] ds with
        | .ok d _ => guardR (D.free d) (.ok d S)
        | .exc c _ => .exc c S
        | .stuck => .stuck)) := h
      cases hf : D.frees ds with
      | false => rw [hf] at h; exact h.elim
      | true =>
        rw [hf, guardR_true] at h
        refine ⟨bar, [], [], ds, ⟨rfl, List.nodup_nil, by simp, wd.st.bal, by simp⟩, r.of_frees hf, ?_⟩
        cases e : f.sem [] ds with
        | ok d S' =>
          rw [e] at h
          have h : Aft K mg (PRep K) H bar io σ ρ W Q (guardR (D.free d) (.ok d S)) := h
          cases hd : D.free d with
          | false => rw [hd] at h; exact h.elim
          | true =>
            rw [hd, guardR_true] at h
            intro v H' bar' io' x st q
            obtain ⟨x1, st1⟩ := Ext.own wd.st x st
            exact h v H' bar' io x1 (wd.mono' x1 st1) (q.of_free hd)
        | exc c S' =>
          rw [e] at h
          intro H' bar' io' C x st q
          obtain ⟨x1, st1⟩ := Ext.own wd.st x st
          exact h H' bar' io C x1 (wd.mono' x1 st1) q
        | stuck => rw [e] at h; exact h
theorem look_rep {ks : List Str} (p : Str) : ∀ {vs : List V} {ds : List D}, Reps K H bar io vs ds → Rep K H bar io (((ks.zip vs).lookup p).getD .non) (((ks.zip ds).lookup p).getD .non) := by
  induction ks with
  | nil => intro vs ds _; exact .non
  | cons k ks ih =>
    intro vs ds r
    cases r with
    | nil => exact .non
    | cons q t =>
      rw [List.zip_cons_cons, List.zip_cons_cons, List.lookup_cons, List.lookup_cons]
      cases p == k with
      | true => exact q
      | false => exact ih t
theorem argG_rep {ps ks : List Str} {vs zs : List V} {ds es : List D} (r : Reps K H bar io vs ds) (q : Reps K H bar io zs es) : Reps K H bar io (argG V.non ps ks vs zs) (argG D.non ps ks ds es) := by
  unfold argG
  refine r.append ?_
  rw [r.length]
  generalize ps.drop ds.length = l
  induction l with
  | nil => exact .nil
  | cons p l ih => exact .cons (look_rep p q) ih
theorem look_val {ks : List Str} (p : Str) : ∀ {vs : List V} {us : List Value}, Vals vs us → L2.RelV (((ks.zip vs).lookup p).getD .non) (((ks.zip us).lookup p).getD .none) := by
  induction ks with
  | nil => intro vs ds _; exact rfl
  | cons k ks ih =>
    intro vs ds r
    cases r with
    | nil => exact rfl
    | cons q t =>
      rw [List.zip_cons_cons, List.zip_cons_cons, List.lookup_cons, List.lookup_cons]
      cases p == k with
      | true => exact q
      | false => exact ih t
theorem argG_val {ps ks : List Str} {vs zs : List V} {us ws : List Value} (r : Vals vs us) (q : Vals zs ws) : Vals (argG V.non ps ks vs zs) (argG Value.none ps ks us ws) := by
  unfold argG
  refine r.append ?_
  rw [r.length]
  generalize ps.drop us.length = l
  induction l with
  | nil => exact .nil
  | cons p l ih => exact .cons (look_val p q) ih
end
section
variable {X : Cx} {W : WX} {a b c e : Expr} {es : List Expr} {ma mb mc : Env → Store → R D} {ml mk : Env → Store → R (List D)} {pos : Pos}
/-- f(e, ..) -/
theorem x_call {lvl : Nat} {sh : Bool} {f : FnI} {p : Pos} (tk : Takes X W) (F : FnGood X.prog X.w X.K X.mg X.base lvl f) (hr : Room lvl X.A) (hg : Gl X f.name) (hdb : (f.name == ("__debug__" : Str)) = false) (ha : XL X W (e :: es) ml)
    (he : starEach (e :: es) X.env = (false, eval e X.env) :: starEach es X.env) (hpl : (backTo pos (starEach es X.env)).any (·.1) = false) :
    XE' X W (.Call (.Name f.name p) (e :: es) [] pos) (fun ρ S => (ml ρ S).bind fun ds S => callV sh f ds S) := by
  obtain ⟨a, fd, F1, F2, F3, F4, _⟩ := F.ex
  refine (pe_callS (E := WE W) F1 hr hg F2 F3 F4 (fun σ => passAt tk σ) ha hdb he hpl).imp fun σ H Q ⟨bar, io, ρ, S, wd, h⟩ => ?_
  exact ⟨bar, io, ρ, S, wd, (Aft.bind (P := PReps X.K) h).imp fun x H1 ⟨bar1, io1, S1, d1, x1, wd1, r1, _, h1⟩ => call_aft wd1 r1 h1⟩
/-- the values of keywords -/
abbrev XK' (X : Cx) (W : WX) (kws : List Keyword) (m : Env → Store → R (List D)) : Prop := PK X kws (tL X.K X.mg m W)
theorem _root_.L2.PK.imp {X : Cx} {kws : List Keyword} {t t' : TA} (h : PK X kws t) (f : ∀ σ H Q, t' σ H Q → t σ H Q) : PK X kws t' := ⟨fun pos pins s σ H Q I q => h.run pos pins s σ H Q I (f σ H Q q)⟩
theorem k_nil : XK' X W [] (evL .nil) := pk_nil.imp fun σ H Q ⟨bar, io, ρ, S, wd, h⟩ => Aft.now (b := ([] : List V)) h wd .nil
theorem k_cons {kws : List Keyword} {nm : Option Str} {kpos : Pos} (ha : XE' X W a ma) (hr : XK' X W kws ml) : XK' X W (⟨nm, a, kpos⟩ :: kws) (fun ρ S => (ma ρ S).bind fun d S => (ml ρ S).bind fun ds S => .ok (d :: ds) S) := by
  refine (pk_cons ha hr).imp fun σ H Q ⟨bar, io, ρ, S, wd, h⟩ => ?_
  refine ⟨bar, io, ρ, S, wd, (Aft.bind (P := PRep X.K) h).imp fun x H1 ⟨bar1, io1, S1, d1, x1, wd1, r1, _, h1⟩ => ?_⟩
  refine ⟨bar1, io1, ρ, S1, wd1, (Aft.bind (P := PReps X.K) h1).imp fun y H2 ⟨bar2, io2, S2, d2, x2, wd2, r2, _, h2⟩ => ?_⟩
  exact Aft.now (b := x :: y) h2 wd2 (.cons (r1.mono x2 wd1.st.live) r2)
def tCallW (n m : Nat) (sp : Sp) (gV : List V → List V → List V) (E : St → XK) (t tk : TA) : TE := fun σ H Q => t σ H fun vs H1 => tk σ H1 fun zs H2 => vs.length = n ∧ zs.length = m ∧ sp (gV vs zs) H2 Q (E σ)
theorem run_kw {CX : CXT} {k n : Nat} {f : Addr} {fd : FuncData} {ps ks : List Str} {sp : Sp} {E : St → XK} {pins : List (Addr × Obj)} {σ : St} {H : Hp} {s : Shared} {Q : VK} {us ws : List Value} {vs zs : List V} {g : List Value → List Value → List Value} {gV : List V → List V → List V}
    (F : FnOk X.prog X.w X.K X.mg X.base CX k f fd ps sp) (hr : Room k X.A) (hb : ∀ (s : Shared) (us ws : List Value), us.length = n → ws.length = ks.length → BindsTo s fd ⟨us, ks.zip ws⟩ (ps.zip (g us ws))) (hv : Vals (gV vs zs) (g us ws)) (hx : PassesAt CX X σ (E σ))
    (I : L2.Inv X pins σ H s) (r : Vals vs us) (rz : Vals zs ws) (l1 : vs.length = n) (l2 : zs.length = ks.length) (h : sp (gV vs zs) H Q (E σ)) : wpAny (model X.prog X.w) X.A (call (.ref f) us (ks.zip ws)) (EP X pins σ Q) X.xe s := by
  refine wpAny_call (codeAny_mono (F.run X.A X.stack s H ⟨us, ks.zip ws⟩ (g us ws) (gV vs zs) Q (E σ) hr I.env0 (hb s us ws (r.length.symm.trans l1) (rz.length.symm.trans l2)) hv h) fun q s' hq => ?_)
  cases q with
  | error e => exact hx pins H s e s' I hq
  | ok fl =>
    cases fl with
    | ret u => exact I.after hq
    | next => exact False.elim hq
    | brk => exact False.elim hq
    | cont => exact False.elim hq
theorem callk_aft {sh : Bool} {f : FnI} {n : Nat} {ks : List Str} {σ : St} {H : Hp} {Q : VK} (hn : ∀ ρ S ds S', ml ρ S = .ok ds S' → ds.length = n) (hm : ∀ ρ S ds S', mk ρ S = .ok ds S' → ds.length = ks.length)
    (h : tE X.K X.mg (fun ρ S => (ml ρ S).bind fun us S => (mk ρ S).bind fun ws S => callV sh f (argK f.ps ks us ws) S) W σ H Q) :
    tCallW n ks.length (spFn X.K X.mg f) (argG V.non f.ps ks) (WE W) (tL X.K X.mg ml W) (tL X.K X.mg mk W) σ H Q := by
  obtain ⟨bar, io, ρ, S, wd, h⟩ := h
  refine ⟨bar, io, ρ, S, wd, (Aft.bind (P := PReps X.K) h).imp fun x H1 ⟨bar1, io1, S1, d1, x1, wd1, r1, e1, h1⟩ => ?_⟩
  refine ⟨bar1, io1, ρ, S1, wd1, (Aft.bind (P := PReps X.K) h1).imp fun y H2 ⟨bar2, io2, S2, d2, x2, wd2, r2, e2, h2⟩ => ?_⟩
  exact ⟨by rw [r1.length]; exact hn _ _ _ _ e1, by rw [r2.length]; exact hm _ _ _ _ e2, call_aft wd2 (argG_rep (r1.mono x2 wd1.st.live) r2) h2⟩
/-- f(e, .., k = v, ..) -/
theorem x_callk {lvl n : Nat} {sh : Bool} {f : FnI} {p : Pos} {ks : List Str} {kws : List Keyword} (tk : Takes X W) (F : FnGood X.prog X.w X.K X.mg X.base lvl f) (hr : Room lvl X.A) (hg : Gl X f.name) (hdb : (f.name == ("__debug__" : Str)) = false) (hq : (n, ks) ∈ f.kps)
    (ha : XL X W (e :: es) ml) (hk : XK' X W kws mk) (hn : ∀ ρ S ds S', ml ρ S = .ok ds S' → ds.length = n) (hm : ∀ ρ S ds S', mk ρ S = .ok ds S' → ds.length = ks.length)
    (hall : (backToKw pos (keywordEach kws X.env)).all (·.1.isSome) = true) (hks : (backToKw pos (keywordEach kws X.env)).filterMap (·.1) = ks)
    (he : starEach (e :: es) X.env = (false, eval e X.env) :: starEach es X.env)
    (hpl : ((backTo pos (starEach (e :: es) X.env)).any (·.1) || (backToKw pos (keywordEach kws X.env)).any (·.1.isNone)) = false) :
    XE' X W (.Call (.Name f.name p) (e :: es) kws pos) (fun ρ S => (ml ρ S).bind fun us S => (mk ρ S).bind fun ws S => callV sh f (argK f.ps ks us ws) S) := by
  obtain ⟨a, fd, F1, F2, F3, F4, F5⟩ := F.ex
  refine PE.imp (t := tCallW n ks.length (spFn X.K X.mg f) (argG V.non f.ps ks) (WE W) (tL X.K X.mg ml W) (tL X.K X.mg mk W)) ⟨fun pins s σ H Q I h => ?_⟩ fun σ H Q h => callk_aft hn hm h
  refine wpAny_Call_Name_kw (ld_glob I hg F2 ?_ hdb)
  refine PySem.W.callWith_KW (h₀ := X.base) I.ok.mod.kin F3 hall (thn (ha.run pos pins s σ H _ I h) fun us s1 ⟨vs, H1, I1, r, q⟩ => ?_) hpl he
  refine thn (hk.run pos pins s1 σ H1 _ I1 q) fun ws s2 ⟨zs, H2, I2, rz, l1, l2, q2⟩ => ⟨I2.kIn, ?_⟩
  rw [hks]
  exact run_kw (g := argG Value.none f.ps ks) F1 hr (fun s us ws => F5 (n, ks) hq s us ws) (argG_val r rz) (passAt tk σ) I2 r rz l1 l2 q2
/-- f(k = v, ..) -/
theorem x_callk0 {lvl : Nat} {sh : Bool} {f : FnI} {p : Pos} {ks : List Str} {kws : List Keyword} (tk : Takes X W) (F : FnGood X.prog X.w X.K X.mg X.base lvl f) (hr : Room lvl X.A) (hg : Gl X f.name) (hdb : (f.name == ("__debug__" : Str)) = false) (hq : (0, ks) ∈ f.kps)
    (hk : XK' X W kws mk) (hm : ∀ ρ S ds S', mk ρ S = .ok ds S' → ds.length = ks.length)
    (hall : (backToKw pos (keywordEach kws X.env)).all (·.1.isSome) = true) (hks : (backToKw pos (keywordEach kws X.env)).filterMap (·.1) = ks)
    (hpl : ((backTo pos (starEach [] X.env)).any (·.1) || (backToKw pos (keywordEach kws X.env)).any (·.1.isNone)) = false) :
    XE' X W (.Call (.Name f.name p) [] kws pos) (fun ρ S => (evL .nil ρ S).bind fun us S => (mk ρ S).bind fun ws S => callV sh f (argK f.ps ks us ws) S) := by
  obtain ⟨a, fd, F1, F2, F3, F4, F5⟩ := F.ex
  refine PE.imp (t := fun σ H Q => tL X.K X.mg mk W σ H fun zs H2 => zs.length = ks.length ∧ spFn X.K X.mg f (argG V.non f.ps ks [] zs) H2 Q (WE W σ)) ⟨fun pins s σ H Q I h => ?_⟩ fun σ H Q ⟨bar, io, ρ, S, wd, h⟩ => ?_
  · refine wpAny_Call_Name_kw (ld_glob I hg F2 ?_ hdb)
    refine PySem.W.callWith_KW0 (h₀ := X.base) I.ok.mod.kin F3 hall ?_ hpl
    refine thn (hk.run pos pins s σ H _ I h) fun ws s2 ⟨zs, H2, I2, rz, l2, q2⟩ => ⟨I2.kIn, ?_⟩
    rw [hks]
    exact run_kw (us := []) (vs := []) (n := 0) (g := argG Value.none f.ps ks) F1 hr (fun s us ws => F5 (0, ks) hq s us ws) (argG_val .nil rz) (passAt tk σ) I2 .nil rz rfl l2 q2
  · have h : Aft X.K X.mg (PRep X.K) H bar io σ ρ W Q ((mk ρ S).bind fun ws S => callV sh f (argK f.ps ks [] ws) S) := h
    refine ⟨bar, io, ρ, S, wd, (Aft.bind (P := PReps X.K) h).imp fun y H2 ⟨bar2, io2, S2, d2, x2, wd2, r2, e2, h2⟩ => ?_⟩
    exact ⟨by rw [r2.length]; exact hm _ _ _ _ e2, call_aft wd2 (argG_rep .nil r2) h2⟩

/-! ### built-ins -/
theorem x_biB {f : BF} {x : Str} {id : String} {p : Pos} (hc : X.calm = true) (hf : bfV f = .builtin id) (hg : Gl X x) (hm : X.mg x = none) (hv : bootBuiltins x = some (.builtin id)) (hn : x ≠ "__name__") (hdb : (x == ("__debug__" : Str)) = false)
    (ha : XL X W (e :: es) ml) (he : starEach (e :: es) X.env = (false, eval e X.env) :: starEach es X.env) (hpl : (backTo pos (starEach es X.env)).any (·.1) = false) :
    XE' X W (.Call (.Name x p) (e :: es) [] pos) (fun ρ S => (ml ρ S).bind fun ds S => biV f S ds) := by
  have hcr : CallR X (.builtin id) (rBi X.K f) := by rw [← hf]; exact call_bi hc f
  refine (pe_callB hcr hg hm hv ha hn hdb he hpl).imp fun σ H Q ⟨bar, io, ρ, S, wd, h⟩ => ?_
  refine ⟨bar, io, ρ, S, wd, (Aft.bind (P := PReps X.K) h).imp fun x H1 ⟨bar1, io1, S1, d1, x1, wd1, r1, _, h1⟩ => ?_⟩
  obtain ⟨d, S', e, q⟩ := h1.op (biV_noX _ _ _)
  exact ⟨bar1, io1, S1, d1, d, S', wd1.st, r1, e, fun v H' bar' io' x st r => q v H' bar' io' x (wd1.mono' x st) r⟩
theorem x_biT {f : BF} {x : Str} {T : String} {p : Pos} (hc : X.calm = true) (hf : bfV f = .type T) (hg : Gl X x) (hm : X.mg x = none) (hv : bootBuiltins x = some (.type T)) (hn : x ≠ "__name__") (hdb : (x == ("__debug__" : Str)) = false)
    (ha : XL X W (e :: es) ml) (he : starEach (e :: es) X.env = (false, eval e X.env) :: starEach es X.env) (hpl : (backTo pos (starEach es X.env)).any (·.1) = false) :
    XE' X W (.Call (.Name x p) (e :: es) [] pos) (fun ρ S => (ml ρ S).bind fun ds S => biV f S ds) := by
  have hcr : CallR X (.type T) (rBi X.K f) := by rw [← hf]; exact call_bi hc f
  refine (pe_callTy hcr hg hm hv ha hn hdb he hpl).imp fun σ H Q ⟨bar, io, ρ, S, wd, h⟩ => ?_
  refine ⟨bar, io, ρ, S, wd, (Aft.bind (P := PReps X.K) h).imp fun x H1 ⟨bar1, io1, S1, d1, x1, wd1, r1, _, h1⟩ => ?_⟩
  obtain ⟨d, S', e, q⟩ := h1.op (biV_noX _ _ _)
  exact ⟨bar1, io1, S1, d1, d, S', wd1.st, r1, e, fun v H' bar' io' x st r => q v H' bar' io' x (wd1.mono' x st) r⟩
/-! ### isinstance -/
def TY.name : TY → String
  | .int => "int" | .bool => "bool" | .str => "str" | .tuple => "tuple" | .list => "list" | .dict => "dict"
theorem kit_all : ∀ s t : TY, kitB s.name t.name = some (decide (s = t) || (decide (s = .bool) && decide (t = .int))) := by
  intro s t
  cases s <;> cases t <;> decide +kernel
theorem kit_non : ∀ t : TY, kitB "NoneType" t.name = some false := by
  intro t
  cases t <;> decide +kernel
theorem ty_rep {K : PySem.W.Frag} {H : Hp} {bar io : List Addr} {S : Store} {x : V} {d : D} {s : TY} (st : StRep K H bar io S) (r : Rep K H bar io x d) (h : tyOf S d = some s) : TyX K H x (.type s.name) := by
  cases r with
  | non => cases h
  | bl b => cases h; exact .base (.bl b)
  | int i => cases h; exact .base (.int i)
  | str z _ _ => cases h; exact .base (.str z)
  | tup hh z q => cases h; exact .base (.tup hh)
  | lst hh b z q => cases h; exact .base (.lst hh)
  | scr hh z q => cases h; exact .base (.frz hh)
  | scrK a b dd c e v q => cases h; exact .kList a b
  | kup a b c e v q => cases h; exact .kTuple a b
  | @adr a n e =>
    have h : (match S[n]? with | some (.lst _) => some TY.list | some (.dic _) => some TY.dict | none => none) = some s := h
    cases hc : S[n]? with
    | none => rw [hc] at h; cases h
    | some c =>
      rw [hc] at h
      obtain ⟨a', o, e1, e2, q⟩ := st.cell n _ hc
      rw [e] at e1; cases e1
      cases q with
      | lst z q => cases h; exact .base (.lst e2)
      | dic z q => cases h; exact .base (.dK e2)
theorem x_isi {t : TY} {x : Str} {p p2 : Pos} (hg : Gl X "isinstance") (hm : X.mg "isinstance" = none) (hg2 : Gl X x) (hm2 : X.mg x = none) (hv2 : bootBuiltins x = some (.type t.name)) (hn2 : x ≠ "__name__") (hdb2 : (x == ("__debug__" : Str)) = false)
    (ha : XE' X W a ma) (he : starEach [a, .Name x p2] X.env = [(false, eval a X.env), (false, eval (.Name x p2) X.env)]) :
    XE' X W (.Call (.Name "isinstance" p) [a, .Name x p2] [] pos) (fun ρ S => (ma ρ S).bind fun x S => isiV S x t) := by
  have hT : PE X (.Name x p2) (tC (.ty t.name)) := pe_bltn (v := .ty t.name) hg2 hm2 hv2 rfl hn2 hdb2
  have hA : PA X [a, .Name x p2] (tCons (tE X.K X.mg ma W) (tCons (tC (.ty t.name)) tNil)) := pa_cons ha (pa_cons hT pa_nil rfl) (by rw [he]; rfl)
  refine (pe_callB call_isi hg hm (by decide +kernel) hA (by decide) (by decide) (by rw [he]; rfl) rfl).imp fun σ H Q ⟨bar, io, ρ, S, wd, h⟩ => ?_
  refine ⟨bar, io, ρ, S, wd, (Aft.bind (P := PRep X.K) h).imp fun y H1 ⟨bar1, io1, S1, d1, x1, wd1, r1, _, h1⟩ => ?_⟩
  have fin : ∀ {v : V} {s : Value} {b : Bool}, TyX X.K H1 v s → PySem.W.kitOne X.K s (.type t.name) = some b → Q (.bl b) H1 → rIsi X.K [v, .ty t.name] H1 Q := fun {v s b} hx hk q => ⟨v, .ty t.name, s, .type t.name, b, rfl, .ty _, hx, hk, q⟩
  unfold isiV at h1
  split at h1
  · cases r1
    exact fin (.base .non) (kit_ty (kit_non t)) (h1.now wd1 (.bl _))
  · split at h1
    · rename_i s hs
      exact fin (ty_rep wd1.st r1 hs) (kit_ty (kit_all s t)) (h1.now wd1 (.bl _))
    · exact h1.elim
/-! ### methods -/
theorem x_meth0 {m : ME} {apos cpos : Pos} (hu : X.A.units + 1 < cLine) (ha : XE' X W a ma) (hbase : attributeBase a m.name X.env (eval a X.env) = eval a X.env) (hline : (apos.endLine == cpos.line) = true) :
    XE' X W (.Call (.Attribute a m.name apos) [] [] cpos) (fun ρ S => (ma ρ S).bind fun x S => guardR (mkind m S x) ((evL .nil ρ S).bind fun ds S => methV m S x ds)) := by
  refine (pe_bm0 m.plain m.slot m.type (mt_me hu m) ha hbase hline).imp fun σ H Q ⟨bar, io, ρ, S, wd, h⟩ => ?_
  refine ⟨bar, io, ρ, S, wd, (Aft.bind (P := PRep X.K) h).imp fun x H1 ⟨bar1, io1, S1, d1, x1, wd1, r1, _, h1⟩ => ?_⟩
  cases hk : mkind m S1 d1 with
  | false => rw [hk] at h1; exact h1.elim
  | true =>
    rw [hk, guardR_true] at h1
    obtain ⟨d, S', e, q⟩ := Aft.op (P := PRep X.K) (r := methV m S1 d1 []) h1 (methV_noX _ _ _ _)
    exact ⟨kind_rep wd1.st r1 hk, bar1, io1, S1, d1, [], d, S', wd1.st, r1, .nil, e, fun v H' bar' io' x st r => q v H' bar' io' x (wd1.mono' x st) r⟩
theorem x_meth {m : ME} {apos cpos : Pos} (hu : X.A.units + 1 < cLine) (ha : XE' X W a ma) (hl : XL X W (e :: es) ml) (hbase : attributeBase a m.name X.env (eval a X.env) = eval a X.env)
    (hfew : ((backTo cpos (starEach (e :: es) X.env)).all (fun x => !x.1) && (backToKw cpos (keywordEach [] X.env)).all (fun x => x.1.isSome)
      && decide ((e :: es).length + ([] : List Keyword).length + (if ([] : List Keyword).isEmpty then 0 else 1) < 30)) = true) (hline : (apos.endLine == cpos.line) = true)
    (hs : starEach (e :: es) X.env = (false, eval e X.env) :: starEach es X.env) (hplain : (backTo cpos (starEach es X.env)).any (·.1) = false) :
    XE' X W (.Call (.Attribute a m.name apos) (e :: es) [] cpos) (fun ρ S => (ma ρ S).bind fun x S => guardR (mkind m S x) ((ml ρ S).bind fun ds S => methV m S x ds)) := by
  refine (pe_bm m.plain m.slot m.type (mt_me hu m) ha hl hbase hfew hline hs hplain).imp fun σ H Q ⟨bar, io, ρ, S, wd, h⟩ => ?_
  refine ⟨bar, io, ρ, S, wd, (Aft.bind (P := PRep X.K) h).imp fun x H1 ⟨bar1, io1, S1, d1, x1, wd1, r1, _, h1⟩ => ?_⟩
  cases hk : mkind m S1 d1 with
  | false => rw [hk] at h1; exact h1.elim
  | true =>
    rw [hk, guardR_true] at h1
    refine ⟨kind_rep wd1.st r1 hk, bar1, io1, ρ, S1, wd1, (Aft.bind (P := PReps X.K) h1).imp fun y H2 ⟨bar2, io2, S2, d2, x2, wd2, r2, _, h2⟩ => ?_⟩
    obtain ⟨d, S', e, q⟩ := h2.op (methV_noX _ _ _ _)
    exact ⟨bar2, io2, S2, d1, d2, d, S', wd2.st, r1.mono x2 wd1.st.live, r2, e, fun v H' bar' io' x st r => q v H' bar' io' x (wd2.mono' x st) r⟩
end
end PX

/-! PX10: targets, what is walked. -/
namespace PX
open PySem L2
/-! ### targets -/
def T.slots : T → List Nat
  | .name i => [i]
  | .tup is => is
section
variable {K : PySem.W.Frag}
theorem wipe_set_set (σ : St) (i : Nat) (x y : Option V) : ∀ vs : List Nat, (wipe (σ.set i x) vs).set i y = (wipe σ vs).set i y
  | [] => by unfold wipe; rw [List.set_set]
  | v :: vs => by
    unfold wipe
    by_cases e : v = i
    · subst e
      rw [List.set_set, List.set_set]
      exact wipe_set_set σ v x y vs
    · rw [List.set_comm _ _ e, wipe_set_set σ i x y vs, List.set_comm _ _ (Ne.symm e)]
theorem wipe_set {σ : St} {i : Nat} {x : Option V} : ∀ {vs : List Nat}, i ∈ vs → wipe (σ.set i x) vs = wipe σ vs
  | v :: vs, h => by
    unfold wipe
    by_cases e : v = i
    · subst e; exact wipe_set_set σ v x none vs
    · rcases List.mem_cons.mp h with q | q
      · exact absurd q.symm e
      · rw [wipe_set q]
/-- a target takes a value -/
def gD (K : PySem.W.Frag) (t : T) : TG := fun v σ H Q => ∃ bar io ρ S d ρ', Wd K H bar io σ ρ S ∧ Rep K H bar io v d ∧ asgT t d ρ = some ρ' ∧
  ∀ σ', Wd K H bar io σ' ρ' S → (∀ vs, (∀ i ∈ t.slots, i ∈ vs) → wipe σ' vs = wipe σ vs) → Q σ' H
def gDs (K : PySem.W.Frag) (is : List Nat) : TGs := fun xs σ H Q => ∃ bar io ρ S ds ρ', Wd K H bar io σ ρ S ∧ Reps K H bar io xs ds ∧ asgs is ds ρ = some ρ' ∧
  ∀ σ', Wd K H bar io σ' ρ' S → (∀ vs, (∀ i ∈ is, i ∈ vs) → wipe σ' vs = wipe σ vs) → Q σ' H
end
section
variable {X : Cx} {pos : Pos}
/-- a name that may be stored -/
def Sto (X : Cx) (i : Nat) (x : Str) : Prop := X.N[i]? = some x ∧ Loc X.env.scope x ∧ (X.fn x = true ∨ X.env.scope.names.lookup x = some .local)
theorem _root_.L2.PG.imp {X : Cx} {e : Expr} {t t' : TG} (h : PG X e t) (f : ∀ v σ H Q, t' v σ H Q → t v σ H Q) : PG X e t' := ⟨fun pins s σ H v u Q I r q => h.run pins s σ H v u Q I r (f v σ H Q q)⟩
theorem _root_.L2.PGs.imp {X : Cx} {e : List Expr} {t t' : TGs} (h : PGs X e t) (f : ∀ v σ H Q, t' v σ H Q → t v σ H Q) : PGs X e t' := ⟨fun pins s σ H v u Q I r q => h.run pins s σ H v u Q I r (f v σ H Q q)⟩
theorem g_name {i : Nat} {x : Str} (hN : X.N.Nodup) (h : Sto X i x) : PG X (.Name x pos) (gD X.K (.name i)) := by
  refine (pg_name hN h.1 h.2.1 h.2.2).imp fun v σ H Q ⟨bar, io, ρ, S, d, ρ', wd, r, e, q⟩ => ?_
  have e : some (ρ.set i (some d)) = some ρ' := e
  cases e
  exact q _ ⟨wd.env.set r i, wd.st⟩ fun vs hv => wipe_set (hv i (by simp [T.slots]))
inductive Names' (X : Cx) : List Expr → List Nat → Prop
  | nil : Names' X [] []
  | cons {x : Str} {p : Pos} {i : Nat} {es : List Expr} {is : List Nat} (h : Sto X i x) (t : Names' X es is) : Names' X (.Name x p :: es) (i :: is)
theorem Names'.each {es : List Expr} {is : List Nat} (h : Names' X es is) : (assignEach es X.env).length = es.length ∧ (assignEach es X.env).findIdx? (·.1) = none ∧ es.length = is.length := by
  induction h with
  | nil => exact ⟨rfl, rfl, rfl⟩
  | cons h t ih =>
    obtain ⟨h1, h2, h3⟩ := ih
    refine ⟨?_, ?_, by simp [h3]⟩
    · show (_ :: assignEach _ X.env).length = _
      rw [List.length_cons, List.length_cons, h1]
    · show List.findIdx? _ ((false, _) :: assignEach _ X.env) = none
      rw [List.findIdx?_cons]
      simp only [Bool.false_eq_true, if_false, h2]
      rfl
theorem gs_names {es : List Expr} {is : List Nat} (hN : X.N.Nodup) (h : Names' X es is) : PGs X es (gDs X.K is) := by
  induction h with
  | nil =>
    refine pgs_nil.imp fun xs σ H Q ⟨bar, io, ρ, S, ds, ρ', wd, r, e, q⟩ => ?_
    cases r with
    | nil =>
      cases e
      exact ⟨rfl, q _ wd fun _ _ => rfl⟩
    | cons => cases e
  | @cons x p i es is h t ih =>
    refine (pgs_cons (pg_name hN h.1 h.2.1 h.2.2) ih rfl).imp fun xs σ H Q ⟨bar, io, ρ, S, ds, ρ', wd, r, e, q⟩ => ?_
    cases r with
    | nil => cases e
    | @cons v vs d ds r1 r2 =>
      refine ⟨v, vs, rfl, bar, io, ρ.set i (some d), S, ds, ρ', ⟨wd.env.set r1 i, wd.st⟩, r2, e, fun σ' w hw => q σ' w fun zs hz => ?_⟩
      rw [hw zs fun j hj => hz j (List.mem_cons_of_mem _ hj)]
      exact wipe_set (hz i List.mem_cons_self)
theorem g_tup {es : List Expr} {is : List Nat} {k : Nat} (hc : X.calm = true) (hN : X.N.Nodup) (h : Names' X es is) : PG X (.Tuple es k pos) (gD X.K (.tup is)) := by
  obtain ⟨h1, h2, h3⟩ := h.each
  refine (pg_tup (n := es.length) hc (gs_names hN h) h1 h2).imp fun v σ H Q ⟨bar, io, ρ, S, d, ρ', wd, r, e, q⟩ => ?_
  cases d with
  | tup ds =>
    obtain ⟨a, vs, rfl, hs, z, rr⟩ := tup_rep r
    have hl : ∀ {is : List Nat} {ds : List D} {ρ ρ' : Env}, asgs is ds ρ = some ρ' → ds.length = is.length := by
      intro is
      induction is with
      | nil => intro ds ρ ρ' h; cases ds with
        | nil => rfl
        | cons => cases h
      | cons i is ih => intro ds ρ ρ' h; cases ds with
        | nil => cases h
        | cons d ds => simp [ih h]
    exact ⟨a, vs, rfl, hs, by rw [rr.length, hl e, h3], bar, io, ρ, S, ds, ρ', wd, rr, e, q⟩
  | _ => cases e
end

/-! ### what is walked -/
structure WalkD (K : PySem.W.Frag) (J : It) (w : Ws) (H : Hp) (bar io : List Addr) : Prop where
  go : ∀ i H1 bar1 io1 S1, i < w.ds.length → ExtW H bar io H1 bar1 io1 → StRep K H1 bar1 io1 S1 → w.ok S1 = true → J.go i H1
  stop : ∀ H1 bar1 io1 S1, ExtW H bar io H1 bar1 io1 → StRep K H1 bar1 io1 S1 → w.ok S1 = true → J.stop w.ds.length H1
  yld : ∀ i H1 bar1 io1 S1 x H1', i < w.ds.length → ExtW H bar io H1 bar1 io1 → StRep K H1 bar1 io1 S1 → w.ok S1 = true → J.yld i H1 x H1' →
    ∃ d, w.ds[i]? = some d ∧ Ext H1 bar1 io1 H1' bar1 io1 ∧ StRep K H1' bar1 io1 S1 ∧ Rep K H1' bar1 io1 x d
theorem WalkD.mono {K : PySem.W.Frag} {J : It} {w : Ws} {H H' : Hp} {bar io bar' io' : List Addr} (h : WalkD K J w H bar io) (x : ExtW H bar io H' bar' io') : WalkD K J w H' bar' io' :=
  ⟨fun i H1 b1 i1 S1 hi y st ok => h.go i H1 b1 i1 S1 hi (x.trans y) st ok, fun H1 b1 i1 S1 y st ok => h.stop H1 b1 i1 S1 (x.trans y) st ok, fun i H1 b1 i1 S1 v H1' hi y st ok e => h.yld i H1 b1 i1 S1 v H1' hi (x.trans y) st ok e⟩
/-- the reading of an iterator -/
def iD (K : PySem.W.Frag) (mg : Str → Option Value) (m : Env → Store → R Ws) (W : WX) : TI := fun σ H R' => ∃ bar io ρ S, Wd K H bar io σ ρ S ∧
  match m ρ S with
  | .ok w S' => ∀ J H' bar' io', Ext H bar io H' bar' io' → Wd K H' bar' io' σ ρ S' → WalkD K J w H' bar' io' → R' J H'
  | .exc c S' => ∀ H' bar' io' C, Ext H bar io H' bar' io' → Wd K H' bar' io' σ ρ S' → mg c = some (.ref C) → W (.ref C) none σ H'
  | .stuck => False
/-- as an outcome -/
def AftI (K : PySem.W.Frag) (mg : Str → Option Value) (H : Hp) (bar io : List Addr) (σ : St) (ρ : Env) (W : WX) (R' : It → Hp → Prop) : R Ws → Prop
  | .ok w S' => ∀ J H' bar' io', Ext H bar io H' bar' io' → Wd K H' bar' io' σ ρ S' → WalkD K J w H' bar' io' → R' J H'
  | .exc c S' => ∀ H' bar' io' C, Ext H bar io H' bar' io' → Wd K H' bar' io' σ ρ S' → mg c = some (.ref C) → W (.ref C) none σ H'
  | .stuck => False
section
variable {K : PySem.W.Frag} {mg : Str → Option Value} {H : Hp} {bar io : List Addr} {σ : St} {ρ : Env} {W : WX} {S : Store}
theorem AftI.bind {α β : Type} {P : Hp → List Addr → List Addr → β → α → Prop} {R' : It → Hp → Prop} {r : R α} {f : α → Store → R Ws} (h : AftI K mg H bar io σ ρ W R' (r.bind f)) :
    Aft K mg P H bar io σ ρ W (fun b H1 => ∃ bar1 io1 S1 a, Ext H bar io H1 bar1 io1 ∧ Wd K H1 bar1 io1 σ ρ S1 ∧ P H1 bar1 io1 b a ∧ r = .ok a S1 ∧ AftI K mg H1 bar1 io1 σ ρ W R' (f a S1)) r := by
  cases r with
  | ok a S =>
    refine fun b H' bar' io' x w p => ⟨bar', io', S, a, x, w, p, rfl, ?_⟩
    have h : AftI K mg H bar io σ ρ W R' (f a S) := h
    cases e : f a S with
    | ok w S' => rw [e] at h; exact fun J H2 b2 i2 y w2 wk => h J H2 b2 i2 (x.trans y) w2 wk
    | exc c S' => rw [e] at h; exact fun H2 b2 i2 C y w2 ec => h H2 b2 i2 C (x.trans y) w2 ec
    | stuck => rw [e] at h; exact h
  | exc c S => exact h
  | stuck => exact h
theorem iD_iff {m : Env → Store → R Ws} {R' : It → Hp → Prop} (h : iD K mg m W σ H R') : ∃ bar io ρ S, Wd K H bar io σ ρ S ∧ AftI K mg H bar io σ ρ W R' (m ρ S) := by
  obtain ⟨bar, io, ρ, S, wd, h⟩ := h
  refine ⟨bar, io, ρ, S, wd, ?_⟩
  cases e : m ρ S with
  | ok w S' => rw [e] at h; exact h
  | exc c S' => rw [e] at h; exact h
  | stuck => rw [e] at h; exact h
/-- a walked value, later on -/
theorem lst_later {H1 : Hp} {bar1 io1 : List Addr} {S1 : Store} {x : V} {d : D} {w : Ws} (st : StRep K H bar io S) (r : Rep K H bar io x d) (h : lstW S d = some w) (y : ExtW H bar io H1 bar1 io1) (st1 : StRep K H1 bar1 io1 S1) (ok : w.ok S1 = true) :
    ∃ a vs, x = .ref a ∧ SqL K H1 a vs ∧ Reps K H1 bar1 io1 vs w.ds := by
  have r1 := r.monoW y st.bal
  cases d with
  | lst xs => cases h; obtain ⟨a', vs, e, hs, z, q⟩ := asLst_rep st1 r1 rfl; exact ⟨a', vs, e, hs, q⟩
  | scr xs => cases h; obtain ⟨a', vs, e, hs, z, q⟩ := asLst_rep st1 r1 rfl; exact ⟨a', vs, e, hs, q⟩
  | adr n =>
    have h : (match S[n]? with | some (.lst xs) => some (⟨xs, [(n, .lst xs)]⟩ : Ws) | _ => none) = some w := h
    cases hc : S[n]? with
    | none => rw [hc] at h; cases h
    | some c =>
      rw [hc] at h
      cases c with
      | dic _ => cases h
      | lst ys =>
        cases h
        have ok : S1[n]? = some (.lst ys) := by
          have ok : ([(n, Cell.lst ys)].all fun p => decide (S1[p.1]? = some p.2)) = true := ok
          simpa using ok
        obtain ⟨a', o, e, _, hH, q⟩ := cell_at st1 r1 ok
        cases q with
        | lst z q => exact ⟨a', _, e, .inl (.inl hH), q⟩
  | tup _ => cases h
  | kup _ => cases h
  | non => cases h
  | bl _ => cases h
  | int _ => cases h
  | str _ => cases h
theorem tup_later {H1 : Hp} {bar1 io1 : List Addr} {x : V} {d : D} {xs : List D} (st : StRep K H bar io S) (r : Rep K H bar io x d) (h : tupW d = some xs) (y : ExtW H bar io H1 bar1 io1) :
    ∃ a vs, x = .ref a ∧ SqT K H1 a vs ∧ Reps K H1 bar1 io1 vs xs := by
  have r1 := r.monoW y st.bal
  cases d with
  | tup ys => cases h; obtain ⟨a', vs, e, hs, z, q⟩ := tup_rep r1; exact ⟨a', vs, e, hs, q⟩
  | kup ys => cases h; obtain ⟨a', vs, e, hs, z, q⟩ := kup_rep r1; exact ⟨a', vs, e, hs, q⟩
  | _ => cases h
end
/-- a list or a tuple, walked -/
def iSeq (K : PySem.W.Frag) (tl : TE) : TI := fun σ H R => tl σ H fun x H1 => ∃ a, x = .ref a ∧ (((∃ xs, SqL K H1 a xs) ∧ R (Itl K a) H1) ∨ ((∃ xs, SqT K H1 a xs) ∧ R (Itt K a) H1))
section
variable {X : Cx} {W : WX} {tg a b e : Expr} {ma mb : Env → Store → R D} {pos : Pos}
theorem pi_seq {tl : TE} (hl : PE X e tl) : PI X tg e (iSeq X.K tl) := by
  refine ⟨fun pins s σ H R I h => ?_⟩
  refine thn (hl.run pins s σ H _ I h) fun v s1 hv => ?_
  obtain ⟨x, H1, I1, r1, a, rfl, q⟩ := hv
  cases r1
  have fp : ∀ b ∈ [s1.heap.objs.size], FpOk X pins H1 b := fun b hb => by
    have e := List.mem_singleton.mp hb
    subst e
    exact I1.fpOk (Nat.le_refl _) (I1.hok.fresh (Nat.le_refl _))
  rcases q with ⟨⟨xs, hq⟩, q⟩ | ⟨⟨xs, hq⟩, q⟩
  · obtain ⟨its, rv, p, hz⟩ := I1.list hq
    exact wpAny_pyIter_list p.isList ⟨_, [s1.heap.objs.size], _, _, H1, rfl, I1.kept (t' := s1.toks) fun b o k => Heap.get?_push_of_some _ k, turn_list a _, ⟨_, Heap.get?_push_size _ rfl, rfl, rfl⟩, fp, q⟩
  · obtain ⟨its, rv, p, hz⟩ := I1.tuple hq
    exact wpAny_pyIter_tuple (show s1.heap.IsTuple a its.toArray from p) ⟨_, [s1.heap.objs.size], _, _, H1, rfl, I1.kept (t' := s1.toks) fun b o k => Heap.get?_push_of_some _ k, turn_tuple a _, ⟨_, Heap.get?_push_size _ rfl, rfl, rfl⟩, fp, q⟩
theorem walkL {K : PySem.W.Frag} {H : Hp} {bar io : List Addr} {w : Ws} {a : Addr} (h : ∀ H1 bar1 io1 S1, ExtW H bar io H1 bar1 io1 → StRep K H1 bar1 io1 S1 → w.ok S1 = true → ∃ b vs, V.ref a = .ref b ∧ SqL K H1 b vs ∧ Reps K H1 bar1 io1 vs w.ds) : WalkD K (Itl K a) w H bar io := by
  refine ⟨fun i H1 b1 i1 S1 hi x st ok => ?_, fun H1 b1 i1 S1 x st ok => ?_, fun i H1 b1 i1 S1 v H1' hi x st ok y => ?_⟩
  · obtain ⟨_, vs, he, hs, r⟩ := h H1 b1 i1 S1 x st ok
    cases he
    have hi' : i < vs.length := by rw [r.length]; exact hi
    exact ⟨vs, vs[i], hs, by simp [hi']⟩
  · obtain ⟨_, vs, he, hs, r⟩ := h H1 b1 i1 S1 x st ok
    cases he
    exact ⟨vs, hs, by rw [r.length]; exact Nat.le_refl _⟩
  · obtain ⟨_, vs, he, hs, r⟩ := h H1 b1 i1 S1 x st ok
    cases he
    obtain ⟨rfl, y⟩ := y
    obtain ⟨d, e, rd⟩ := r.getV (y vs hs)
    exact ⟨d, e, Ext.refl, st, rd⟩
theorem walkT {K : PySem.W.Frag} {H : Hp} {bar io : List Addr} {w : Ws} {a : Addr} (h : ∀ H1 bar1 io1 S1, ExtW H bar io H1 bar1 io1 → StRep K H1 bar1 io1 S1 → w.ok S1 = true → ∃ b vs, V.ref a = .ref b ∧ SqT K H1 b vs ∧ Reps K H1 bar1 io1 vs w.ds) : WalkD K (Itt K a) w H bar io := by
  refine ⟨fun i H1 b1 i1 S1 hi x st ok => ?_, fun H1 b1 i1 S1 x st ok => ?_, fun i H1 b1 i1 S1 v H1' hi x st ok y => ?_⟩
  · obtain ⟨_, vs, he, hs, r⟩ := h H1 b1 i1 S1 x st ok
    cases he
    have hi' : i < vs.length := by rw [r.length]; exact hi
    exact ⟨vs, vs[i], hs, by simp [hi']⟩
  · obtain ⟨_, vs, he, hs, r⟩ := h H1 b1 i1 S1 x st ok
    cases he
    exact ⟨vs, hs, by rw [r.length]; exact Nat.le_refl _⟩
  · obtain ⟨_, vs, he, hs, r⟩ := h H1 b1 i1 S1 x st ok
    cases he
    obtain ⟨rfl, y⟩ := y
    obtain ⟨d, e, rd⟩ := r.getV (y vs hs)
    exact ⟨d, e, Ext.refl, st, rd⟩
abbrev XI (X : Cx) (W : WX) (tg e : Expr) (m : Env → Store → R Ws) : Prop := PI X tg e (iD X.K X.mg m W)
theorem lstW_ok {S : Store} {d : D} {w : Ws} (h : lstW S d = some w) : w.ok S = true := by
  unfold lstW at h
  split at h
  · cases h; rfl
  · cases h; rfl
  · split at h
    · rename_i e
      cases h
      simp [Ws.ok, e]
    · cases h
  · cases h
theorem lstW_ref {K : PySem.W.Frag} {H : Hp} {bar io : List Addr} {S : Store} {x : V} {d : D} {w : Ws} (r : Rep K H bar io x d) (h : lstW S d = some w) : ∃ a, x = .ref a := by
  cases r <;> first | exact ⟨_, rfl⟩ | cases h
theorem i_seq (ha : XE' X W e ma) : XI X W tg e (fun ρ S => (ma ρ S).bind fun x S => optR (seqW S x) S) := by
  refine (pi_seq ha).imp fun σ H R' h => ?_
  obtain ⟨bar, io, ρ, S, wd, h⟩ := iD_iff h
  refine ⟨bar, io, ρ, S, wd, (AftI.bind (P := PRep X.K) h).imp fun x H1 ⟨bar1, io1, S1, d1, x1, wd1, r1, _, h1⟩ => ?_⟩
  unfold seqW at h1
  cases ht : tupW d1 with
  | some xs =>
    rw [ht] at h1
    have h1 : AftI X.K X.mg H1 bar1 io1 σ ρ W R' (.ok ⟨xs, []⟩ S1) := h1
    obtain ⟨a, vs, rfl, hs, _⟩ := tup_later wd1.st r1 ht ExtW.refl
    exact ⟨a, rfl, .inr ⟨⟨vs, hs⟩, h1 _ _ _ _ Ext.refl wd1 (walkT fun H2 b2 i2 S2 x st ok => tup_later wd1.st r1 ht x)⟩⟩
  | none =>
    rw [ht] at h1
    have h1 : AftI X.K X.mg H1 bar1 io1 σ ρ W R' (optR (lstW S1 d1) S1) := h1
    cases hw : lstW S1 d1 with
    | none => rw [hw] at h1; exact h1.elim
    | some w =>
      rw [hw] at h1
      have h1 : AftI X.K X.mg H1 bar1 io1 σ ρ W R' (.ok w S1) := h1
      obtain ⟨a, vs, rfl, hs, _⟩ := lst_later wd1.st r1 hw ExtW.refl wd1.st (lstW_ok hw)
      exact ⟨a, rfl, .inl ⟨⟨vs, hs⟩, h1 _ _ _ _ Ext.refl wd1 (walkL fun H2 b2 i2 S2 x st ok => lst_later wd1.st r1 hw x st ok)⟩⟩
theorem walkR {K : PySem.W.Frag} {H : Hp} {bar io : List Addr} {lo : Int} {n : Nat} : WalkD K (Itr lo n) ⟨rngL lo n, []⟩ H bar io := by
  have hl : (rngL lo n).length = n := by simp [rngL]
  refine ⟨fun i H1 b1 i1 S1 hi x st ok => ?_, fun H1 b1 i1 S1 x st ok => ?_, fun i H1 b1 i1 S1 v H1' hi x st ok y => ?_⟩
  · have hi : i < (rngL lo n).length := hi
    rw [hl] at hi; exact hi
  · show n ≤ (rngL lo n).length
    rw [hl]; exact Nat.le_refl _
  · have hi : i < (rngL lo n).length := hi
    rw [hl] at hi
    obtain ⟨rfl, rfl⟩ := y
    refine ⟨.int (lo + i), ?_, Ext.refl, st, .int _⟩
    show (rngL lo n)[i]? = _
    simp [rngL, hi]
theorem rngOk_iff {i : Int} (h : rngOk i = true) : -(2 ^ 62) ≤ i ∧ i < 2 ^ 62 := by simpa [rngOk] using h
theorem i_rng1 {p : Pos} (hg : Gl X "range") (hm : X.mg "range" = none) (ha : XE' X W a ma) (hs : starEach [a] X.env = [(false, eval a X.env)]) : XI X W tg (.Call (.Name "range" p) [a] [] pos) (fun ρ S => (ma ρ S).bind fun x S => match x with
    | .int j => guardR (rngOk j) (.ok ⟨rngL 0 j.toNat, []⟩ S)
    | _ => .stuck) := by
  have hA : PA X [a] (tCons (tE X.K X.mg ma W) tNil) := pa_cons ha pa_nil (by rw [hs]; rfl)
  refine (pi_range1 hg hm hA hs).imp fun σ H R' h => ?_
  obtain ⟨bar, io, ρ, S, wd, h⟩ := iD_iff h
  refine ⟨bar, io, ρ, S, wd, (AftI.bind (P := PRep X.K) h).imp fun x H1 ⟨bar1, io1, S1, d1, x1, wd1, r1, e1, h1⟩ => ?_⟩
  split at h1
  · rename_i j
    cases r1
    cases g : rngOk j with
    | false => rw [g] at h1; exact h1.elim
    | true =>
      rw [g, guardR_true] at h1
      obtain ⟨g1, g2⟩ := rngOk_iff g
      exact ⟨j, rfl, g1, g2, h1 _ _ _ _ Ext.refl wd1 walkR⟩
  · exact h1.elim
theorem i_rng2 {p : Pos} (hg : Gl X "range") (hm : X.mg "range" = none) (ha : XE' X W a ma) (hb : XE' X W b mb) (hs : starEach [a, b] X.env = [(false, eval a X.env), (false, eval b X.env)]) (hs2 : starEach [b] X.env = [(false, eval b X.env)]) :
    XI X W tg (.Call (.Name "range" p) [a, b] [] pos) (fun ρ S => (ma ρ S).bind fun x S => (mb ρ S).bind fun y S => match x, y with
    | .int i, .int j => guardR (rngOk i && rngOk j) (.ok ⟨rngL i (j - i).toNat, []⟩ S)
    | _, _ => .stuck) := by
  have hA : PA X [a, b] (tCons (tE X.K X.mg ma W) (tCons (tE X.K X.mg mb W) tNil)) := pa_cons ha (pa_cons hb pa_nil (by rw [hs2]; rfl)) (by rw [hs, hs2])
  refine (pi_range2 hg hm hA hs hs2).imp fun σ H R' h => ?_
  obtain ⟨bar, io, ρ, S, wd, h⟩ := iD_iff h
  refine ⟨bar, io, ρ, S, wd, (AftI.bind (P := PRep X.K) h).imp fun x H1 ⟨bar1, io1, S1, d1, x1, wd1, r1, e1, h1⟩ => ?_⟩
  refine ⟨bar1, io1, ρ, S1, wd1, (AftI.bind (P := PRep X.K) h1).imp fun y H2 ⟨bar2, io2, S2, d2, x2, wd2, r2, e2, h2⟩ => ?_⟩
  cases d1 with
  | int i =>
    cases d2 with
    | int j =>
      cases r1; cases r2
      cases g : (rngOk i && rngOk j) with
      | false =>
        have h2 : AftI X.K X.mg H2 bar2 io2 σ ρ W R' (guardR (rngOk i && rngOk j) (.ok ⟨rngL i (j - i).toNat, []⟩ S2)) := h2
        rw [g] at h2; exact h2.elim
      | true =>
        have h2 : AftI X.K X.mg H2 bar2 io2 σ ρ W R' (guardR (rngOk i && rngOk j) (.ok ⟨rngL i (j - i).toNat, []⟩ S2)) := h2
        rw [g, guardR_true] at h2
        rw [Bool.and_eq_true] at g
        obtain ⟨g1, g2⟩ := rngOk_iff g.1
        obtain ⟨g3, g4⟩ := rngOk_iff g.2
        exact ⟨i, j, rfl, ⟨g1, g2, g3, g4⟩, h2 _ _ _ _ Ext.refl wd2 walkR⟩
    | _ => exact h2.elim
  | _ => exact h2.elim
end
end PX

/-! PX11: enumerate, zip, reversed; comprehensions. -/
namespace PX
open PySem L2
theorem enumG_length (f : Nat → D → D) : ∀ (n : Nat) (ds : List D), (enumG f n ds).length = ds.length
  | _, [] => rfl
  | n, d :: ds => by simp [enumG, enumG_length f (n + 1) ds]
theorem enumG_get (f : Nat → D → D) : ∀ (n : Nat) (ds : List D) (i : Nat) (d : D), ds[i]? = some d → (enumG f n ds)[i]? = some (f (n + i) d)
  | _, [], i, d, h => by simp at h
  | n, x :: ds, 0, d, h => by simp at h; subst h; simp [enumG]
  | n, x :: ds, i + 1, d, h => by
    have := enumG_get f (n + 1) ds i d (by simpa using h)
    simp only [enumG, List.getElem?_cons_succ]
    rw [this]
    congr 2
    omega
theorem zipD_length (xs ys : List D) : (zipD xs ys).length = min xs.length ys.length := by simp [zipD]
theorem zipD_get {xs ys : List D} {i : Nat} {x y : D} (hx : xs[i]? = some x) (hy : ys[i]? = some y) : (zipD xs ys)[i]? = some (.tup [x, y]) := by
  have h : (xs.zip ys)[i]? = some (x, y) := by rw [List.getElem?_zip_eq_some]; exact ⟨hx, hy⟩
  simp [zipD, h]
section
variable {K : PySem.W.Frag} {H : Hp} {bar io : List Addr}
theorem walkE {w : Ws} {a : Addr} (h : ∀ H1 bar1 io1 S1, ExtW H bar io H1 bar1 io1 → StRep K H1 bar1 io1 S1 → w.ok S1 = true → ∃ b vs, V.ref a = .ref b ∧ SqL K H1 b vs ∧ Reps K H1 bar1 io1 vs w.ds) :
    WalkD K (Ite K a) ⟨enumG (fun i x => .tup [.int i, x]) 0 w.ds, w.g⟩ H bar io := by
  have hl : (enumG (fun i x => D.tup [.int i, x]) 0 w.ds).length = w.ds.length := enumG_length _ _ _
  refine ⟨fun i H1 b1 i1 S1 hi x st ok => ?_, fun H1 b1 i1 S1 x st ok => ?_, fun i H1 b1 i1 S1 v H1' hi x st ok y => ?_⟩
  · obtain ⟨_, vs, he, hs, r⟩ := h H1 b1 i1 S1 x st ok
    cases he
    have hi : i < (enumG (fun i x => D.tup [.int i, x]) 0 w.ds).length := hi
    have hi' : i < vs.length := by rw [r.length]; omega
    exact ⟨vs, vs[i], hs, by simp [hi']⟩
  · obtain ⟨_, vs, he, hs, r⟩ := h H1 b1 i1 S1 x st ok
    cases he
    exact ⟨vs, hs, by rw [r.length]; show w.ds.length ≤ (enumG (fun i x => D.tup [.int i, x]) 0 w.ds).length; omega⟩
  · obtain ⟨_, vs, he, hs, r⟩ := h H1 b1 i1 S1 x st ok
    cases he
    obtain ⟨T, u, rfl, hT, rfl, y⟩ := y
    obtain ⟨d, e, rd⟩ := r.getV (y vs hs)
    obtain ⟨y1, y2, y3⟩ := new_tup st (.cons (.int (i : Int)) (.cons rd .nil)) (by show 2 ≤ sizeLine; decide) hT
    have := enumG_get (fun i x => D.tup [.int i, x]) 0 w.ds i d e
    rw [Nat.zero_add] at this
    exact ⟨_, this, y1, y2, y3⟩
theorem ok_app {u v : List (Nat × Cell)} {ds : List D} {S : Store} (h : Ws.ok ⟨ds, u ++ v⟩ S = true) (es : List D) : Ws.ok ⟨es, u⟩ S = true ∧ Ws.ok ⟨es, v⟩ S = true := by
  unfold Ws.ok at *
  rw [List.all_append, Bool.and_eq_true] at h
  exact h
theorem walkZ {u w : Ws} {a b : Addr} (h : ∀ H1 bar1 io1 S1, ExtW H bar io H1 bar1 io1 → StRep K H1 bar1 io1 S1 → u.ok S1 = true → ∃ c vs, V.ref a = .ref c ∧ SqL K H1 c vs ∧ Reps K H1 bar1 io1 vs u.ds)
    (h2 : ∀ H1 bar1 io1 S1, ExtW H bar io H1 bar1 io1 → StRep K H1 bar1 io1 S1 → w.ok S1 = true → ∃ c vs, V.ref b = .ref c ∧ SqL K H1 c vs ∧ Reps K H1 bar1 io1 vs w.ds) :
    WalkD K (Itz K a b) ⟨zipD u.ds w.ds, u.g ++ w.g⟩ H bar io := by
  have hl := zipD_length u.ds w.ds
  refine ⟨fun i H1 b1 i1 S1 hi x st ok => ?_, fun H1 b1 i1 S1 x st ok => ?_, fun i H1 b1 i1 S1 v H1' hi x st ok y => ?_⟩
  · obtain ⟨_, vs, he, hs, r⟩ := h H1 b1 i1 S1 x st (ok_app ok u.ds).1
    obtain ⟨_, vs2, he2, hs2, r2⟩ := h2 H1 b1 i1 S1 x st (ok_app ok w.ds).2
    cases he; cases he2
    have hi : i < (zipD u.ds w.ds).length := hi
    have hi' : i < vs.length := by rw [r.length]; omega
    have hi2 : i < vs2.length := by rw [r2.length]; omega
    exact ⟨vs, vs2, vs[i], vs2[i], hs, hs2, by simp [hi'], by simp [hi2]⟩
  · obtain ⟨_, vs, he, hs, r⟩ := h H1 b1 i1 S1 x st (ok_app ok u.ds).1
    obtain ⟨_, vs2, he2, hs2, r2⟩ := h2 H1 b1 i1 S1 x st (ok_app ok w.ds).2
    cases he; cases he2
    refine ⟨vs, vs2, hs, hs2, ?_⟩
    show vs.length ≤ (zipD u.ds w.ds).length ∨ vs2.length ≤ (zipD u.ds w.ds).length
    rw [r.length, r2.length]
    omega
  · obtain ⟨_, vs, he, hs, r⟩ := h H1 b1 i1 S1 x st (ok_app ok u.ds).1
    obtain ⟨_, vs2, he2, hs2, r2⟩ := h2 H1 b1 i1 S1 x st (ok_app ok w.ds).2
    cases he; cases he2
    obtain ⟨T, p, q, rfl, hT, rfl, y, y2⟩ := y
    obtain ⟨d, e, rd⟩ := r.getV (y vs hs)
    obtain ⟨d2, e2, rd2⟩ := r2.getV (y2 vs2 hs2)
    obtain ⟨z1, z2, z3⟩ := new_tup st (.cons rd (.cons rd2 .nil)) (by show 2 ≤ sizeLine; decide) hT
    exact ⟨_, zipD_get e e2, z1, z2, z3⟩
theorem walkZT {xs ys : List D} {a b : Addr} (h : ∀ H1 bar1 io1, ExtW H bar io H1 bar1 io1 → ∃ c vs, V.ref a = .ref c ∧ SqT K H1 c vs ∧ Reps K H1 bar1 io1 vs xs)
    (h2 : ∀ H1 bar1 io1, ExtW H bar io H1 bar1 io1 → ∃ c vs, V.ref b = .ref c ∧ SqT K H1 c vs ∧ Reps K H1 bar1 io1 vs ys) :
    WalkD K (RZ.ItzT K a b) ⟨zipD xs ys, []⟩ H bar io := by
  have hl := zipD_length xs ys
  refine ⟨fun i H1 b1 i1 S1 hi x st ok => ?_, fun H1 b1 i1 S1 x st ok => ?_, fun i H1 b1 i1 S1 v H1' hi x st ok y => ?_⟩
  · obtain ⟨_, vs, he, hs, r⟩ := h H1 b1 i1 x
    obtain ⟨_, vs2, he2, hs2, r2⟩ := h2 H1 b1 i1 x
    cases he; cases he2
    have hi : i < (zipD xs ys).length := hi
    have hi' : i < vs.length := by rw [r.length]; omega
    have hi2 : i < vs2.length := by rw [r2.length]; omega
    exact ⟨vs, vs2, vs[i], vs2[i], hs, hs2, by simp [hi'], by simp [hi2]⟩
  · obtain ⟨_, vs, he, hs, r⟩ := h H1 b1 i1 x
    obtain ⟨_, vs2, he2, hs2, r2⟩ := h2 H1 b1 i1 x
    cases he; cases he2
    refine ⟨vs, vs2, hs, hs2, ?_⟩
    show vs.length ≤ (zipD xs ys).length ∨ vs2.length ≤ (zipD xs ys).length
    rw [r.length, r2.length]
    omega
  · obtain ⟨_, vs, he, hs, r⟩ := h H1 b1 i1 x
    obtain ⟨_, vs2, he2, hs2, r2⟩ := h2 H1 b1 i1 x
    cases he; cases he2
    obtain ⟨T, p, q, rfl, hT, rfl, y, y2⟩ := y
    obtain ⟨d, e, rd⟩ := r.getV (y vs hs)
    obtain ⟨d2, e2, rd2⟩ := r2.getV (y2 vs2 hs2)
    obtain ⟨z1, z2, z3⟩ := new_tup st (.cons rd (.cons rd2 .nil)) (by show 2 ≤ sizeLine; decide) hT
    exact ⟨_, zipD_get e e2, z1, z2, z3⟩
theorem walkV {w : Ws} {a : Addr} {n : Nat} (hn : n = w.ds.length) (h : ∀ H1 bar1 io1 S1, ExtW H bar io H1 bar1 io1 → StRep K H1 bar1 io1 S1 → w.ok S1 = true → ∃ b vs, V.ref a = .ref b ∧ SqL K H1 b vs ∧ Reps K H1 bar1 io1 vs w.ds) :
    WalkD K (Itv K a n) ⟨w.ds.reverse, w.g⟩ H bar io := by
  subst hn
  have hl : w.ds.reverse.length = w.ds.length := List.length_reverse
  refine ⟨fun i H1 b1 i1 S1 hi x st ok => ?_, fun H1 b1 i1 S1 x st ok => ?_, fun i H1 b1 i1 S1 v H1' hi x st ok y => ?_⟩
  · obtain ⟨_, vs, he, hs, r⟩ := h H1 b1 i1 S1 x st ok
    cases he
    have hi : i < w.ds.reverse.length := hi
    rw [hl] at hi
    have hi' : w.ds.length - 1 - i < vs.length := by rw [r.length]; omega
    exact ⟨hi, vs, vs[w.ds.length - 1 - i], hs, by simp [hi']⟩
  · show w.ds.length ≤ w.ds.reverse.length
    rw [hl]; exact Nat.le_refl _
  · obtain ⟨_, vs, he, hs, r⟩ := h H1 b1 i1 S1 x st ok
    cases he
    have hi : i < w.ds.reverse.length := hi
    rw [hl] at hi
    obtain ⟨rfl, y⟩ := y
    obtain ⟨d, e, rd⟩ := r.getV (y vs hs)
    exact ⟨d, by show w.ds.reverse[i]? = _; rw [List.getElem?_reverse hi]; exact e, Ext.refl, st, rd⟩
theorem walkVT {xs : List D} {a : Addr} {n : Nat} (hn : n = xs.length) (h : ∀ H1 bar1 io1, ExtW H bar io H1 bar1 io1 → ∃ b vs, V.ref a = .ref b ∧ SqT K H1 b vs ∧ Reps K H1 bar1 io1 vs xs) :
    WalkD K (RT.ItvT K a n) ⟨xs.reverse, []⟩ H bar io := by
  subst hn
  have hl : xs.reverse.length = xs.length := List.length_reverse
  refine ⟨fun i H1 b1 i1 S1 hi x st ok => ?_, fun H1 b1 i1 S1 x st ok => ?_, fun i H1 b1 i1 S1 v H1' hi x st ok y => ?_⟩
  · obtain ⟨_, vs, he, hs, r⟩ := h H1 b1 i1 x
    cases he
    have hi : i < xs.reverse.length := hi
    rw [hl] at hi
    have hi' : xs.length - 1 - i < vs.length := by rw [r.length]; omega
    exact ⟨hi, vs, vs[xs.length - 1 - i], hs, by simp [hi']⟩
  · show xs.length ≤ xs.reverse.length
    rw [hl]; exact Nat.le_refl _
  · obtain ⟨_, vs, he, hs, r⟩ := h H1 b1 i1 x
    cases he
    have hi : i < xs.reverse.length := hi
    rw [hl] at hi
    obtain ⟨rfl, y⟩ := y
    obtain ⟨d, e, rd⟩ := r.getV (y vs hs)
    exact ⟨d, by show xs.reverse[i]? = _; rw [List.getElem?_reverse hi]; exact e, Ext.refl, st, rd⟩
end
section
variable {X : Cx} {W : WX} {tg a b e : Expr} {ma mb : Env → Store → R D} {pos : Pos}
theorem i_enum {p tpos : Pos} {elts : List Expr} {kk : Nat} (hg : Gl X "enumerate") (hm : X.mg "enumerate" = none) (ha : XE' X W a ma) (hs : starEach [a] X.env = [(false, eval a X.env)]) :
    XI X W (.Tuple elts kk tpos) (.Call (.Name "enumerate" p) [a] [] pos) (fun ρ S => (ma ρ S).bind fun x S => enumV S x) := by
  have hA : PA X [a] (tCons (tE X.K X.mg ma W) tNil) := pa_cons ha pa_nil (by rw [hs]; rfl)
  refine (pi_enum hg hm hA hs).imp fun σ H R' h => ?_
  obtain ⟨bar, io, ρ, S, wd, h⟩ := iD_iff h
  refine ⟨bar, io, ρ, S, wd, (AftI.bind (P := PRep X.K) h).imp fun x H1 ⟨bar1, io1, S1, d1, x1, wd1, r1, _, h1⟩ => ?_⟩
  unfold enumV at h1
  cases hw : lstW S1 d1 with
  | none => rw [hw] at h1; exact h1.elim
  | some w =>
    rw [hw] at h1
    obtain ⟨c, vs, rfl, hs, _⟩ := lst_later wd1.st r1 hw ExtW.refl wd1.st (lstW_ok hw)
    exact ⟨c, vs, rfl, hs, h1 _ _ _ _ Ext.refl wd1 (walkE fun H2 b2 i2 S2 x st ok => lst_later wd1.st r1 hw x st ok)⟩
theorem i_zip {p tpos : Pos} {elts : List Expr} {kk : Nat} (hg : Gl X "zip") (hm : X.mg "zip" = none) (ha : XE' X W a ma) (hb : XE' X W b mb)
    (hs : starEach [a, b] X.env = (false, eval a X.env) :: starEach [b] X.env) (hs2 : starEach [b] X.env = [(false, eval b X.env)]) :
    XI X W (.Tuple elts kk tpos) (.Call (.Name "zip" p) [a, b] [] pos) (fun ρ S => (ma ρ S).bind fun x S => (mb ρ S).bind fun y S => zipV S x y) := by
  have hA : PA X [a, b] (tCons (tE X.K X.mg ma W) (tCons (tE X.K X.mg mb W) tNil)) := pa_cons ha (pa_cons hb pa_nil (by rw [hs2]; rfl)) hs
  refine (RZ.pi_zipA hg hm hA hs (by rw [hs2]; rfl)).imp fun σ H R' h => ?_
  obtain ⟨bar, io, ρ, S, wd, h⟩ := iD_iff h
  refine ⟨bar, io, ρ, S, wd, (AftI.bind (P := PRep X.K) h).imp fun x H1 ⟨bar1, io1, S1, d1, x1, wd1, r1, _, h1⟩ => ?_⟩
  refine ⟨bar1, io1, ρ, S1, wd1, (AftI.bind (P := PRep X.K) h1).imp fun y H2 ⟨bar2, io2, S2, d2, x2, wd2, r2, _, h2⟩ => ?_⟩
  have r1 := r1.mono x2 wd1.st.live
  unfold zipV at h2
  cases t1 : tupW d1 with
  | some xs =>
    cases t2 : tupW d2 with
    | some ys =>
      rw [t1, t2] at h2
      obtain ⟨c, vs, rfl, hs, _⟩ := tup_later wd2.st r1 t1 ExtW.refl
      obtain ⟨c2, vs2, rfl, hs2, _⟩ := tup_later wd2.st r2 t2 ExtW.refl
      exact ⟨c, c2, vs, vs2, rfl, .inr ⟨hs, hs2, h2 _ _ _ _ Ext.refl wd2 (walkZT (fun H2 b2 i2 x => tup_later wd2.st r1 t1 x) fun H2 b2 i2 x => tup_later wd2.st r2 t2 x)⟩⟩
    | none => rw [t1, t2] at h2; exact h2.elim
  | none =>
    cases t2 : tupW d2 with
    | some ys => rw [t1, t2] at h2; exact h2.elim
    | none =>
      rw [t1, t2] at h2
      cases w1 : lstW S2 d1 with
      | none => simp only [w1] at h2; exact h2.elim
      | some u =>
        cases w2 : lstW S2 d2 with
        | none => simp only [w1, w2] at h2; exact h2.elim
        | some w =>
          simp only [w1, w2] at h2
          obtain ⟨c, vs, rfl, hs, _⟩ := lst_later wd2.st r1 w1 ExtW.refl wd2.st (lstW_ok w1)
          obtain ⟨c2, vs2, rfl, hs2, _⟩ := lst_later wd2.st r2 w2 ExtW.refl wd2.st (lstW_ok w2)
          exact ⟨c, c2, vs, vs2, rfl, .inl ⟨hs, hs2, h2 _ _ _ _ Ext.refl wd2 (walkZ (fun H2 b2 i2 S2 x st ok => lst_later wd2.st r1 w1 x st ok) fun H2 b2 i2 S2 x st ok => lst_later wd2.st r2 w2 x st ok)⟩⟩
theorem i_rev {p : Pos} (hg : Gl X "reversed") (hm : X.mg "reversed" = none) (ha : XE' X W a ma) (hs : starEach [a] X.env = [(false, eval a X.env)]) :
    XI X W tg (.Call (.Name "reversed" p) [a] [] pos) (fun ρ S => (ma ρ S).bind fun x S => optR (revW S x) S) := by
  refine (RT.pi_revA hg hm ha (by rw [hs]; rfl)).imp fun σ H R' h => ?_
  obtain ⟨bar, io, ρ, S, wd, h⟩ := iD_iff h
  refine ⟨bar, io, ρ, S, wd, (AftI.bind (P := PRep X.K) h).imp fun x H1 ⟨bar1, io1, S1, d1, x1, wd1, r1, _, h1⟩ => ?_⟩
  unfold revW seqW at h1
  cases ht : tupW d1 with
  | some xs =>
    rw [ht] at h1
    have h1 : AftI X.K X.mg H1 bar1 io1 σ ρ W R' (.ok ⟨xs.reverse, []⟩ S1) := h1
    obtain ⟨a, vs, rfl, hs, q⟩ := tup_later wd1.st r1 ht ExtW.refl
    exact ⟨a, vs, rfl, .inr ⟨hs, h1 _ _ _ _ Ext.refl wd1 (walkVT q.length fun H2 b2 i2 x => tup_later wd1.st r1 ht x)⟩⟩
  | none =>
    rw [ht] at h1
    have h1 : AftI X.K X.mg H1 bar1 io1 σ ρ W R' (optR ((lstW S1 d1).map fun w => ⟨w.ds.reverse, w.g⟩) S1) := h1
    cases hw : lstW S1 d1 with
    | none => rw [hw] at h1; exact h1.elim
    | some w =>
      rw [hw] at h1
      have h1 : AftI X.K X.mg H1 bar1 io1 σ ρ W R' (.ok ⟨w.ds.reverse, w.g⟩ S1) := h1
      obtain ⟨a, vs, rfl, hs, q⟩ := lst_later wd1.st r1 hw ExtW.refl wd1.st (lstW_ok hw)
      exact ⟨a, vs, rfl, .inl ⟨hs, h1 _ _ _ _ Ext.refl wd1 (walkV q.length fun H2 b2 i2 S2 x st ok => lst_later wd1.st r1 hw x st ok)⟩⟩
end
end PX

/-! PX12: comprehensions. -/
namespace PX
open PySem L2
theorem wipe_wipe (σ : St) {vs : List Nat} : ∀ {us : List Nat}, (∀ i ∈ us, i ∈ vs) → wipe (wipe σ us) vs = wipe σ vs
  | [], _ => rfl
  | u :: us, h => by
    show wipe ((wipe σ us).set u none) vs = _
    rw [wipe_set (h u List.mem_cons_self)]
    exact wipe_wipe σ fun i hi => h i (List.mem_cons_of_mem _ hi)
section
variable {K : PySem.W.Frag} {H : Hp} {bar io : List Addr} {L : Addr} {us ws : List V}
mutual
/-- a list of which no data knows is written -/
theorem Rep.wrL (db : L ∈ bar) (hL : H L = some (.lst us)) : ∀ {v : V} {d : D}, Rep K H bar io v d → Rep K (upd H L (.lst ws)) bar io v d
  | _, _, .non => .non
  | _, _, .bl b => .bl b
  | _, _, .int i => .int i
  | _, _, .str s h k => .str s h k
  | _, _, .tup (a := a) h z r => .tup (by rw [upd_ne (show a ≠ L from fun e => by rw [e, hL] at h; cases h)]; exact h) z (Reps.wrL db hL r)
  | _, _, .kup h c d z v r => .kup h c d z v (Reps.wrL db hL r)
  | _, _, .scrK h c dd d z v r => .scrK h c dd d z v (Reps.wrL db hL r)
  | _, _, .lst (a := a) h b z r => .lst (by rw [upd_ne (show a ≠ L from fun e => b (e ▸ db))]; exact h) b z (Reps.wrL db hL r)
  | _, _, .scr (a := a) h z r => .scr (by rw [upd_ne (show a ≠ L from fun e => by rw [e, hL] at h; cases h)]; exact h) z (Reps.wrL db hL r)
  | _, _, .adr h => .adr h
theorem Reps.wrL (db : L ∈ bar) (hL : H L = some (.lst us)) : ∀ {vs : List V} {ds : List D}, Reps K H bar io vs ds → Reps K (upd H L (.lst ws)) bar io vs ds
  | _, _, .nil => .nil
  | _, _, .cons r t => .cons (Rep.wrL db hL r) (Reps.wrL db hL t)
end
theorem RepK.wrL (db : L ∈ bar) (hL : H L = some (.lst us)) : ∀ {vs : List (Key × V)} {ds : List (Key × D)}, RepK K H bar io vs ds → RepK K (upd H L (.lst ws)) bar io vs ds
  | _, _, .nil => .nil
  | _, _, .cons r t => .cons (r.wrL db hL) (RepK.wrL db hL t)
theorem CellRep.wrL {o : HO} {c : Cell} (db : L ∈ bar) (hL : H L = some (.lst us)) (h : CellRep K H bar io o c) : CellRep K (upd H L (.lst ws)) bar io o c := by
  cases h with
  | lst z r => exact .lst z (r.wrL db hL)
  | dic z r => exact .dic z (r.wrL db hL)
theorem StRep.wrL {S : Store} (db : L ∈ bar) (di : L ∉ io) (hL : H L = some (.lst us)) (h : StRep K H bar io S) : StRep K (upd H L (.lst ws)) bar io S := by
  refine ⟨h.len, h.nd, h.sub, fun a ha => ?_, fun n c hc => ?_⟩
  · by_cases e : a = L
    · rw [e, upd_same]; trivial
    · rw [upd_ne e]; exact h.bal a ha
  · obtain ⟨a, o, e1, e2, r⟩ := h.cell n c hc
    exact ⟨a, o, e1, by rw [upd_ne (show a ≠ L from fun e => di (e ▸ List.mem_of_getElem? e1))]; exact e2, r.wrL db hL⟩
theorem EnvRep.wrL {σ : St} {ρ : Env} (db : L ∈ bar) (hL : H L = some (.lst us)) (h : EnvRep K H bar io σ ρ) : EnvRep K (upd H L (.lst ws)) bar io σ ρ :=
  ⟨h.1, fun i d e => let ⟨v, e1, r⟩ := h.2 i d e; ⟨v, e1, r.wrL db hL⟩⟩
theorem EnvRep.monoW {H' : Hp} {bar' io' : List Addr} {σ : St} {ρ : Env} (x : ExtW H bar io H' bar' io') (lv : ∀ a ∈ bar, Mut (H a)) (h : EnvRep K H bar io σ ρ) : EnvRep K H' bar' io' σ ρ :=
  ⟨h.1, fun i d e => let ⟨v, e1, r⟩ := h.2 i d e; ⟨v, e1, r.monoW x lv⟩⟩
theorem ExtW.wrL (db : L ∈ bar) : ExtW H bar io (upd H L (.lst ws)) bar io := by
  refine ⟨⟨[], by simp, by simp⟩, fun _ h => .inl h, fun _ h => h, fun a o h hn => ?_, fun a h => ?_⟩
  · rw [upd_ne (show a ≠ L from fun e => hn (e ▸ db))]; exact h
  · by_cases e : a = L
    · rw [e, upd_same] at h; cases h
    · rw [upd_ne e] at h; exact h
/-! other names of the cells: less, more -/
mutual
theorem Rep.less {bar2 : List Addr} (h : ∀ a ∈ bar2, a ∈ bar) : ∀ {v : V} {d : D}, Rep K H bar io v d → Rep K H bar2 io v d
  | _, _, .non => .non
  | _, _, .bl b => .bl b
  | _, _, .int i => .int i
  | _, _, .str s h k => .str s h k
  | _, _, .tup e z r => .tup e z (Reps.less h r)
  | _, _, .kup e c d z v r => .kup e c d z v (Reps.less h r)
  | _, _, .scrK e c dd d z v r => .scrK e c dd d z v (Reps.less h r)
  | _, _, .lst e b z r => .lst e (fun m => b (h _ m)) z (Reps.less h r)
  | _, _, .scr e z r => .scr e z (Reps.less h r)
  | _, _, .adr e => .adr e
theorem Reps.less {bar2 : List Addr} (h : ∀ a ∈ bar2, a ∈ bar) : ∀ {vs : List V} {ds : List D}, Reps K H bar io vs ds → Reps K H bar2 io vs ds
  | _, _, .nil => .nil
  | _, _, .cons r t => .cons (Rep.less h r) (Reps.less h t)
end
theorem RepK.less {bar2 : List Addr} (h : ∀ a ∈ bar2, a ∈ bar) : ∀ {vs : List (Key × V)} {ds : List (Key × D)}, RepK K H bar io vs ds → RepK K H bar2 io vs ds
  | _, _, .nil => .nil
  | _, _, .cons r t => .cons (r.less h) (RepK.less h t)
theorem StRep.less {bar2 : List Addr} {S : Store} (h : ∀ a ∈ bar2, a ∈ bar) (hi : ∀ a ∈ io, a ∈ bar2) (st : StRep K H bar io S) : StRep K H bar2 io S := by
  refine ⟨st.len, st.nd, hi, fun a ha => st.bal a (h a ha), fun n c hc => ?_⟩
  obtain ⟨a, o, e1, e2, r⟩ := st.cell n c hc
  refine ⟨a, o, e1, e2, ?_⟩
  cases r with
  | lst z r => exact .lst z (r.less h)
  | dic z r => exact .dic z (r.less h)
mutual
theorem Rep.moreIo {io2 : List Addr} : ∀ {v : V} {d : D}, Rep K H bar io v d → Rep K H bar (io ++ io2) v d
  | _, _, .non => .non
  | _, _, .bl b => .bl b
  | _, _, .int i => .int i
  | _, _, .str s h k => .str s h k
  | _, _, .tup e z r => .tup e z (Reps.moreIo r)
  | _, _, .kup e c d z v r => .kup e c d z v (Reps.moreIo r)
  | _, _, .scrK e c dd d z v r => .scrK e c dd d z v (Reps.moreIo r)
  | _, _, .lst e b z r => .lst e b z (Reps.moreIo r)
  | _, _, .scr e z r => .scr e z (Reps.moreIo r)
  | _, _, .adr e => .adr (by rw [List.getElem?_append_left (List.getElem?_eq_some_iff.mp e).1]; exact e)
theorem Reps.moreIo {io2 : List Addr} : ∀ {vs : List V} {ds : List D}, Reps K H bar io vs ds → Reps K H bar (io ++ io2) vs ds
  | _, _, .nil => .nil
  | _, _, .cons r t => .cons (Rep.moreIo r) (Reps.moreIo t)
end
theorem RepK.moreIo {io2 : List Addr} : ∀ {vs : List (Key × V)} {ds : List (Key × D)}, RepK K H bar io vs ds → RepK K H bar (io ++ io2) vs ds
  | _, _, .nil => .nil
  | _, _, .cons r t => .cons (r.moreIo) (RepK.moreIo t)
end

/-! ### the list that is made -/
def LcI (K : PySem.W.Frag) (H0 : Hp) (b0 i0 : List Addr) (L : Addr) (H1 : Hp) (b1 i1 : List Addr) (σ : St) (ρ : Env) (H : Hp) (S : Store) (acc : List D) : Prop :=
  ∃ bar io vs, Ext H0 b0 i0 H bar io ∧ ExtW H1 b1 i1 H bar io ∧ Wd K H bar io σ ρ S ∧ L ∈ bar ∧ L ∉ io ∧ H L = some (.lst vs) ∧ Reps K H bar io vs acc ∧ vs.length ≤ sizeLine
section
variable {K : PySem.W.Frag} {H0 H1 H H' : Hp} {b0 i0 b1 i1 bar io bar' io' : List Addr} {L : Addr} {σ : St} {ρ : Env} {S S' : Store} {acc : List D} {vs : List V}
/-- an evaluation in the turn -/
theorem lc_step (h0 : Ext H0 b0 i0 H bar io) (h1 : ExtW H1 b1 i1 H bar io) (wd : Wd K H bar io σ ρ S) (db : L ∈ bar) (di : L ∉ io) (hL : H L = some (.lst vs)) (r : Reps K H bar io vs acc) (z : vs.length ≤ sizeLine)
    (x : Ext H bar io H' bar' io') (st : StRep K H' bar' io' S') :
    Ext H0 b0 i0 H' bar' io' ∧ ExtW H1 b1 i1 H' bar' io' ∧ Wd K H' bar' io' σ ρ S' ∧ L ∈ bar' ∧ L ∉ io' ∧ H' L = some (.lst vs) ∧ Reps K H' bar' io' vs acc ∧ vs.length ≤ sizeLine := by
  refine ⟨h0.trans x, h1.trans (x.weak wd.st.sub), wd.mono' x st, x.bi L db, fun hm => ?_, x.ke L _ hL di, r.mono x wd.st.live, z⟩
  obtain ⟨m, e, f⟩ := x.mo
  rw [e] at hm
  rcases List.mem_append.mp hm with q | q
  · exact di q
  · rw [f L q] at hL; cases hL
/-- an item more -/
theorem lc_snoc {y : V} {d : D} (hn : H0 L = none) (h0 : Ext H0 b0 i0 H bar io) (h1 : ExtW H1 b1 i1 H bar io) (wd : Wd K H bar io σ ρ S) (db : L ∈ bar) (di : L ∉ io) (hL : H L = some (.lst vs)) (r : Reps K H bar io vs acc)
    (q : Rep K H bar io y d) (z : vs.length < sizeLine) : LcI K H0 b0 i0 L H1 b1 i1 σ ρ (upd H L (.lst (vs ++ [y]))) S (acc ++ [d]) := by
  refine ⟨bar, io, vs ++ [y], ?_, h1.trans (ExtW.wrL db), ⟨wd.env.wrL db hL, wd.st.wrL db di hL⟩, db, di, upd_same, (r.append (.cons q .nil)).wrL db hL, by rw [List.length_append]; exact z⟩
  refine ⟨h0.mo, h0.bo, h0.bi, fun a o e n => ?_, fun a e => ?_⟩
  · rw [upd_ne (show a ≠ L from fun h => by rw [h, hn] at e; cases e)]; exact h0.ke a o e n
  · by_cases h : a = L
    · rw [h]; exact hn
    · rw [upd_ne h] at e; exact h0.al a e
/-- the loop's walk -/
theorem loop_W {J : It} {n : Nat} {Pv : Nat → Hp → Prop} {End : Hp → Prop} {Step : V → Hp → (Hp → Prop) → Prop} (h0 : Pv 0 H0) (hgo : ∀ i H, i < n → Pv i H → J.go i H ∧ ∀ x H', J.yld i H x H' → Step x H' (Pv (i + 1))) (hst : ∀ H, Pv n H → J.stop n H ∧ End H) :
    ∃ W : Nat → Nat → Hp → Prop, (∃ m, W 0 m H0) ∧ ∀ i m H, W i m H → (J.stop i H ∧ End H) ∨ (J.go i H ∧ ∃ Nx : Hp → Prop, (∀ H', Nx H' → ∃ m', m' < m ∧ W (i + 1) m' H') ∧ ∀ x H', J.yld i H x H' → Step x H' Nx) := by
  refine ⟨fun i m H => m = n - i ∧ i ≤ n ∧ Pv i H, ⟨n, rfl, Nat.zero_le _, h0⟩, ?_⟩
  rintro i m H ⟨rfl, hi, p⟩
  by_cases hlt : i < n
  · obtain ⟨g1, g2⟩ := hgo i H hlt p
    exact .inr ⟨g1, Pv (i + 1), fun H' p' => ⟨n - (i + 1), by omega, rfl, hlt, p'⟩, g2⟩
  · have e : i = n := by omega
    subst e
    exact .inl (hst H p)
theorem guard_ok {α : Type} {b : Bool} {r : R α} {d : α} {S : Store} (h : guardR b r = .ok d S) : b = true ∧ r = .ok d S := guardR_ok h
theorem lcLoop_cons {w : Ws} {turn : D → List D → Store → R (List D)} {d : D} {ds acc accF : List D} {S SF : Store} (h : lcLoop w turn (d :: ds) acc S = .ok accF SF) : w.ok S = true ∧ ∃ acc' S', turn d acc S = .ok acc' S' ∧ lcLoop w turn ds acc' S' = .ok accF SF := by
  unfold lcLoop at h
  obtain ⟨h1, h2⟩ := guardR_ok h
  refine ⟨h1, ?_⟩
  split at h2
  · rename_i acc' S' e
    exact ⟨acc', S', e, h2⟩
  · cases h2
theorem lcLoop_nil {w : Ws} {turn : D → List D → Store → R (List D)} {acc accF : List D} {S SF : Store} (h : lcLoop w turn [] acc S = .ok accF SF) : w.ok S = true ∧ acc = accF ∧ S = SF := by
  unfold lcLoop at h
  obtain ⟨h1, h2⟩ := guardR_ok h
  cases h2
  exact ⟨h1, rfl, rfl⟩
theorem lcLoop_noX {w : Ws} {turn : D → List D → Store → R (List D)} : ∀ (ds acc : List D) (S : Store), (lcLoop w turn ds acc S).noX
  | [], acc, S => by unfold lcLoop; exact noX_guard noX_ok
  | d :: ds, acc, S => by
    unfold lcLoop
    refine noX_guard ?_
    split
    · exact lcLoop_noX ds _ _
    · exact noX_stuck
end
/-- nothing breaks in a block -/
abbrev W0 : WX := fun _ _ _ _ => False
theorem tk0 {X : Cx} : Takes X W0 := takes0
theorem asgs_slots {t : T} {d : D} {ρ ρ' : Env} (h : asgT t d ρ = some ρ') : True := trivial

/-- the walk of a comprehension's loop -/
theorem comp_walk {K : PySem.W.Frag} {H0 H1 Hs : Hp} {b0 i0 b1 i1 : List Addr} {L : Addr} {σ : St} {ρ : Env} {w : Ws} {J : It} {turn : D → List D → Store → R (List D)} {Ss SF : Store} {accs accF : List D} {Step : V → Hp → (Hp → Prop) → Prop} {End : Hp → Prop}
    (hn : H0 L = none) (wk : WalkD K J w H1 b1 i1) (hs : LcI K H0 b0 i0 L H1 b1 i1 σ ρ Hs Ss accs) (he : lcLoop w turn w.ds accs Ss = .ok accF SF)
    (hstep : ∀ d acc S acc' S' x H bar io vs Nx, w.ok S = true → turn d acc S = .ok acc' S' → Rep K H bar io x d → Ext H0 b0 i0 H bar io → ExtW H1 b1 i1 H bar io → Wd K H bar io σ ρ S → L ∈ bar → L ∉ io → H L = some (.lst vs) → Reps K H bar io vs acc → vs.length ≤ sizeLine →
      (∀ H', LcI K H0 b0 i0 L H1 b1 i1 σ ρ H' S' acc' → Nx H') → Step x H Nx)
    (hend : ∀ H, LcI K H0 b0 i0 L H1 b1 i1 σ ρ H SF accF → End H) :
    ∃ W : Nat → Nat → Hp → Prop, (∃ m, W 0 m Hs) ∧ ∀ i m H, W i m H → (J.stop i H ∧ End H) ∨ (J.go i H ∧ ∃ Nx : Hp → Prop, (∀ H', Nx H' → ∃ m', m' < m ∧ W (i + 1) m' H') ∧ ∀ x H', J.yld i H x H' → Step x H' Nx) := by
  refine loop_W (n := w.ds.length) (Pv := fun i H => ∃ S acc, LcI K H0 b0 i0 L H1 b1 i1 σ ρ H S acc ∧ lcLoop w turn (w.ds.drop i) acc S = .ok accF SF) ⟨Ss, accs, hs, by simpa using he⟩ (fun i H hi p => ?_) fun H p => ?_
  · obtain ⟨S, acc, ⟨bar, io, vs, x0, x1, wd, db, di, hL, r, z⟩, hl⟩ := p
    have ed : w.ds.drop i = w.ds[i] :: w.ds.drop (i + 1) := by rw [List.drop_eq_getElem_cons hi]
    rw [ed] at hl
    obtain ⟨ok, acc', S', ht, hl⟩ := lcLoop_cons hl
    refine ⟨wk.go i H bar io S hi x1 wd.st ok, fun x H' y => ?_⟩
    obtain ⟨d, e, y1, y2, y3⟩ := wk.yld i H bar io S x H' hi x1 wd.st ok y
    have : d = w.ds[i] := by rw [List.getElem?_eq_getElem hi] at e; cases e; rfl
    subst this
    obtain ⟨g0, g1, g2, g3, g4, g5, g6, g7⟩ := lc_step x0 x1 wd db di hL r z y1 y2
    exact hstep _ acc S acc' S' x H' bar io vs _ ok ht y3 g0 g1 g2 g3 g4 g5 g6 g7 fun H2 h2 => ⟨S', acc', h2, hl⟩
  · obtain ⟨S, acc, hl0, hl⟩ := p
    rw [List.drop_length] at hl
    obtain ⟨ok, rfl, rfl⟩ := lcLoop_nil hl
    obtain ⟨bar, io, vs, x0, x1, wd, db, di, hL, r, z⟩ := id hl0
    exact ⟨wk.stop H bar io S x1 wd.st ok, hend H hl0⟩
section
variable {X : Cx} {W : WX}
/-- the end: the list is what it is -/
theorem comp_end {mu : Bool} {H0 H1 : Hp} {b0 i0 b1 i1 : List Addr} {L : Addr} {σ : St} {ρ : Env} {H : Hp} {SF : Store} {accF : List D} {Q : VK} {σ' : St} {ρ' : Env} {S0 : Store} (hn : H0 L = none) (wd0 : Wd X.K H0 b0 i0 σ' ρ' S0)
    (h : LcI X.K H0 b0 i0 L H1 b1 i1 σ ρ H SF accF) (q : Aft X.K X.mg (PRep X.K) H0 b0 i0 σ' ρ' W Q (endL mu accF SF)) : Q (.ref L) H := by
  obtain ⟨bar, io, vs, x0, x1, wd, db, di, hL, r, z⟩ := h
  have nb0 : L ∉ b0 := wd0.st.notBar hn
  cases mu with
  | false =>
    have hb : ∀ a ∈ bar.filter (· ≠ L), a ∈ bar := fun a ha => (List.mem_filter.mp ha).1
    have ni : L ∉ bar.filter (· ≠ L) := fun hm => by simpa using (List.mem_filter.mp hm).2
    have hio : ∀ a ∈ io, a ∈ bar.filter (· ≠ L) := fun a ha => List.mem_filter.mpr ⟨wd.st.sub a ha, by simp; exact fun e => di (e ▸ ha)⟩
    have x2 : Ext H0 b0 i0 H (bar.filter (· ≠ L)) io := ⟨x0.mo, fun p hp => x0.bo p (hb p hp), fun p hp => List.mem_filter.mpr ⟨x0.bi p hp, by simp; exact fun e => nb0 (e ▸ hp)⟩, x0.ke, x0.al⟩
    have st2 : StRep X.K H (bar.filter (· ≠ L)) io SF := wd.st.less hb hio
    exact q (.ref L) H _ io x2 (wd0.mono' x2 st2) (.lst hL ni z (r.less hb))
  | true =>
    have x2 : Ext H0 b0 i0 H bar (io ++ [L]) := by
      obtain ⟨m, e, f⟩ := x0.mo
      refine ⟨⟨m ++ [L], by rw [e, List.append_assoc], fun p hp => ?_⟩, x0.bo, x0.bi, x0.ke, x0.al⟩
      rcases List.mem_append.mp hp with h | h
      · exact f p h
      · rw [List.mem_singleton.mp h]; exact hn
    have st2 : StRep X.K H bar (io ++ [L]) (SF ++ [.lst accF]) := by
      refine ⟨by simp [wd.st.len], ?_, fun a ha => ?_, wd.st.bal, fun n c hc => ?_⟩
      · refine List.nodup_append.mpr ⟨wd.st.nd, List.nodup_cons.mpr ⟨by simp, List.nodup_nil⟩, fun a ha b hb e => ?_⟩
        have : b = L := by simpa using hb
        rw [e, this] at ha
        exact di ha
      · rcases List.mem_append.mp ha with h | h
        · exact wd.st.sub a h
        · rw [List.mem_singleton.mp h]; exact db
      · by_cases hl : n < SF.length
        · rw [List.getElem?_append_left hl] at hc
          obtain ⟨a, o, e1, e2, q⟩ := wd.st.cell n c hc
          refine ⟨a, o, by rw [List.getElem?_append_left (by rw [← wd.st.len]; exact hl)]; exact e1, e2, ?_⟩
          cases q with
          | lst z r => exact .lst z r.moreIo
          | dic z r => exact .dic z r.moreIo
        · have hl' : SF.length ≤ n := Nat.le_of_not_lt hl
          rw [List.getElem?_append_right hl'] at hc
          have e0 : n - SF.length = 0 := by
            by_cases z : n - SF.length = 0
            · exact z
            · rw [List.getElem?_eq_none (by simp; omega)] at hc; cases hc
          rw [e0] at hc
          have e : Cell.lst accF = c := by simpa using hc
          subst e
          refine ⟨L, _, ?_, hL, .lst z r.moreIo⟩
          rw [List.getElem?_append_right (by rw [← wd.st.len]; exact hl'), ← wd.st.len, e0]
          rfl
    refine q (.ref L) H _ _ x2 (wd0.mono' x2 st2) (.adr ?_)
    rw [wd.st.len, List.getElem?_append_right (Nat.le_refl _), Nat.sub_self]
    rfl
/-- the list as it starts -/
theorem comp_start {H0 : Hp} {b0 i0 : List Addr} {L : Addr} {σ : St} {ρ : Env} {S : Store} (hn : H0 L = none) (wd : Wd X.K H0 b0 i0 σ ρ S) : LcI X.K H0 b0 i0 L H0 b0 i0 σ ρ (upd H0 L (.lst [])) S [] := by
  have x1 : Ext H0 b0 i0 (upd H0 L (.lst [])) b0 i0 := Ext.new hn
  have x2 : Ext H0 b0 i0 (upd H0 L (.lst [])) (L :: b0) i0 := ⟨x1.mo, fun p hp => by
    rcases List.mem_cons.mp hp with e | h
    · exact .inr (e ▸ hn)
    · exact .inl h, fun p hp => List.mem_cons_of_mem _ hp, x1.ke, x1.al⟩
  have di : L ∉ i0 := fun hm => wd.st.notBar hn (wd.st.sub L hm)
  have st : StRep X.K (upd H0 L (.lst [])) (L :: b0) i0 S := wd.st.mono x2 (fun a ha => by rw [upd_ne (show a ≠ L from fun e => di (e ▸ ha))]) fun a ha => by
    by_cases e : a = L
    · rw [e, upd_same]; trivial
    · rw [upd_ne e]
      rcases List.mem_cons.mp ha with h | h
      · exact absurd h e
      · exact wd.st.bal a h
  exact ⟨L :: b0, i0, [], x2, x2.weak wd.st.sub, wd.mono' x2 st, List.mem_cons_self, di, upd_same, .nil, Nat.zero_le _⟩
end
end PX

/-! PX13: comprehensions as steps. -/
namespace PX
open PySem L2
/-- a turn with an element -/
def turnE (t : T) (vs : List Nat) (mc : Env → Store → R Bool) (me : Env → Store → R D) (ρ : Env) : D → List D → Store → R (List D) := fun d acc S => match asgT t d (wipeE ρ vs) with
  | some ρ1 => (mc ρ1 S).bind fun b S => match b with
    | true => (me ρ1 S).bind fun y S => guardR (decide (acc.length < sizeLine)) (.ok (acc ++ [y]) S)
    | false => .ok acc S
  | none => .stuck
theorem turnE_ok {t : T} {vs : List Nat} {mc : Env → Store → R Bool} {me : Env → Store → R D} {ρ : Env} {d : D} {acc acc' : List D} {S S' : Store} (h : turnE t vs mc me ρ d acc S = .ok acc' S') :
    ∃ ρ1 b S2, asgT t d (wipeE ρ vs) = some ρ1 ∧ mc ρ1 S = .ok b S2 ∧ match b with
      | true => ∃ y, me ρ1 S2 = .ok y S' ∧ acc.length < sizeLine ∧ acc' = acc ++ [y]
      | false => acc' = acc ∧ S' = S2 := by
  unfold turnE at h
  split at h
  · rename_i ρ1 e
    obtain ⟨b, S2, e2, h⟩ := R.bind_eq_ok h
    refine ⟨ρ1, b, S2, e, e2, ?_⟩
    cases b with
    | true =>
      obtain ⟨y, S3, e3, h⟩ := R.bind_eq_ok h
      obtain ⟨g, h⟩ := guardR_ok h
      cases h
      exact ⟨y, e3, of_decide_eq_true g, rfl⟩
    | false => cases h; exact ⟨rfl, rfl⟩
  · cases h
section
variable {K : PySem.W.Frag} {mg : Str → Option Value} {H0 H1 : Hp} {b0 i0 b1 i1 : List Addr} {L : Addr} {σ : St} {ρ : Env}
theorem lc_turn {t : T} {vs : List Nat} {mc : Env → Store → R Bool} {me : Env → Store → R D} {d : D} {acc acc' : List D} {S S' : Store} {x : V} {H : Hp} {bar io : List Addr} {us : List V} {Nx : Hp → Prop} (hn : H0 L = none) (ts : ∀ i ∈ t.slots, i ∈ vs)
    (ht : turnE t vs mc me ρ d acc S = .ok acc' S') (rx : Rep K H bar io x d) (x0 : Ext H0 b0 i0 H bar io) (x1 : ExtW H1 b1 i1 H bar io) (wd : Wd K H bar io σ ρ S) (db : L ∈ bar) (di : L ∉ io) (hL : H L = some (.lst us)) (r : Reps K H bar io us acc) (z : us.length ≤ sizeLine)
    (nx : ∀ H', LcI K H0 b0 i0 L H1 b1 i1 σ ρ H' S' acc' → Nx H') :
    gD K t x (wipe σ vs) H fun σ2 H2 => wipe σ2 vs = wipe σ vs ∧ tQ K mg mc W0 σ2 H2 fun b H3 =>
      if b = true then tE K mg me W0 σ2 H3 fun y H4 => ∃ acc, H4 L = some (.lst acc) ∧ acc.length < sizeLine ∧ Nx (upd H4 L (.lst (acc ++ [y]))) else Nx H3 := by
  obtain ⟨ρ1, b, S2, e1, e2, hb⟩ := turnE_ok ht
  refine ⟨bar, io, wipeE ρ vs, S, d, ρ1, ⟨wd.env.wipe vs, wd.st⟩, rx, e1, fun σ2 wd2 hw => ⟨?_, ?_⟩⟩
  · rw [hw vs ts]; exact wipe_wipe σ fun _ h => h
  · refine ⟨bar, io, ρ1, S, wd2, ?_⟩
    rw [e2]
    intro b' H2 bar2 io2 y2 w2 eb
    subst eb
    obtain ⟨g0, g1, g2, g3, g4, g5, g6, g7⟩ := lc_step x0 x1 wd db di hL r z y2 w2.st
    cases b' with
    | false =>
      obtain ⟨rfl, rfl⟩ := hb
      rw [if_neg (by decide)]
      exact nx H2 ⟨bar2, io2, us, g0, g1, g2, g3, g4, g5, g6, g7⟩
    | true =>
      obtain ⟨y, e3, hlt, rfl⟩ := hb
      rw [if_pos rfl]
      refine ⟨bar2, io2, ρ1, S2, w2, ?_⟩
      rw [e3]
      intro v H3 bar3 io3 y3 w3 rv
      obtain ⟨k0, k1, k2, k3, k4, k5, k6, k7⟩ := lc_step g0 g1 g2 g3 g4 g5 g6 g7 y3 w3.st
      have hz : us.length < sizeLine := by rw [r.length]; exact hlt
      exact ⟨us, k5, hz, nx _ (lc_snoc hn k0 k1 k2 k3 k4 k5 k6 rv hz)⟩
/-- a turn with a loop of its own -/
def turnI (t : T) (vs : List Nat) (mc : Env → Store → R Bool) (mi : Env → Store → R Ws) (turn : Env → D → List D → Store → R (List D)) (ρ : Env) : D → List D → Store → R (List D) := fun d acc S => match asgT t d (wipeE ρ vs) with
  | some ρ1 => (mc ρ1 S).bind fun b S => match b with
    | true => (mi ρ1 S).bind fun w1 S => lcLoop w1 (turn ρ1) w1.ds acc S
    | false => .ok acc S
  | none => .stuck
theorem turnI_ok {t : T} {vs : List Nat} {mc : Env → Store → R Bool} {mi : Env → Store → R Ws} {turn : Env → D → List D → Store → R (List D)} {ρ : Env} {d : D} {acc acc' : List D} {S S' : Store} (h : turnI t vs mc mi turn ρ d acc S = .ok acc' S') :
    ∃ ρ1 b S2, asgT t d (wipeE ρ vs) = some ρ1 ∧ mc ρ1 S = .ok b S2 ∧ match b with
      | true => ∃ w1 S3, mi ρ1 S2 = .ok w1 S3 ∧ lcLoop w1 (turn ρ1) w1.ds acc S3 = .ok acc' S'
      | false => acc' = acc ∧ S' = S2 := by
  unfold turnI at h
  split at h
  · rename_i ρ1 e
    obtain ⟨b, S2, e2, h⟩ := R.bind_eq_ok h
    refine ⟨ρ1, b, S2, e, e2, ?_⟩
    cases b with
    | true =>
      obtain ⟨w1, S3, e3, h⟩ := R.bind_eq_ok h
      exact ⟨w1, S3, e3, h⟩
    | false => cases h; exact ⟨rfl, rfl⟩
  · cases h
theorem lc_turn2 {t t1 : T} {vs vs1 : List Nat} {mc mc1 : Env → Store → R Bool} {mi1 : Env → Store → R Ws} {me : Env → Store → R D} {d : D} {acc acc' : List D} {S S' : Store} {x : V} {H : Hp} {bar io : List Addr} {us : List V} {Nx : Hp → Prop} (hn : H0 L = none) (ts : ∀ i ∈ t.slots, i ∈ vs) (ts1 : ∀ i ∈ t1.slots, i ∈ vs1)
    (ht : turnI t vs mc mi1 (turnE t1 vs1 mc1 me) ρ d acc S = .ok acc' S') (rx : Rep K H bar io x d) (x0 : Ext H0 b0 i0 H bar io) (x1 : ExtW H1 b1 i1 H bar io) (wd : Wd K H bar io σ ρ S) (db : L ∈ bar) (di : L ∉ io) (hL : H L = some (.lst us)) (r : Reps K H bar io us acc) (z : us.length ≤ sizeLine)
    (nx : ∀ H', LcI K H0 b0 i0 L H1 b1 i1 σ ρ H' S' acc' → Nx H') :
    gD K t x (wipe σ vs) H fun σ2 H2 => wipe σ2 vs = wipe σ vs ∧ tQ K mg mc W0 σ2 H2 fun b H3 =>
      if b = true then iD K mg mi1 W0 σ2 H3 fun J1 H4 => ∃ W1 : Nat → Nat → Hp → Prop, (∃ m, W1 0 m H4) ∧ ∀ j k H, W1 j k H →
        (J1.stop j H ∧ Nx H) ∨ (J1.go j H ∧ ∃ Nx1 : Hp → Prop, (∀ H', Nx1 H' → ∃ k', k' < k ∧ W1 (j + 1) k' H') ∧ ∀ x H', J1.yld j H x H' → gD K t1 x (wipe σ2 vs1) H' fun σ3 H5 => wipe σ3 vs1 = wipe σ2 vs1 ∧ tQ K mg mc1 W0 σ3 H5 fun b H6 =>
          if b = true then tE K mg me W0 σ3 H6 fun y H7 => ∃ acc, H7 L = some (.lst acc) ∧ acc.length < sizeLine ∧ Nx1 (upd H7 L (.lst (acc ++ [y]))) else Nx1 H6)
      else Nx H3 := by
  obtain ⟨ρ1, b, S2, e1, e2, hb⟩ := turnI_ok ht
  refine ⟨bar, io, wipeE ρ vs, S, d, ρ1, ⟨wd.env.wipe vs, wd.st⟩, rx, e1, fun σ2 wd2 hw => ⟨?_, ?_⟩⟩
  · rw [hw vs ts]; exact wipe_wipe σ fun _ h => h
  · refine ⟨bar, io, ρ1, S, wd2, ?_⟩
    rw [e2]
    intro b' H2 bar2 io2 y2 w2 eb
    subst eb
    obtain ⟨g0, g1, g2, g3, g4, g5, g6, g7⟩ := lc_step x0 x1 wd db di hL r z y2 w2.st
    cases b' with
    | false =>
      obtain ⟨rfl, rfl⟩ := hb
      rw [if_neg (by decide)]
      exact nx H2 ⟨bar2, io2, us, g0, g1, g2, g3, g4, g5, g6, g7⟩
    | true =>
      obtain ⟨w1, S3, e3, hl⟩ := hb
      rw [if_pos rfl]
      refine ⟨bar2, io2, ρ1, S2, w2, ?_⟩
      rw [e3]
      intro J1 H4 bar4 io4 y4 w4 wk1
      obtain ⟨k0, k1, k2, k3, k4, k5, k6, k7⟩ := lc_step g0 g1 g2 g3 g4 g5 g6 g7 y4 w4.st
      have start : LcI K H0 b0 i0 L H4 bar4 io4 σ2 ρ1 H4 S3 acc := ⟨bar4, io4, us, k0, ExtW.refl, w4, k3, k4, k5, k6, k7⟩
      refine comp_walk (Step := fun x H' Nx1 => gD K t1 x (wipe σ2 vs1) H' fun σ3 H5 => wipe σ3 vs1 = wipe σ2 vs1 ∧ tQ K mg mc1 W0 σ3 H5 fun b H6 =>
          if b = true then tE K mg me W0 σ3 H6 fun y H7 => ∃ acc, H7 L = some (.lst acc) ∧ acc.length < sizeLine ∧ Nx1 (upd H7 L (.lst (acc ++ [y]))) else Nx1 H6)
        hn wk1 start hl (fun d acc S acc' S' x H bar io vs Nx ok h1 h2 h3 h4 h5 h6 h7 h8 h9 h10 h11 => lc_turn hn ts1 h1 h2 h3 h4 h5 h6 h7 h8 h9 h10 h11) fun H hI => ?_
      obtain ⟨bar5, io5, us5, q0, q1, q2, q3, q4, q5, q6, q7⟩ := hI
      exact nx H ⟨bar5, io5, us5, q0, k1.trans q1, ⟨k2.env.monoW q1 w4.st.bal, q2.st⟩, q3, q4, q5, q6, q7⟩
theorem Aft.bindI {β γ : Type} {P : Hp → List Addr → List Addr → β → γ → Prop} {W : WX} {H : Hp} {bar io : List Addr} {Q : β → Hp → Prop} {S : Store} {mi : Env → Store → R Ws} {f : Ws → Store → R γ} {R' : It → Hp → Prop} (wd : Wd K H bar io σ ρ S) (h : Aft K mg P H bar io σ ρ W Q ((mi ρ S).bind f))
    (k : ∀ w S1 J H1 bar1 io1, mi ρ S = .ok w S1 → Ext H bar io H1 bar1 io1 → Wd K H1 bar1 io1 σ ρ S1 → WalkD K J w H1 bar1 io1 → Aft K mg P H1 bar1 io1 σ ρ W Q (f w S1) → R' J H1) : iD K mg mi W σ H R' := by
  refine ⟨bar, io, ρ, S, wd, ?_⟩
  cases e : mi ρ S with
  | ok w S1 =>
    rw [e] at h
    exact fun J H1 bar1 io1 x wd1 wk => k w S1 J H1 bar1 io1 e x wd1 wk (Aft.mono x h)
  | exc c S1 => rw [e] at h; exact h
  | stuck => rw [e] at h; exact h
end
section
variable {X : Cx} {W : WX} {elt tg iter tg1 iter1 : Expr} {ifs ifs1 : List Expr} {scope : Scope} {own : List (Str × Nat)} {pos : Pos} {t t1 : T} {mi mi1 : Env → Store → R Ws} {mc mc1 : Env → Store → R Bool} {me : Env → Store → R D}
theorem lc_read {mu : Bool} (ts : ∀ i ∈ t.slots, i ∈ own.map (·.2)) {σ : St} {H : Hp} {Q : VK} (h : tE X.K X.mg (fun ρ S => (mi ρ S).bind fun w S => (lcLoop w (turnE t (own.map (·.2)) mc me ρ) w.ds [] S).bind fun acc S => endL mu acc S) W σ H Q) :
    tLc (iD X.K X.mg mi W) (gD X.K t) (tQ X.K X.mg mc W0) (tE X.K X.mg me W0) (own.map (·.2)) σ H Q := by
  obtain ⟨bar, io, ρ, S, wd, h⟩ := h
  refine Aft.bindI wd h fun w S1 J H1 bar1 io1 e x wd1 wk h1 L hn => ?_
  obtain ⟨accF, SF, el, q⟩ : ∃ accF SF, lcLoop w (turnE t (own.map (·.2)) mc me ρ) w.ds [] S1 = .ok accF SF ∧ Aft X.K X.mg (PRep X.K) H1 bar1 io1 σ ρ W Q (endL mu accF SF) := by
    cases el : lcLoop w (turnE t (own.map (·.2)) mc me ρ) w.ds [] S1 with
    | ok accF SF => rw [el] at h1; exact ⟨accF, SF, rfl, h1⟩
    | exc c SF => exact absurd el (lcLoop_noX _ _ _ c SF)
    | stuck => rw [el] at h1; exact h1.elim
  exact comp_walk (Step := fun x H' Nx => gD X.K t x (wipe σ (own.map (·.2))) H' fun σ2 H2 => wipe σ2 (own.map (·.2)) = wipe σ (own.map (·.2)) ∧ tQ X.K X.mg mc W0 σ2 H2 fun b H3 =>
      if b = true then tE X.K X.mg me W0 σ2 H3 fun y H4 => ∃ acc, H4 L = some (.lst acc) ∧ acc.length < sizeLine ∧ Nx (upd H4 L (.lst (acc ++ [y]))) else Nx H3)
    hn wk (comp_start hn wd1) el (fun d acc S acc' S' x H bar io vs Nx ok h1 h2 h3 h4 h5 h6 h7 h8 h9 h10 h11 => lc_turn hn ts h1 h2 h3 h4 h5 h6 h7 h8 h9 h10 h11) fun H hI => comp_end hn wd1 hI q
theorem lc2_read {mu : Bool} {vs1 : List Nat} (ts : ∀ i ∈ t.slots, i ∈ own.map (·.2)) (ts1 : ∀ i ∈ t1.slots, i ∈ vs1) {σ : St} {H : Hp} {Q : VK} (h : tE X.K X.mg (fun ρ S => (mi ρ S).bind fun w S => (lcLoop w (turnI t (own.map (·.2)) mc mi1 (turnE t1 vs1 mc1 me) ρ) w.ds [] S).bind fun acc S => endL mu acc S) W σ H Q) :
    tLc2 (iD X.K X.mg mi W) (gD X.K t) (tQ X.K X.mg mc W0) (iD X.K X.mg mi1 W0) (gD X.K t1) (tQ X.K X.mg mc1 W0) (tE X.K X.mg me W0) (own.map (·.2)) vs1 σ H Q := by
  obtain ⟨bar, io, ρ, S, wd, h⟩ := h
  refine Aft.bindI wd h fun w S1 J H1 bar1 io1 e x wd1 wk h1 L hn => ?_
  obtain ⟨accF, SF, el, q⟩ : ∃ accF SF, lcLoop w (turnI t (own.map (·.2)) mc mi1 (turnE t1 vs1 mc1 me) ρ) w.ds [] S1 = .ok accF SF ∧ Aft X.K X.mg (PRep X.K) H1 bar1 io1 σ ρ W Q (endL mu accF SF) := by
    cases el : lcLoop w (turnI t (own.map (·.2)) mc mi1 (turnE t1 vs1 mc1 me) ρ) w.ds [] S1 with
    | ok accF SF => rw [el] at h1; exact ⟨accF, SF, rfl, h1⟩
    | exc c SF => exact absurd el (lcLoop_noX _ _ _ c SF)
    | stuck => rw [el] at h1; exact h1.elim
  exact comp_walk (Step := fun x H' Nx => gD X.K t x (wipe σ (own.map (·.2))) H' fun σ2 H2 => wipe σ2 (own.map (·.2)) = wipe σ (own.map (·.2)) ∧ tQ X.K X.mg mc W0 σ2 H2 fun b H3 =>
      if b = true then iD X.K X.mg mi1 W0 σ2 H3 fun J1 H4 => ∃ W1 : Nat → Nat → Hp → Prop, (∃ m, W1 0 m H4) ∧ ∀ j k H, W1 j k H →
        (J1.stop j H ∧ Nx H) ∨ (J1.go j H ∧ ∃ Nx1 : Hp → Prop, (∀ H', Nx1 H' → ∃ k', k' < k ∧ W1 (j + 1) k' H') ∧ ∀ x H', J1.yld j H x H' → gD X.K t1 x (wipe σ2 vs1) H' fun σ3 H5 => wipe σ3 vs1 = wipe σ2 vs1 ∧ tQ X.K X.mg mc1 W0 σ3 H5 fun b H6 =>
          if b = true then tE X.K X.mg me W0 σ3 H6 fun y H7 => ∃ acc, H7 L = some (.lst acc) ∧ acc.length < sizeLine ∧ Nx1 (upd H7 L (.lst (acc ++ [y]))) else Nx1 H6)
      else Nx H3)
    hn wk (comp_start hn wd1) el (fun d acc S acc' S' x H bar io vs Nx ok h1 h2 h3 h4 h5 h6 h7 h8 h9 h10 h11 => lc_turn2 hn ts ts1 h1 h2 h3 h4 h5 h6 h7 h8 h9 h10 h11) fun H hI => comp_end hn wd1 hI q
theorem x_lc {mu : Bool} {vs : List Nat} (hc : X.calm = true) (hN : X.N.Nodup) (hi : XI X W tg iter mi) (ok : BlkOk X.N X.env.scope scope own) (hv : own.map (·.2) = vs) (ts : ∀ i ∈ t.slots, i ∈ vs)
    (hg : ∀ (s : Shared) (H : Hp) (C : Addr) (cl : List (Str × Addr)) (fp : List Addr), PG (X.blk s H scope (compEnvC scope cl C X.env) fp) tg (gD X.K t))
    (ht : ∀ (s : Shared) (H : Hp) (C : Addr) (cl : List (Str × Addr)) (fp : List Addr), PTs (X.blk s H scope (compEnvC scope cl C X.env) fp) ifs (tQ X.K X.mg mc W0))
    (he : ∀ (s : Shared) (H : Hp) (C : Addr) (cl : List (Str × Addr)) (fp : List Addr), XE' (X.blk s H scope (compEnvC scope cl C X.env) fp) W0 elt me) (hs : ∀ x, foldedSetIterable iter X.env x = pure x) :
    XE' X W (.ListComp elt [⟨tg, iter, ifs, 0⟩] scope pos) (fun ρ S => (mi ρ S).bind fun w S => (lcLoop w (turnE t vs mc me ρ) w.ds [] S).bind fun acc S => endL mu acc S) := by
  subst hv
  exact (pe_lc (te := tE X.K X.mg me W0) hc hN hi ok hg ht he hs).imp fun σ H Q h => lc_read ts h
theorem x_lc2 {mu : Bool} {vs vs1 : List Nat} (hc : X.calm = true) (hN : X.N.Nodup) (hi : XI X W tg iter mi) (ok : BlkOk X.N X.env.scope scope own) (hv : own.map (·.2) = vs) (ts : ∀ i ∈ t.slots, i ∈ vs) (ts1 : ∀ i ∈ t1.slots, i ∈ vs1) (hv1 : ∀ i ∈ vs1, i ∈ vs)
    (hg : ∀ (s : Shared) (H : Hp) (C : Addr) (cl : List (Str × Addr)) (fp : List Addr), PG (X.blk s H scope (compEnvC scope cl C X.env) fp) tg (gD X.K t))
    (ht : ∀ (s : Shared) (H : Hp) (C : Addr) (cl : List (Str × Addr)) (fp : List Addr), PTs (X.blk s H scope (compEnvC scope cl C X.env) fp) ifs (tQ X.K X.mg mc W0))
    (hi1 : ∀ (s : Shared) (H : Hp) (C : Addr) (cl : List (Str × Addr)) (fp : List Addr), XI (X.blk s H scope (compEnvC scope cl C X.env) fp) W0 tg1 iter1 mi1)
    (hg1 : ∀ (s : Shared) (H : Hp) (C : Addr) (cl : List (Str × Addr)) (fp : List Addr), PG (X.blk s H scope (compEnvC scope cl C X.env) fp) tg1 (gD X.K t1))
    (ht1 : ∀ (s : Shared) (H : Hp) (C : Addr) (cl : List (Str × Addr)) (fp : List Addr), PTs (X.blk s H scope (compEnvC scope cl C X.env) fp) ifs1 (tQ X.K X.mg mc1 W0))
    (he : ∀ (s : Shared) (H : Hp) (C : Addr) (cl : List (Str × Addr)) (fp : List Addr), XE' (X.blk s H scope (compEnvC scope cl C X.env) fp) W0 elt me) (hs : ∀ x, foldedSetIterable iter X.env x = pure x) (hs1 : ∀ env x, foldedSetIterable iter1 env x = pure x) :
    XE' X W (.ListComp elt [⟨tg, iter, ifs, 0⟩, ⟨tg1, iter1, ifs1, 0⟩] scope pos) (fun ρ S => (mi ρ S).bind fun w S => (lcLoop w (turnI t vs mc mi1 (turnE t1 vs1 mc1 me) ρ) w.ds [] S).bind fun acc S => endL mu acc S) := by
  subst hv
  exact (pe_lc2 (te := tE X.K X.mg me W0) (wi1 := iD X.K X.mg mi1 W0) hc hN hi ok hv1 hg ht hi1 hg1 ht1 he hs hs1).imp fun σ H Q h => lc2_read ts ts1 h
/-- a clause's tests -/
theorem c_none {X : Cx} : PTs X [] (tQ X.K X.mg (evC .none) W0) := pts_nil.imp fun σ H Q ⟨bar, io, ρ, S, wd, h⟩ => Aft.now (b := true) h wd rfl
theorem c_some {X : Cx} {c : Expr} {m : Env → Store → R D} (h : XT X W0 c m) : PTs X [c] (tQ X.K X.mg (fun ρ S => (m ρ S).bind fun d S => optR (truthy S d) S) W0) := pts_one h
end
end PX

/-! PX14: statements. -/
namespace PX
open PySem L2
section
variable (K : PySem.W.Frag) (mg : Str → Option Value)
/-- what has to hold behind a statement -/
def AftS (H : Hp) (bar io : List Addr) (W : WX) (E : Ends) : RS → Prop
  | .fl .next ρ' S' => ∀ σ' H' bar' io', Ext H bar io H' bar' io' → Wd K H' bar' io' σ' ρ' S' → E.nx σ' H'
  | .fl .brk ρ' S' => ∀ σ' H' bar' io', Ext H bar io H' bar' io' → Wd K H' bar' io' σ' ρ' S' → E.bk σ' H'
  | .fl .cont ρ' S' => ∀ σ' H' bar' io', Ext H bar io H' bar' io' → Wd K H' bar' io' σ' ρ' S' → E.ct σ' H'
  | .fl (.ret d) _ S' => ∀ v H' bar' io', Ext H bar io H' bar' io' → StRep K H' bar' io' S' → Rep K H' bar' io' v d → E.rt v H'
  | .exc c ρ' S' => ∀ σ' H' bar' io' C, Ext H bar io H' bar' io' → Wd K H' bar' io' σ' ρ' S' → mg c = some (.ref C) → W (.ref C) none σ' H'
  | .stuck => False
def tS (m : Env → Store → RS) (W : WX) : TS := fun E σ H => ∃ bar io ρ S, Wd K H bar io σ ρ S ∧ AftS K mg H bar io W E (m ρ S)
end
section
variable {K : PySem.W.Frag} {mg : Str → Option Value} {H H1 : Hp} {bar io bar1 io1 : List Addr} {σ : St} {ρ : Env} {W : WX} {E : Ends}
theorem AftS.mono {r : RS} (x : Ext H bar io H1 bar1 io1) (h : AftS K mg H bar io W E r) : AftS K mg H1 bar1 io1 W E r := by
  cases r with
  | fl f ρ S =>
    cases f with
    | next => exact fun σ' H' bar' io' y w => h σ' H' bar' io' (x.trans y) w
    | brk => exact fun σ' H' bar' io' y w => h σ' H' bar' io' (x.trans y) w
    | cont => exact fun σ' H' bar' io' y w => h σ' H' bar' io' (x.trans y) w
    | ret d => exact fun v H' bar' io' y w r => h v H' bar' io' (x.trans y) w r
  | exc c ρ S => exact fun σ' H' bar' io' C y w e => h σ' H' bar' io' C (x.trans y) w e
  | stuck => exact h
/-- a value ahead of the rest -/
theorem AftS.then {α β : Type} {P : Hp → List Addr → List Addr → β → α → Prop} {r : R α} {f : α → Store → RS} (h : AftS K mg H bar io W E (r.then ρ f)) :
    Aft K mg P H bar io σ ρ W (fun b H1 => ∃ bar1 io1 S1 a, Ext H bar io H1 bar1 io1 ∧ Wd K H1 bar1 io1 σ ρ S1 ∧ P H1 bar1 io1 b a ∧ r = .ok a S1 ∧ AftS K mg H1 bar1 io1 W E (f a S1)) r := by
  cases r with
  | ok a S => exact fun b H' bar' io' x w p => ⟨bar', io', S, a, x, w, p, rfl, AftS.mono x h⟩
  | exc c S => exact fun H' bar' io' C x w e => h σ H' bar' io' C x w e
  | stuck => exact h
theorem AftS.nextNow {S : Store} (h : AftS K mg H bar io W E (.fl .next ρ S)) (w : Wd K H bar io σ ρ S) : E.nx σ H := h σ H bar io Ext.refl w
end
section
variable {X : Cx} {W : WX}
abbrev XS (X : Cx) (W : WX) (st : Stmt) (m : Env → Store → RS) : Prop := PS X st (tS X.K X.mg m W)
abbrev XB (X : Cx) (W : WX) (st : List Stmt) (m : Env → Store → RS) : Prop := PSs X st (tS X.K X.mg m W)
variable {a b c e tg : Expr} {ma mb mc me : Env → Store → R D} {mi : Env → Store → R Ws} {m1 m2 : Env → Store → RS} {st : Stmt} {rest xs ys : List Stmt} {pos : Pos} {t : T}
theorem s_nil : XB X W [] (fun ρ S => .fl .next ρ S) := pss_nil.imp fun E σ H ⟨bar, io, ρ, S, wd, h⟩ => h.nextNow wd
theorem s_cons (h1 : XS X W st m1) (h2 : XB X W rest m2) : XB X W (st :: rest) (fun ρ S => match m1 ρ S with
    | .fl .next ρ' S' => m2 ρ' S'
    | q => q) := by
  refine (pss_cons h1 h2).imp fun E σ H ⟨bar, io, ρ, S, wd, h⟩ => ⟨bar, io, ρ, S, wd, ?_⟩
  dsimp only at h
  cases e : m1 ρ S with
  | fl f ρ' S' =>
    rw [e] at h
    cases f with
    | next => exact fun σ' H' bar' io' x w => ⟨bar', io', ρ', S', w, AftS.mono x h⟩
    | brk => exact h
    | cont => exact h
    | ret d => exact h
  | exc c ρ' S' => rw [e] at h; exact h
  | stuck => rw [e] at h; exact h
/-- a target takes the value -/
theorem asg_read {E : Ends} {σ : St} {H : Hp} {bar io : List Addr} {ρ : Env} {S : Store} (wd : Wd X.K H bar io σ ρ S) (h : AftS X.K X.mg H bar io W E ((ma ρ S).then ρ fun d S => match asgT t d ρ with
      | some ρ1 => .fl .next ρ1 S
      | none => .stuck)) : tAsg (tE X.K X.mg ma W) (gD X.K t) E σ H := by
  refine ⟨bar, io, ρ, S, wd, (AftS.then (P := PRep X.K) h).imp fun x H1 ⟨bar1, io1, S1, d1, x1, wd1, r1, _, h1⟩ => ?_⟩
  split at h1
  · rename_i ρ1 e
    exact ⟨bar1, io1, ρ, S1, d1, ρ1, wd1, r1, e, fun σ' w _ => h1.nextNow w⟩
  · exact h1.elim
theorem s_asg (ha : XE' X W a ma) (hg : PG X tg (gD X.K t)) (hs : swapsWithSole [tg] a pos.line X.env = pure false) (hw : swappedStores [tg] a X.env = pure none) (h1 : (assignEach [tg] X.env).map (·.2) = [assign tg X.env]) :
    XS X W (.Assign [tg] a pos) (fun ρ S => (ma ρ S).then ρ fun d S => match asgT t d ρ with
      | some ρ1 => .fl .next ρ1 S
      | none => .stuck) :=
  (ps_asg ha hg hs hw h1).imp fun E σ H ⟨bar, io, ρ, S, wd, h⟩ => asg_read wd h
theorem s_par2 {i j : Nat} {x y : Str} {px py pt : Pos} {kt k2 : Nat} {pt2 : Pos} (hc : X.calm = true) (hN : X.N.Nodup) (hi : X.N[i]? = some x) (hj : X.N[j]? = some y) (hij : i ≠ j)
    (hx : X.env.scope.names.lookup x = some .local) (hy : X.env.scope.names.lookup y = some .local) (ha : XE' X W a ma) (hb : XE' X W b mb) (hs1 : starEach [a, b] X.env = (false, eval a X.env) :: starEach [b] X.env) (hs2 : starEach [b] X.env = [(false, eval b X.env)])
    (hw : swappedStores [.Tuple [.Name x px, .Name y py] kt pt] (.Tuple [a, b] k2 pt2) X.env = pure (some [x, y])) :
    XS X W (.Assign [.Tuple [.Name x px, .Name y py] kt pt] (.Tuple [a, b] k2 pt2) pos) (fun ρ S => (ma ρ S).then ρ fun x S => (mb ρ S).then ρ fun y S => .fl .next ((ρ.set i (some x)).set j (some y)) S) := by
  have hA : PA X [a, b] (tCons (tE X.K X.mg ma W) (tCons (tE X.K X.mg mb W) tNil)) := pa_cons ha (pa_cons hb pa_nil (by rw [hs2]; rfl)) hs1
  refine (ps_par hc hN hi hj hij hx hy hA hw).imp fun E σ H ⟨bar, io, ρ, S, wd, h⟩ => ?_
  refine ⟨bar, io, ρ, S, wd, (AftS.then (P := PRep X.K) h).imp fun x H1 ⟨bar1, io1, S1, d1, x1, wd1, r1, _, h1⟩ => ?_⟩
  refine ⟨bar1, io1, ρ, S1, wd1, (AftS.then (P := PRep X.K) h1).imp fun y H2 ⟨bar2, io2, S2, d2, x2, wd2, r2, _, h2⟩ => ?_⟩
  exact ⟨x, y, rfl, h2.nextNow ⟨(wd2.env.set (r1.mono x2 wd1.st.live) i).set r2 j, wd2.st⟩⟩
theorem s_par3 {i j k : Nat} {x y z : Str} {px py pz pt : Pos} {kt k2 : Nat} {pt2 : Pos} (hc : X.calm = true) (hN : X.N.Nodup) (hi : X.N[i]? = some x) (hj : X.N[j]? = some y) (hk : X.N[k]? = some z) (hij : i ≠ j) (hik : i ≠ k) (hjk : j ≠ k)
    (hx : X.env.scope.names.lookup x = some .local) (hy : X.env.scope.names.lookup y = some .local) (hz : X.env.scope.names.lookup z = some .local) (ha : XE' X W a ma) (hb : XE' X W b mb) (hcc : XE' X W c mc)
    (hs1 : starEach [a, b, c] X.env = (false, eval a X.env) :: starEach [b, c] X.env) (hs2 : starEach [b, c] X.env = (false, eval b X.env) :: starEach [c] X.env) (hs3 : starEach [c] X.env = [(false, eval c X.env)])
    (hw : swappedStores [.Tuple [.Name x px, .Name y py, .Name z pz] kt pt] (.Tuple [a, b, c] k2 pt2) X.env = pure (some [x, y, z])) :
    XS X W (.Assign [.Tuple [.Name x px, .Name y py, .Name z pz] kt pt] (.Tuple [a, b, c] k2 pt2) pos) (fun ρ S => (ma ρ S).then ρ fun x S => (mb ρ S).then ρ fun y S => (mc ρ S).then ρ fun z S => .fl .next (((ρ.set i (some x)).set j (some y)).set k (some z)) S) := by
  have hA : PA X [a, b, c] (tCons (tE X.K X.mg ma W) (tCons (tE X.K X.mg mb W) (tCons (tE X.K X.mg mc W) tNil))) := pa_cons ha (pa_cons hb (pa_cons hcc pa_nil (by rw [hs3]; rfl)) hs2) hs1
  refine (ps_par3 hc hN hi hj hk hij hik hjk hx hy hz hA hw).imp fun E σ H ⟨bar, io, ρ, S, wd, h⟩ => ?_
  refine ⟨bar, io, ρ, S, wd, (AftS.then (P := PRep X.K) h).imp fun x H1 ⟨bar1, io1, S1, d1, x1, wd1, r1, _, h1⟩ => ?_⟩
  refine ⟨bar1, io1, ρ, S1, wd1, (AftS.then (P := PRep X.K) h1).imp fun y H2 ⟨bar2, io2, S2, d2, x2, wd2, r2, _, h2⟩ => ?_⟩
  refine ⟨bar2, io2, ρ, S2, wd2, (AftS.then (P := PRep X.K) h2).imp fun z H3 ⟨bar3, io3, S3, d3, x3, wd3, r3, _, h3⟩ => ?_⟩
  exact ⟨x, y, z, rfl, h3.nextNow ⟨((wd3.env.set ((r1.mono x2 wd1.st.live).mono x3 wd2.st.live) i).set (r2.mono x3 wd2.st.live) j).set r3 k, wd3.st⟩⟩
theorem s_aug {i : Nat} {x : Str} {px : Pos} (o : BO) (ho : o = .add ∨ o = .sub) (hN : X.N.Nodup) (h : Sto X i x) (ha : XE' X W a ma) : XS X W (.AugAssign (.Name x px) (opOf o) a pos) (fun ρ S => match ρ[i]? with
    | some (some x) => (ma ρ S).then ρ fun y S => (match x, y with
      | .int _, .int _ => binV o S x y
      | _, _ => .stuck).then ρ fun z S => .fl .next (ρ.set i (some z)) S
    | _ => .stuck) := by
  have key : ∀ {f : Int → Int → Int}, PIp X (opOf o) (ipI f) → (∀ S i j, binV o S (.int i) (.int j) = .ok (.int (f i j)) S) → XS X W (.AugAssign (.Name x px) (opOf o) a pos) (fun ρ S => match ρ[i]? with
    | some (some x) => (ma ρ S).then ρ fun y S => (match x, y with
      | .int _, .int _ => binV o S x y
      | _, _ => .stuck).then ρ fun z S => .fl .next (ρ.set i (some z)) S
    | _ => .stuck) := fun {f} hp hf => by
    refine (ps_aug hN h.1 h.2.1 ha hp h.2.2).imp fun E σ H ⟨bar, io, ρ, S, wd, h⟩ => ?_
    dsimp only at h
    split at h
    · rename_i d hd
      obtain ⟨v, e, r⟩ := wd.env.2 i d hd
      refine ⟨v, e, bar, io, ρ, S, wd, (AftS.then (P := PRep X.K) h).imp fun y H1 ⟨bar1, io1, S1, d1, x1, wd1, r1, _, h1⟩ => ?_⟩
      cases r with
      | int p =>
        cases r1 with
        | int q =>
          have h1 : AftS X.K X.mg H1 bar1 io1 W E ((binV o S1 (.int p) (.int q)).then ρ fun z S => .fl .next (ρ.set i (some z)) S) := h1
          rw [hf] at h1
          exact ⟨p, q, rfl, rfl, AftS.nextNow (σ := σ.set i (some (.int (f p q)))) h1 ⟨wd1.env.set (.int _) i, wd1.st⟩⟩
        | _ => exact h1.elim
      | _ => exact h1.elim
    · exact h.elim
  rcases ho with rfl | rfl
  · exact key ip_add fun _ _ _ => rfl
  · exact key ip_sub fun _ _ _ => rfl
theorem s_set {p2 : Pos} (hu : X.A.units + 1 < cLine) (ho : XE' X W a ma) (hi : XE' X W b mb) (he : XE' X W e me) (hs : swapsWithSole [.Subscript a b p2] e pos.line X.env = pure false)
    (hsub : ∀ v, assign (.Subscript a b p2) X.env v = (do
      let ov ← holding [v] (eval a X.env)
      let iv ← holding [v, ov] (eval b X.env)
      standAt p2
      holding [v, ov, iv] (setItem ov iv v)
      release [v, ov, iv] [])) :
    XS X W (.Assign [.Subscript a b p2] e pos) (fun ρ S => (me ρ S).then ρ fun v S => (ma ρ S).then ρ fun x S => (mb ρ S).then ρ fun y S => (setV S x y v).then ρ fun _ S => .fl .next ρ S) := by
  refine (ps_asg he (pg_sub ho hi (set_any hu) hsub) hs rfl rfl).imp fun E σ H ⟨bar, io, ρ, S, wd, h⟩ => ?_
  refine ⟨bar, io, ρ, S, wd, (AftS.then (P := PRep X.K) h).imp fun v H1 ⟨bar1, io1, S1, d1, x1, wd1, r1, _, h1⟩ => ?_⟩
  refine ⟨bar1, io1, ρ, S1, wd1, (AftS.then (P := PRep X.K) h1).imp fun x H2 ⟨bar2, io2, S2, d2, x2, wd2, r2, _, h2⟩ => ?_⟩
  refine ⟨bar2, io2, ρ, S2, wd2, (AftS.then (P := PRep X.K) h2).imp fun y H3 ⟨bar3, io3, S3, d3, x3, wd3, r3, _, h3⟩ => ?_⟩
  have h4 := AftS.then (σ := σ) (P := PEq) h3
  obtain ⟨u, S', e, q⟩ := h4.op (setV_noX _ _ _ _)
  refine ⟨bar3, io3, S3, d2, d3, d1, S', wd3.st, r2.mono x3 wd2.st.live, r3, (r1.mono x2 wd1.st.live).mono x3 wd2.st.live, e, fun H' bar' io' x st => ?_⟩
  obtain ⟨bar4, io4, S4, u4, x4, wd4, _, e4, h5⟩ := q u H' bar' io' x (wd3.mono' x st) rfl
  exact h5.nextNow wd4
theorem s_expr (ha : XE' X W a ma) (hs : swapsWith a none pos.line X.env = pure false) : XS X W (.Expr a pos) (fun ρ S => (ma ρ S).then ρ fun _ S => .fl .next ρ S) :=
  (ps_expr ha hs).imp fun E σ H ⟨bar, io, ρ, S, wd, h⟩ => ⟨bar, io, ρ, S, wd, (AftS.then (P := PRep X.K) h).imp fun x H1 ⟨bar1, io1, S1, d1, x1, wd1, r1, _, h1⟩ => h1.nextNow wd1⟩
theorem s_ret (ha : XE' X W a ma) : XS X W (.Return (some a) pos) (fun ρ S => (ma ρ S).then ρ fun d S => .fl (.ret d) ρ S) :=
  (ps_ret ha).imp fun E σ H ⟨bar, io, ρ, S, wd, h⟩ => ⟨bar, io, ρ, S, wd, (AftS.then (P := PRep X.K) h).imp fun x H1 ⟨bar1, io1, S1, d1, x1, wd1, r1, _, h1⟩ => h1 x H1 bar1 io1 Ext.refl wd1.st r1⟩
theorem s_retN : XS X W (.Return none pos) (fun ρ S => .fl (.ret .non) ρ S) :=
  ps_retN.imp fun E σ H ⟨bar, io, ρ, S, wd, h⟩ => h .non H bar io Ext.refl wd.st .non
theorem s_pass : XS X W (.Pass pos) (fun ρ S => .fl .next ρ S) := ps_pass.imp fun E σ H ⟨bar, io, ρ, S, wd, h⟩ => h.nextNow wd
theorem s_brk : XS X W (.Break pos) (fun ρ S => .fl .brk ρ S) := ps_break.imp fun E σ H ⟨bar, io, ρ, S, wd, h⟩ => h σ H bar io Ext.refl wd
theorem s_cont : XS X W (.Continue pos) (fun ρ S => .fl .cont ρ S) := ps_continue.imp fun E σ H ⟨bar, io, ρ, S, wd, h⟩ => h σ H bar io Ext.refl wd
/-- a test, then one of two -/
theorem if_read {E : Ends} {σ : St} {H : Hp} {bar io : List Addr} {ρ : Env} {S : Store} {f g : Store → RS} {P : Bool → Hp → Prop} (wd : Wd X.K H bar io σ ρ S) (h : AftS X.K X.mg H bar io W E ((mc ρ S).then ρ fun d S => match truthy S d with
      | some true => f S
      | some false => g S
      | none => .stuck)) (k : ∀ b H1 bar1 io1 S1, Ext H bar io H1 bar1 io1 → Wd X.K H1 bar1 io1 σ ρ S1 → AftS X.K X.mg H1 bar1 io1 W E (if b = true then f S1 else g S1) → P b H1) :
    tQ X.K X.mg (tst mc) W σ H P := by
  refine ⟨bar, io, ρ, S, wd, ?_⟩
  unfold tst
  cases e : mc ρ S with
  | stuck => rw [e] at h; exact h.elim
  | exc c S' => rw [e] at h; exact fun H' bar' io' C x w ec => h σ H' bar' io' C x w ec
  | ok d S' =>
    rw [e] at h
    simp only [R.then_ok] at h
    simp only [R.bind_ok]
    cases e2 : truthy S' d with
    | none => rw [e2] at h; exact h.elim
    | some b =>
      rw [e2] at h
      intro b' H' bar' io' x w p
      subst p
      refine k b' H' bar' io' S' x w ?_
      cases b' with
      | true => exact AftS.mono x h
      | false => exact AftS.mono x h
theorem s_if (hc : XT X W c mc) (ha : XB X W xs m1) (hb : XB X W ys m2) : XS X W (.If c xs ys pos) (fun ρ S => (mc ρ S).then ρ fun d S => match truthy S d with
      | some true => m1 ρ S
      | some false => m2 ρ S
      | none => .stuck) := by
  refine (ps_if hc ha hb).imp fun E σ H ⟨bar, io, ρ, S, wd, h⟩ => ?_
  refine if_read (f := fun S => m1 ρ S) (g := fun S => m2 ρ S) wd h fun b H1 bar1 io1 S1 x w q => ?_
  cases b with
  | true => exact ⟨bar1, io1, ρ, S1, w, q⟩
  | false => exact ⟨bar1, io1, ρ, S1, w, q⟩
theorem s_while (hp : PassesOwn (model X.prog X.w) X.A X.env X.xe) (hc : XT X W c mc) (hb : XB X W xs m1) (n : Nat) : XS X W (.While c xs [] pos) (fun ρ S => whileLoop mc m1 n ρ S) := by
  refine (ps_while hp hc hb).imp fun E σ H ⟨bar, io, ρ, S, wd, h⟩ => ?_
  refine ⟨fun m σ H => ∃ bar io ρ S, Wd X.K H bar io σ ρ S ∧ AftS X.K X.mg H bar io W E (whileLoop mc m1 m ρ S), ⟨n, bar, io, ρ, S, wd, h⟩, ?_⟩
  rintro m σ H ⟨bar, io, ρ, S, wd, h⟩
  cases m with
  | zero => exact h.elim
  | succ m =>
    refine if_read (W := W) (E := E) (f := fun S => match m1 ρ S with
      | .fl .next ρ2 S2 => whileLoop mc m1 m ρ2 S2
      | .fl .cont ρ2 S2 => whileLoop mc m1 m ρ2 S2
      | .fl .brk ρ2 S2 => .fl .next ρ2 S2
      | r => r) (g := fun S => .fl .next ρ S) wd (by unfold whileLoop at h; exact h) fun b H1 bar1 io1 S1 x w q => ?_
    cases b with
    | false => exact q σ H1 bar1 io1 Ext.refl w
    | true =>
      refine ⟨fun σ H => ∃ bar io ρ S, Wd X.K H bar io σ ρ S ∧ AftS X.K X.mg H bar io W E (whileLoop mc m1 m ρ S), fun σ' H' hN => ⟨m, Nat.lt_succ_self m, hN⟩, bar1, io1, ρ, S1, w, ?_⟩
      simp only [if_true] at q
      cases e : m1 ρ S1 with
      | fl f ρ2 S2 =>
        rw [e] at q
        cases f with
        | next => exact fun σ' H' bar' io' x w => ⟨bar', io', ρ2, S2, w, AftS.mono x q⟩
        | cont => exact fun σ' H' bar' io' x w => ⟨bar', io', ρ2, S2, w, AftS.mono x q⟩
        | brk => exact q
        | ret d => exact q
      | exc c ρ2 S2 => rw [e] at q; exact q
      | stuck => rw [e] at q; exact q
theorem AftS.iter {K : PySem.W.Frag} {mg : Str → Option Value} {H : Hp} {bar io : List Addr} {σ : St} {ρ : Env} {E : Ends} {S : Store} {f : Ws → Store → RS} {R' : It → Hp → Prop} (wd : Wd K H bar io σ ρ S) (h : AftS K mg H bar io W E ((mi ρ S).then ρ f))
    (k : ∀ w S1 J H1 bar1 io1, Ext H bar io H1 bar1 io1 → Wd K H1 bar1 io1 σ ρ S1 → WalkD K J w H1 bar1 io1 → AftS K mg H1 bar1 io1 W E (f w S1) → R' J H1) : iD K mg mi W σ H R' := by
  refine ⟨bar, io, ρ, S, wd, ?_⟩
  cases e : mi ρ S with
  | ok w S1 =>
    rw [e] at h
    exact fun J H1 bar1 io1 x wd1 wk => k w S1 J H1 bar1 io1 x wd1 wk (AftS.mono x h)
  | exc c S1 => rw [e] at h; exact fun H' bar' io' C x w ec => h σ H' bar' io' C x w ec
  | stuck => rw [e] at h; exact h
theorem s_for (hp : PassesOwn (model X.prog X.w) X.A X.env X.xe) (hc : X.calm = true) (hi : XI X W tg e mi) (hg : PG X tg (gD X.K t)) (hb : XB X W xs m1) (hs : ∀ x, foldedSetIterable e X.env x = pure x) :
    XS X W (.For tg e xs [] pos) (fun ρ S => (mi ρ S).then ρ fun w S => forLoop w t m1 w.ds ρ S) := by
  refine (ps_for hp hc hi hg hb hs).imp fun E σ H ⟨bar, io, ρ, S, wd, h⟩ => ?_
  refine AftS.iter wd h fun w S1 J H1 bar1 io1 x1 wd1 wk h1 => ?_
  refine ⟨fun i m σ H => m = w.ds.length - i ∧ i ≤ w.ds.length ∧ ∃ bar io ρ S, ExtW H1 bar1 io1 H bar io ∧ Wd X.K H bar io σ ρ S ∧ AftS X.K X.mg H bar io W E (forLoop w t m1 (w.ds.drop i) ρ S),
    ⟨w.ds.length, by simp, Nat.zero_le _, bar1, io1, ρ, S1, ExtW.refl, wd1, by simpa using h1⟩, ?_⟩
  rintro i m σ H ⟨rfl, hi, bar, io, ρ, S, x, wd, h⟩
  by_cases hlt : i < w.ds.length
  · have ed : w.ds.drop i = w.ds[i] :: w.ds.drop (i + 1) := by rw [List.drop_eq_getElem_cons hlt]
    rw [ed] at h
    unfold forLoop at h
    cases ok : w.ok S with
    | false => rw [ok] at h; exact h.elim
    | true =>
      simp only [ok] at h
      refine .inr ⟨wk.go i H bar io S hlt x wd.st ok, fun σ H => ∃ bar io ρ S, ExtW H1 bar1 io1 H bar io ∧ Wd X.K H bar io σ ρ S ∧ AftS X.K X.mg H bar io W E (forLoop w t m1 (w.ds.drop (i + 1)) ρ S),
        fun σ' H' hN => ⟨w.ds.length - (i + 1), by omega, rfl, hlt, hN⟩, fun v H' y => ?_⟩
      obtain ⟨d, ei, y1, y2, y3⟩ := wk.yld i H bar io S v H' hlt x wd.st ok y
      have : d = w.ds[i] := by rw [List.getElem?_eq_getElem hlt] at ei; cases ei; rfl
      subst this
      cases ea : asgT t w.ds[i] ρ with
      | none => rw [ea] at h; exact h.elim
      | some ρ1 =>
        rw [ea] at h
        have h := AftS.mono y1 h
        refine ⟨bar, io, ρ, S, w.ds[i], ρ1, wd.mono' y1 y2, y3, ea, fun σ' w' _ => ⟨bar, io, ρ1, S, w', ?_⟩⟩
        have xw : ExtW H1 bar1 io1 H' bar io := x.trans (y1.weak wd.st.sub)
        dsimp only at h
        cases e2 : m1 ρ1 S with
        | fl f ρ2 S2 =>
          rw [e2] at h
          cases f with
          | next => exact fun σ' H2 bar2 io2 x2 w2 => ⟨bar2, io2, ρ2, S2, xw.trans (x2.weak w'.st.sub), w2, AftS.mono x2 h⟩
          | cont => exact fun σ' H2 bar2 io2 x2 w2 => ⟨bar2, io2, ρ2, S2, xw.trans (x2.weak w'.st.sub), w2, AftS.mono x2 h⟩
          | brk => exact h
          | ret d => exact h
        | exc c ρ2 S2 => rw [e2] at h; exact h
        | stuck => rw [e2] at h; exact h
  · have e : i = w.ds.length := by omega
    subst e
    rw [List.drop_length] at h
    unfold forLoop at h
    cases ok : w.ok S with
    | false => rw [ok] at h; exact h.elim
    | true =>
      simp only [ok] at h
      exact .inl ⟨wk.stop H bar io S x wd.st ok, h.nextNow wd⟩
end
end PX

/-! PX15: raise, try. -/
namespace PX
open PySem L2
/-- an own exception class without a body -/
def ClsGood (K : PySem.W.Frag) (mg : Str → Option Value) (c : Str) : Prop := ∃ (C : Addr) (bmB : List Value) (B newId initId : String), ExcBaseFacts B newId initId bmB ∧ PySem.W.excIn K C bmB newId = true ∧ mg c = some (.ref C) ∧ PySem.W.keepIn K (.ref C) = true ∧
  PySem.W.subIn K (.ref C) (.type "BaseException") = some true ∧ PySem.W.typeIn K (.ref C) = some (.type "type")
/-- a clause at an exception -/
def ExmGood (K : PySem.W.Frag) (mg : Str → Option Value) (c x : Str) (b : Bool) : Prop := ∃ (C T : Addr), mg c = some (.ref C) ∧ mg x = some (.ref T) ∧ PySem.W.exmOne K (.ref C) (.ref T) = some b
section
variable {X : Cx} {W : WX}
theorem s_raise {x m : Str} {j : Nat} {p p2 p3 pos : Pos} (hc : X.calm = true) (tk : Takes X W) (h : ClsGood X.K X.mg x) (hg : Gl X x) (hdb : (x == ("__debug__" : Str)) = false) :
    XS X W (.Raise (some (.Call (.Name x p) [.Constant (.str m) j p2] [] p3)) none pos) (fun ρ S => .exc x ρ S) := by
  obtain ⟨C, bmB, B, newId, initId, F, q, gC, kC, sC, tC⟩ := h
  refine (ps_raise hc tk (pmk_own F q gC kC (raises_own sC tC) hg hdb)).imp fun E σ H ⟨bar, io, ρ, S, wd, h⟩ => ?_
  exact h σ H bar io C Ext.refl wd gC
/-- what a clause does -/
def hEnd (i : Nat) (m : Str) : Addr → Value → Option Addr → TS := fun _ _ _ E σ H => E.nx (σ.set i (some (.str m))) H
def hList (mg : Str → Option Value) (hs : List (Str × List Str × Nat × Str)) : List (Value × (Addr → Value → Option Addr → TS)) := hs.map fun q => ((mg q.1).getD .none, hEnd q.2.2.1 q.2.2.2)
def HdsGood (K : PySem.W.Frag) (mg : Str → Option Value) (cs : List Str) (hs : List (Str × List Str × Nat × Str)) : Prop := ∀ q ∈ hs, ∀ c ∈ cs, ExmGood K mg c q.1 (decide (c ∈ q.2.1))
theorem handle_read {E : Ends} {cs : List Str} {c : Str} {ρ : Env} {S : Store} {C : Addr} (hcs : c ∈ cs) (hC : X.mg c = some (.ref C)) : ∀ {hs : List (Str × List Str × Nat × Str)}, HdsGood X.K X.mg cs hs → (∀ q ∈ hs, q.2.2.2.length ≤ sizeLine ∧ PyData.strOk q.2.2.2 = true) →
    ∀ {H : Hp} {bar io : List Addr}, AftS X.K X.mg H bar io W E (handle hs c ρ S) → ∀ σ' H' bar' io', Ext H bar io H' bar' io' → Wd X.K H' bar' io' σ' ρ S → wMany X.K W E (hList X.mg hs) (.ref C) none σ' H'
  | [], _, _, H, bar, io, h, σ', H', bar', io', x, w => h σ' H' bar' io' C x w hC
  | (x, l, i, m) :: r, g, z, H, bar, io, h, σ', H', bar', io', y, w => by
    obtain ⟨C', T, e1, e2, e3⟩ := g (x, l, i, m) List.mem_cons_self c hcs
    rw [hC] at e1; cases e1
    have e2 : X.mg x = some (.ref T) := e2
    refine ⟨decide (c ∈ l), ?_, fun hb a _ => ?_, fun hb => ?_⟩
    · show PySem.W.exmOne X.K (.ref C) ((X.mg x).getD .none) = _
      rw [e2]; exact e3
    · have h : AftS X.K X.mg H bar io W E (match decide (c ∈ l) with
        | true => .fl .next (ρ.set i (some (.str m))) S
        | false => handle r c ρ S) := h
      rw [hb] at h
      obtain ⟨z1, z2⟩ := z (x, l, i, m) List.mem_cons_self
      exact h _ H' bar' io' y ⟨w.env.set (.str m z1 z2) i, w.st⟩
    · have h : AftS X.K X.mg H bar io W E (match decide (c ∈ l) with
        | true => .fl .next (ρ.set i (some (.str m))) S
        | false => handle r c ρ S) := h
      rw [hb] at h
      exact handle_read hcs hC (fun q hq => g q (List.mem_cons_of_mem _ hq)) (fun q hq => z q (List.mem_cons_of_mem _ hq)) h σ' H' bar' io' y w
/-- a clause's written form: x, the slot's name, the text -/
inductive Hd (X : Cx) : List ExceptHandler → List (Str × List Str × Nat × Str) → Prop
  | nil : Hd X [] []
  | cons {x y m : Str} {l : List Str} {i j : Nat} {np py pc ps pos : Pos} {hds : List ExceptHandler} {hs : List (Str × List Str × Nat × Str)} (hg : Gl X x) (hdb : (x == ("__debug__" : Str)) = false) (h : Sto X i y) (r : Hd X hds hs) :
      Hd X (.ExceptHandler (some (.Name x np)) none [.Assign [.Name y py] (.Constant (.str m) j pc) ps] pos :: hds) ((x, l, i, m) :: hs)
theorem hds_ok {cs : List Str} (hN : X.N.Nodup) (hcs : ∃ c, c ∈ cs) {hds : List ExceptHandler} {hs : List (Str × List Str × Nat × Str)} (h : Hd X hds hs) (g : HdsGood X.K X.mg cs hs) : HdsOk X hds (hList X.mg hs) := by
  obtain ⟨c, hc⟩ := hcs
  induction h with
  | nil => exact .nil
  | @cons x y m l i j np py pc ps pos hds hs hg hdb h r ih =>
    obtain ⟨C', T, e1, e2, e3⟩ := g (x, l, i, m) List.mem_cons_self c hc
    have e2 : X.mg x = some (.ref T) := e2
    refine .cons ⟨hg, hdb, .inl ?_⟩ (fun a oe cls d pn _ _ => ?_) (ih fun q hq => g q (List.mem_cons_of_mem _ hq))
    · show X.mg x = some ((X.mg x).getD .none)
      rw [e2]; rfl
    · exact pss_one ((ps_set (X := X.suite a ((a, oe) :: pn)) (i := i) hN h.1 h.2.1 pe_str rfl h.2.2).imp fun E σ H q => q)
theorem s_try {body : List Stmt} {h₀ : ExceptHandler} {hds : List ExceptHandler} {pos : Pos} {mb : Env → Store → RS} {cs : List Str} {hs : List (Str × List Str × Nat × Str)} (hN : X.N.Nodup) (hst : X.stack = X.env :: X.outer) (hf : X.env.frame = some X.env.locals) (tk : Takes X W)
    (hb : ∀ (W : WX) (pn : List (Addr × Obj)) (xe : Value → Shared → Prop), Takes (X.tr pn xe) W → PassesOwn (model X.prog X.w) X.A X.env xe → XB (X.tr pn xe) W body mb) (hcs : ∃ c, c ∈ cs) (hh : Hd X (h₀ :: hds) hs) (g : HdsGood X.K X.mg cs hs) (z : ∀ q ∈ hs, q.2.2.2.length ≤ sizeLine ∧ PyData.strOk q.2.2.2 = true) :
    XS X W (.Try body (h₀ :: hds) [] [] pos) (fun ρ S => match mb ρ S with
    | .exc c ρ' S' => match decide (c ∈ cs) with
      | true => handle hs c ρ' S'
      | false => .stuck
    | r => r) := by
  refine (ps_try_many (tb := fun W => tS X.K X.mg mb W) hst hf tk hb (hds_ok hN hcs hh g)).imp fun E σ H ⟨bar, io, ρ, S, wd, h⟩ => ⟨bar, io, ρ, S, wd, ?_⟩
  dsimp only at h
  cases e : mb ρ S with
  | fl f ρ' S' => rw [e] at h; cases f <;> exact h
  | stuck => rw [e] at h; exact h
  | exc c ρ' S' =>
    rw [e] at h
    dsimp only at h
    cases hc : decide (c ∈ cs) with
    | false => rw [hc] at h; exact h.elim
    | true =>
      rw [hc] at h
      exact fun σ' H' bar' io' C x w eC => handle_read (of_decide_eq_true hc) eC g z h σ' H' bar' io' x w
end
end PX

/-! PX16: the check that a written form is the given text. -/
namespace PX
open PySem L2
/-! ### small facts of the texts -/
def noStar : Expr → Bool
  | .Starred .. => false
  | _ => true
def plainL (es : List Expr) : Bool := es.all noStar
theorem star_cons {e : Expr} {es : List Expr} {env : PySem.Env} (h : noStar e = true) : starEach (e :: es) env = (false, eval e env) :: starEach es env := by
  cases e <;> first | rfl | cases h
theorem star_all : ∀ {es : List Expr} {env : PySem.Env}, plainL es = true → starEach es env = es.map fun e => (false, eval e env)
  | [], _, _ => rfl
  | e :: es, env, h => by
    have h : (noStar e && plainL es) = true := h
    rw [Bool.and_eq_true] at h
    rw [star_cons h.1, star_all h.2]
    rfl
theorem back_plain {es : List Expr} {env : PySem.Env} {pos : Pos} (h : plainL es = true) : (backTo pos (starEach es env)).any (·.1) = false := by
  rw [star_all h]
  unfold backTo
  rw [List.map_map]
  induction es with
  | nil => rfl
  | cons e es ih =>
    have h : (noStar e && plainL es) = true := h
    rw [Bool.and_eq_true] at h
    rw [List.map_cons, List.any_cons, ih h.2]
    rfl
theorem back_all {es : List Expr} {env : PySem.Env} {pos : Pos} (h : plainL es = true) : (backTo pos (starEach es env)).all (fun x => !x.1) = true := by
  rw [star_all h]
  unfold backTo
  rw [List.map_map]
  induction es with
  | nil => rfl
  | cons e es ih =>
    have h : (noStar e && plainL es) = true := h
    rw [Bool.and_eq_true] at h
    rw [List.map_cons, List.all_cons, ih h.2]
    rfl
theorem kw_all : ∀ (kws : List Keyword) (env : PySem.Env), keywordEach kws env = kws.map fun k => (k.arg, eval k.value env)
  | [], _ => rfl
  | ⟨a, v, p⟩ :: r, env => by
    show (a, eval v env) :: keywordEach r env = _
    rw [kw_all r env]
    rfl
theorem kw_facts {kws : List Keyword} {ks : List Str} {env : PySem.Env} {pos : Pos} (h : kws.map (·.arg) = ks.map some) :
    (backToKw pos (keywordEach kws env)).all (·.1.isSome) = true ∧ (backToKw pos (keywordEach kws env)).filterMap (·.1) = ks ∧ (backToKw pos (keywordEach kws env)).any (·.1.isNone) = false := by
  rw [kw_all]
  unfold backToKw
  rw [List.map_map]
  induction kws generalizing ks with
  | nil =>
    cases ks with
    | nil => exact ⟨rfl, rfl, rfl⟩
    | cons => cases h
  | cons k kws ih =>
    cases ks with
    | nil => cases h
    | cons c ks =>
      rw [List.map_cons, List.map_cons] at h
      have e1 : k.arg = some c := (List.cons.inj h).1
      obtain ⟨h1, h2, h3⟩ := ih (List.cons.inj h).2
      refine ⟨?_, ?_, ?_⟩
      · rw [List.map_cons, List.all_cons, h1]
        show (k.arg.isSome && true) = true
        rw [e1]; rfl
      · have h2 : kws.filterMap (fun x => x.arg) = ks := by
          have := h2
          rw [List.filterMap_map] at this
          exact this
        rw [List.filterMap_map]
        show (k :: kws).filterMap (fun x => x.arg) = _
        rw [List.filterMap_cons, e1, h2]
      · rw [List.map_cons, List.any_cons, h3]
        show (k.arg.isNone || false) = false
        rw [e1]; rfl
/-- no comprehension, no set, no starred one -/
def noComp : Expr → Bool
  | .ListComp .. => false
  | .SetComp .. => false
  | .DictComp .. => false
  | _ => true
theorem noComp_sw {e : Expr} {t : Option Expr} {l : Nat} {env : PySem.Env} (h : noComp e = true) : swapsWith e t l env = pure false := by
  cases e <;> first | rfl | cases h
def notSet : Expr → Bool
  | .Set .. => false
  | _ => true
theorem notSet_marks {e : Expr} {o : CmpOp} (h : notSet e = true) : behindInMarks o e = false := by
  cases e <;> first | rfl | cases h
theorem notSet_fold {e : Expr} {env : PySem.Env} (h : notSet e = true) (x : Value) : foldedSetIterable e env x = pure x := by
  cases e <;> first | rfl | cases h
def notSlice : Expr → Bool
  | .Slice .. => false
  | _ => true
theorem notSlice_ix {e : Expr} (h : notSlice e = true) : PlainIx e := by
  intro o i
  cases e <;> first | rfl | cases h
theorem notSlice_asg {a b : Expr} {p : Pos} {env : PySem.Env} (h : notSlice b = true) (v : Value) : assign (.Subscript a b p) env v = (do
      let ov ← holding [v] (eval a env)
      let iv ← holding [v, ov] (eval b env)
      standAt p
      holding [v, ov, iv] (setItem ov iv v)
      release [v, ov, iv] []) := by
  cases b <;> first | rfl | cases h
def plainTest : Expr → Bool
  | .UnaryOp .Not _ _ => false
  | .BoolOp .. => false
  | .IfExp .. => false
  | .Compare .. => false
  | _ => true
theorem plainTest_is {e : Expr} {env : PySem.Env} (h : plainTest e = true) (whole : Sem Value) : isTrue e env whole = (do let v ← whole; standAt e.pos; holding [v] (PySem.truthy v)) := by
  cases e with
  | UnaryOp op x p => cases op <;> first | rfl | cases h
  | BoolOp => cases h
  | IfExp => cases h
  | Compare => cases h
  | _ => rfl
def notCall : Expr → Bool
  | .Call .. => false
  | _ => true
theorem notCall_base {e : Expr} {a : Str} {env : PySem.Env} {w : Sem Value} (h : notCall e = true) : attributeBase e a env w = w := by
  cases e <;> first | rfl | cases h
/-- the names of a swapped store -/
def swC (ts vs : List Expr) (sc : Scope) : Option (List Str) :=
  if !(ts.length == 2 || ts.length == 3) || vs.length != ts.length then none else
  let line := (ts.head?.map (·.pos.line)).getD 0
  let names := ts.filterMap fun
    | .Name id pos => if sc.names.lookup id == some .local && pos.line == line then some id else none
    | _ => none
  if names.length != ts.length || names.eraseDups.length != names.length then none else
  if vs.all (foldedForSure 8) then none else some names
theorem any_plain : ∀ {vs : List Expr} {p : Expr → Bool}, plainL vs = true → (∀ v, noStar v = true → p v = false) → vs.any p = false
  | [], _, _, _ => rfl
  | v :: vs, p, h, hp => by
    have h : (noStar v && plainL vs) = true := h
    rw [Bool.and_eq_true] at h
    rw [List.any_cons, hp v h.1, any_plain h.2 hp]
    rfl
theorem swC_is {ts vs : List Expr} {kt k2 : Nat} {pt p2 : Pos} {env : PySem.Env} (hk : env.scope.kind = .function) (hv : plainL vs = true) (hc : vs.all (constantsAlone 8) = false ∨ vs.all (foldedForSure 8) = true) :
    swappedStores [.Tuple ts kt pt] (.Tuple vs k2 p2) env = pure (swC ts vs env.scope) := by
  have hb : env.blockKind = .function := by unfold Env.blockKind; rw [hk]; rfl
  unfold swappedStores swC Env.kindOf
  dsimp only
  rw [hb, any_plain hv (p := _) (by intro v h; cases v <;> first | rfl | cases h)]
  have e0 : (ScopeKind.function != ScopeKind.function) = false := by decide
  rw [e0, Bool.or_false]
  split
  · rename_i h1
    first | rfl | rw [if_pos h1]
  · rename_i h1
    rw [if_neg Bool.false_ne_true]
    split
    · rename_i h2
      split
      · rfl
      · rename_i h3
        exact absurd h2 h3
    · rename_i h2
      split
      · rename_i h5
        split
        · rfl
        · first | rfl | rw [if_pos h5]
      · rename_i h5
        rcases hc with hc | hc
        · rw [hc, if_neg Bool.false_ne_true]
          split
          · rename_i h3
            exact absurd h3 h2
          · first | rfl | rw [if_neg h5]
        · exact absurd hc h5
end PX

/-! PX17: the check. -/
namespace PX
open PySem L2
def BF.nm : BF → Str
  | .len => "len" | .sum => "sum" | .all => "all" | .any => "any" | .abs => "abs" | .int => "int" | .bool => "bool" | .str => "str" | .tuple => "tuple" | .list => "list" | .listM => "list"
  | .sorted => "sorted" | .sortedP => "sorted" | .max2 => "max" | .min2 => "min" | .maxL => "max" | .minL => "min"
def TY.nm : TY → Str
  | .int => "int" | .bool => "bool" | .str => "str" | .tuple => "tuple" | .list => "list" | .dict => "dict"
structure CC where
  N : List Str
  sc : Scope
  fn : Str → Bool
def CC.blk (C : CC) (scope : Scope) : CC := ⟨C.N, relS scope C.sc, fun x => scope.names.lookup x == some .cell⟩
def visB (C : CC) (x : Str) : Bool := match C.sc.names.lookup x with
  | some .local => true | some .cell => true | some .free => true | _ => false
def nmOk (x : Str) : Bool := !(x == ("__debug__" : Str)) && !(x == ("__classdict__" : Str))
def glB (C : CC) (x : Str) : Bool := decide (C.sc.names.lookup x = some .globalImplicit) && !(x == ("__debug__" : Str))
def stoB (C : CC) (i : Nat) (x : Str) : Bool := decide (C.N[i]? = some x) && (decide (C.sc.names.lookup x = some .local) || (decide (C.sc.names.lookup x = some .cell) && C.fn x))
def strB (z : Str) : Bool := decide (z.length ≤ sizeLine) && PyData.strOk z
def ownOf (C : CC) (vs : List Nat) : List (Str × Nat) := vs.map fun i => ((C.N[i]?).getD ⟨#[]⟩, i)
def chkNs (C : CC) : List Nat → List Expr → Bool
  | [], [] => true
  | i :: is, .Name x _ :: es => stoB C i x && chkNs C is es
  | _, _ => false
def chkT (C : CC) : T → Expr → Bool
  | .name i, .Name x _ => stoB C i x
  | .tup is, .Tuple es _ _ => chkNs C is es
  | _, _ => false
def isTup : Expr → Bool
  | .Tuple .. => true
  | _ => false
mutual
def chkE (C : CC) : E → Expr → Bool
  | .var i, x => match x with
    | .Name y _ => decide (C.N[i]? = some y) && visB C y && nmOk y
    | _ => false
  | .int i, x => match x with
    | .Constant (.int j) _ _ => decide (i = j)
    | _ => false
  | .str z, x => match x with
    | .Constant (.str y) _ _ => decide (z = y) && strB z
    | _ => false
  | .bl b, x => match x with
    | .Constant (.bool c) _ _ => decide (b = c)
    | _ => false
  | .non, x => match x with
    | .Constant .none _ _ => true
    | _ => false
  | .glob n _, x => match x with
    | .Name y _ => decide (n = y) && glB C y
    | _ => false
  | .tup es, x => match x with
    | .Tuple xs _ _ => chkL C es xs && decide (xs.length ≤ 1000)
    | _ => false
  | .lst es, x => match x with
    | .List xs _ => chkL C es xs && decide (xs.length ≤ 1000)
    | _ => false
  | .new es, x => match x with
    | .List xs _ => chkL C es xs && decide (xs.length ≤ 1000)
    | _ => false
  | .dic, x => match x with
    | .Dict [] [] _ => true
    | _ => false
  | .bin o a b, x => match x with
    | .BinOp l p r _ => decide (opOf o = p) && chkE C a l && chkE C b r
    | _ => false
  | .neg a, x => match x with
    | .UnaryOp .USub l _ => chkE C a l
    | _ => false
  | .not a, x => match x with
    | .UnaryOp .Not l _ => chkE C a l
    | _ => false
  | .cmp o a b, x => match x with
    | .Compare l [p] [r] _ => decide (cmpOf o = p) && notSet r && chkE C a l && chkE C b r
    | _ => false
  | .chain o o' a b c, x => match x with
    | .Compare l [p, p'] [r, r'] _ => decide (cmpOf o = p) && decide (cmpOf o' = p') && notSet r' && chkE C a l && chkE C b r && chkE C c r'
    | _ => false
  | .and es, x => match x with
    | .BoolOp .And xs _ => chkL C es xs && !xs.isEmpty
    | _ => false
  | .or es, x => match x with
    | .BoolOp .Or xs _ => chkL C es xs && !xs.isEmpty
    | _ => false
  | .ite c a b, x => match x with
    | .IfExp t l r _ => chkE C c t && chkE C a l && chkE C b r
    | _ => false
  | .ix a i, x => match x with
    | .Subscript l r _ => notSlice r && chkE C a l && chkE C i r
    | _ => false
  | .sl a lo hi, x => match x with
    | .Subscript l (.Slice p q none _) _ => chkE C a l && chkO C lo p && chkO C hi q
    | _ => false
  | .rev a, x => match x with
    | .Subscript l (.Slice none none (some (.UnaryOp .USub (.Constant (.int j) _ _) _)) _) _ => decide (j = 1) && chkE C a l
    | _ => false
  | .call _ f es, x => match x with
    | .Call (.Name n _) xs [] _ => decide (f.name = n) && glB C n && chkL C es xs && !xs.isEmpty
    | _ => false
  | .callk _ f es ks kes, x => match x with
    | .Call (.Name n _) xs kws _ => decide (f.name = n) && glB C n && chkL C es xs && chkK C ks kes kws && decide ((xs.length, ks) ∈ f.kps)
    | _ => false
  | .bi f es, x => match x with
    | .Call (.Name n _) xs [] _ => decide (f.nm = n) && glB C n && chkL C es xs && !xs.isEmpty
    | _ => false
  | .isi a t, x => match x with
    | .Call (.Name n _) [l, .Name m _] [] _ => decide (n = ("isinstance" : Str)) && decide (t.nm = m) && glB C n && glB C m && noStar l && chkE C a l
    | _ => false
  | .meth m o es, x => match x with
    | .Call (.Attribute l n ap) xs [] cp => decide (m.name = n) && notCall l && (ap.endLine == cp.line) && chkE C o l && chkL C es xs && decide (xs.length < 30)
    | _ => false
  | .lc vs _ t it c e, x => match x with
    | .ListComp elt [⟨tg, iter, ifs, k⟩] scope _ => decide (k = 0) && blkC C.N C.sc scope (ownOf C vs) && t.slots.all (fun i => decide (i ∈ vs)) && notSet iter &&
        chkI C tg it iter && chkT (C.blk scope) t tg && chkC (C.blk scope) c ifs && chkE (C.blk scope) e elt
    | _ => false
  | .lc2 vs vs1 _ t it c t1 it1 c1 e, x => match x with
    | .ListComp elt [⟨tg, iter, ifs, k⟩, ⟨tg1, iter1, ifs1, k1⟩] scope _ => decide (k = 0) && decide (k1 = 0) && blkC C.N C.sc scope (ownOf C vs) && t.slots.all (fun i => decide (i ∈ vs)) && t1.slots.all (fun i => decide (i ∈ vs1)) && vs1.all (fun i => decide (i ∈ vs)) && notSet iter && notSet iter1 &&
        chkI C tg it iter && chkT (C.blk scope) t tg && chkC (C.blk scope) c ifs && chkI (C.blk scope) tg1 it1 iter1 && chkT (C.blk scope) t1 tg1 && chkC (C.blk scope) c1 ifs1 && chkE (C.blk scope) e elt
    | _ => false
def chkL (C : CC) : L → List Expr → Bool
  | .nil, xs => match xs with
    | [] => true
    | _ => false
  | .cons e es, xs => match xs with
    | x :: xs => noStar x && chkE C e x && chkL C es xs
    | _ => false
def chkK (C : CC) : List Str → L → List Keyword → Bool
  | ks, .nil, kws => match ks, kws with
    | [], [] => true
    | _, _ => false
  | ks, .cons e es, kws => match ks, kws with
    | k :: ks, ⟨some n, x, _⟩ :: kws => decide (k = n) && chkE C e x && chkK C ks es kws
    | _, _ => false
def chkO (C : CC) : O → Option Expr → Bool
  | .none, x => match x with
    | none => true
    | _ => false
  | .some e, x => match x with
    | some x => chkE C e x
    | _ => false
def chkC (C : CC) : O → List Expr → Bool
  | .none, xs => match xs with
    | [] => true
    | _ => false
  | .some e, xs => match xs with
    | [x] => chkE C e x
    | _ => false
def chkI (C : CC) (tg : Expr) : I → Expr → Bool
  | .seq e, x => chkE C e x
  | .rng1 a, x => match x with
    | .Call (.Name n _) [l] [] _ => decide (n = ("range" : Str)) && glB C n && noStar l && chkE C a l
    | _ => false
  | .rng2 a b, x => match x with
    | .Call (.Name n _) [l, r] [] _ => decide (n = ("range" : Str)) && glB C n && noStar l && noStar r && chkE C a l && chkE C b r
    | _ => false
  | .enum a, x => match x with
    | .Call (.Name n _) [l] [] _ => decide (n = ("enumerate" : Str)) && isTup tg && glB C n && noStar l && chkE C a l
    | _ => false
  | .zip a b, x => match x with
    | .Call (.Name n _) [l, r] [] _ => decide (n = ("zip" : Str)) && isTup tg && glB C n && noStar l && noStar r && chkE C a l && chkE C b r
    | _ => false
  | .rev a, x => match x with
    | .Call (.Name n _) [l] [] _ => decide (n = ("reversed" : Str)) && glB C n && noStar l && chkE C a l
    | _ => false
end
/-- what a text needs of the module -/
inductive Nd where
  | fn (f : FnI) | gl (x : Str) (d : D) | bn (x : Str) | cl (c : Str) | hd (cs : List Str) (hs : List (Str × List Str × Nat × Str))
mutual
def ndE : E → List Nd
  | .var _ => [] | .int _ => [] | .str _ => [] | .bl _ => [] | .non => [] | .dic => []
  | .glob x d => [.gl x d]
  | .tup es => ndL es | .lst es => ndL es | .new es => ndL es
  | .bin _ a b => ndE a ++ ndE b
  | .neg a => ndE a | .not a => ndE a
  | .cmp _ a b => ndE a ++ ndE b
  | .chain _ _ a b c => ndE a ++ (ndE b ++ ndE c)
  | .and es => ndL es | .or es => ndL es
  | .ite c a b => ndE c ++ (ndE a ++ ndE b)
  | .ix a i => ndE a ++ ndE i
  | .sl a lo hi => ndE a ++ (ndO lo ++ ndO hi)
  | .rev a => ndE a
  | .call _ f es => .fn f :: ndL es
  | .callk _ f es _ kes => .fn f :: (ndL es ++ ndL kes)
  | .bi f es => .bn f.nm :: ndL es
  | .isi a t => .bn "isinstance" :: .bn t.nm :: ndE a
  | .meth _ o es => ndE o ++ ndL es
  | .lc _ _ _ it c e => ndI it ++ (ndO c ++ ndE e)
  | .lc2 _ _ _ _ it c _ it1 c1 e => ndI it ++ (ndO c ++ (ndI it1 ++ (ndO c1 ++ ndE e)))
def ndL : L → List Nd
  | .nil => []
  | .cons e es => ndE e ++ ndL es
def ndO : O → List Nd
  | .none => []
  | .some e => ndE e
def ndI : I → List Nd
  | .seq e => ndE e
  | .rng1 a => .bn "range" :: ndE a
  | .rng2 a b => .bn "range" :: (ndE a ++ ndE b)
  | .enum a => .bn "enumerate" :: ndE a
  | .zip a b => .bn "zip" :: (ndE a ++ ndE b)
  | .rev a => .bn "reversed" :: ndE a
end
def Nd.okP (P : Program) (w : World) (K : PySem.W.Frag) (mg : Str → Option Value) (base : Heap) (lvl : Nat) : Nd → Prop
  | .fn f => FnGood P w K mg base lvl f
  | .gl x d => GlobOk K mg x d
  | .bn x => mg x = none
  | .cl c => ClsGood K mg c
  | .hd cs hs => HdsGood K mg cs hs
def Nd.ok (X : Cx) (lvl : Nat) (n : Nd) : Prop := n.okP X.prog X.w X.K X.mg X.base lvl
def Has (X : Cx) (lvl : Nat) (ns : List Nd) : Prop := ∀ n ∈ ns, n.ok X lvl
theorem Has.app {X : Cx} {lvl : Nat} {a b : List Nd} (h : Has X lvl (a ++ b)) : Has X lvl a ∧ Has X lvl b := ⟨fun n hn => h n (List.mem_append_left _ hn), fun n hn => h n (List.mem_append_right _ hn)⟩
theorem Has.cons {X : Cx} {lvl : Nat} {a : Nd} {b : List Nd} (h : Has X lvl (a :: b)) : a.ok X lvl ∧ Has X lvl b := ⟨h a List.mem_cons_self, fun n hn => h n (List.mem_cons_of_mem _ hn)⟩
structure CxOk (C : CC) (X : Cx) (lvl : Nat) : Prop where
  calm : X.calm = true
  N : X.N = C.N
  nd : C.N.Nodup
  sc : X.env.scope = C.sc
  fn : X.fn = C.fn
  room : Room lvl X.A
section
variable {C : CC} {X : Cx} {lvl : Nat} {W : WX}
theorem CxOk.xnd (ok : CxOk C X lvl) : X.N.Nodup := by rw [ok.N]; exact ok.nd
theorem CxOk.un (ok : CxOk C X lvl) : X.A.units + 64 < cLine := by have := ok.room.un; omega
theorem CxOk.un1 (ok : CxOk C X lvl) : X.A.units + 1 < cLine := by have := ok.room.un; omega
theorem CxOk.gl {x : Str} (ok : CxOk C X lvl) (h : glB C x = true) : Gl X x ∧ (x == ("__debug__" : Str)) = false := by
  unfold glB at h
  simp only [Bool.and_eq_true, decide_eq_true_eq, Bool.not_eq_true'] at h
  refine ⟨?_, h.2⟩
  show X.env.scope.names.lookup x = _
  rw [ok.sc]; exact h.1
theorem CxOk.vis {x : Str} (ok : CxOk C X lvl) (h : visB C x = true) : Vis X.env.scope x := by
  unfold Vis
  rw [ok.sc]
  unfold visB at h
  split at h
  · exact .inl (by assumption)
  · exact .inr (.inl (by assumption))
  · exact .inr (.inr (by assumption))
  · cases h
theorem CxOk.sto {i : Nat} {x : Str} (ok : CxOk C X lvl) (h : stoB C i x = true) : Sto X i x := by
  unfold stoB at h
  simp only [Bool.and_eq_true, Bool.or_eq_true, decide_eq_true_eq] at h
  obtain ⟨h1, h2⟩ := h
  unfold Sto L2.Loc
  rw [ok.sc, ok.N, ok.fn]
  rcases h2 with h2 | ⟨h2, h3⟩
  · exact ⟨h1, .inl h2, .inr h2⟩
  · exact ⟨h1, .inr h2, .inl h3⟩
theorem nmOk_is {x : Str} (h : nmOk x = true) : (x == ("__debug__" : Str)) = false ∧ (x == ("__classdict__" : Str)) = false := by
  unfold nmOk at h
  simp only [Bool.and_eq_true, Bool.not_eq_true'] at h
  exact h
theorem chkNs_is (ok : CxOk C X lvl) : ∀ {is : List Nat} {es : List Expr}, chkNs C is es = true → Names' X es is
  | [], [], _ => .nil
  | i :: is, e :: es, h => by
    cases e with
    | Name x p =>
      have h : (stoB C i x && chkNs C is es) = true := h
      rw [Bool.and_eq_true] at h
      exact .cons (ok.sto h.1) (chkNs_is ok h.2)
    | _ => cases h
  | [], e :: es, h => by cases h
  | i :: is, [], h => by cases h
theorem chkT_is {t : T} {x : Expr} (ok : CxOk C X lvl) (h : chkT C t x = true) : PG X x (gD X.K t) := by
  unfold chkT at h
  split at h
  · exact g_name ok.xnd (ok.sto h)
  · exact g_tup ok.calm ok.xnd (chkNs_is ok h)
  · cases h
theorem CxOk.blk (ok : CxOk C X lvl) (scope : Scope) (s : Shared) (H : Hp) (A : Addr) (cl : List (Str × Addr)) (fp : List Addr) : CxOk (C.blk scope) (X.blk s H scope (compEnvC scope cl A X.env) fp) lvl :=
  ⟨ok.calm, ok.N, ok.nd, by show relS scope X.env.scope = _; rw [ok.sc]; rfl, rfl, ok.room⟩
theorem ownOf_snd (C : CC) (vs : List Nat) : (ownOf C vs).map (·.2) = vs := by
  unfold ownOf
  rw [List.map_map]
  induction vs with
  | nil => rfl
  | cons v vs ih => rw [List.map_cons, ih]; rfl
theorem boot_bf : ∀ f : BF, bootBuiltins f.nm = some (bfV f) ∧ f.nm ≠ "__name__" := by
  intro f
  cases f <;> exact ⟨by decide +kernel, by decide +kernel⟩
theorem boot_ty : ∀ t : TY, bootBuiltins t.nm = some (.type t.name) ∧ t.nm ≠ "__name__" := by
  intro t
  cases t <;> exact ⟨by decide +kernel, by decide +kernel⟩
theorem bf_kind : ∀ f : BF, (∃ id, bfV f = .builtin id) ∨ ∃ T, bfV f = .type T := by
  intro f
  cases f <;> first | exact .inl ⟨_, rfl⟩ | exact .inr ⟨_, rfl⟩
theorem evL_len : ∀ {es : L} {xs : List Expr}, chkL C es xs = true → ∀ ρ S ds S', evL es ρ S = .ok ds S' → ds.length = xs.length
  | .nil, xs, h, ρ, S, ds, S', e => by
    simp only [chkL] at h
    split at h
    · cases e; rfl
    · cases h
  | .cons a es, xs, h, ρ, S, ds, S', e => by
    simp only [chkL] at h
    split at h
    · rename_i x xs
      simp only [Bool.and_eq_true] at h
      have e : (evE a ρ S).bind (fun d S => (evL es ρ S).bind fun ds S => .ok (d :: ds) S) = .ok ds S' := e
      obtain ⟨d, S1, e1, e⟩ := R.bind_eq_ok e
      obtain ⟨ds', S2, e2, e⟩ := R.bind_eq_ok e
      cases e
      rw [List.length_cons, List.length_cons, evL_len h.2 ρ S1 ds' S' e2]
    · cases h
theorem chkK_len : ∀ {ks : List Str} {es : L} {kws : List Keyword}, chkK C ks es kws = true → kws.map (·.arg) = ks.map some ∧ ∀ ρ S ds S', evL es ρ S = .ok ds S' → ds.length = ks.length
  | ks, .nil, kws, h => by
    simp only [chkK] at h
    split at h
    · exact ⟨rfl, fun ρ S ds S' e => by cases e; rfl⟩
    · cases h
  | ks, .cons a es, kws, h => by
    simp only [chkK] at h
    split at h
    · rename_i k ks n x p kws
      simp only [Bool.and_eq_true, decide_eq_true_eq] at h
      obtain ⟨⟨rfl, h1⟩, h2⟩ := h
      obtain ⟨i1, i2⟩ := chkK_len h2
      refine ⟨by rw [List.map_cons, List.map_cons, i1], fun ρ S ds S' e => ?_⟩
      have e : (evE a ρ S).bind (fun d S => (evL es ρ S).bind fun ds S => .ok (d :: ds) S) = .ok ds S' := e
      obtain ⟨d, S1, e1, e⟩ := R.bind_eq_ok e
      obtain ⟨ds', S2, e2, e⟩ := R.bind_eq_ok e
      cases e
      rw [List.length_cons, List.length_cons, i2 ρ S1 ds' S' e2]
    · cases h
theorem chkL_plain : ∀ {es : L} {xs : List Expr}, chkL C es xs = true → plainL xs = true
  | .nil, xs, h => by
    simp only [chkL] at h
    split at h
    · rfl
    · cases h
  | .cons a es, xs, h => by
    simp only [chkL] at h
    split at h
    · rename_i x xs
      simp only [Bool.and_eq_true] at h
      show (noStar x && plainL xs) = true
      rw [h.1.1, chkL_plain h.2]; rfl
    · cases h
end
end PX

/-! PX18: the check is sound: expressions. -/
namespace PX
open PySem L2
def lastOk {o o' : CmpOp} {b c : Expr} (h : notSet c = true) : lastMarks [o, o'] [b, c] = false := notSet_marks h
theorem both {X : Cx} {W : WX} {x : Expr} {m : Env → Store → R D} (h : XE' X W x m) (hp : plainTest x = true) : XE' X W x m ∧ XT X W x m := ⟨h, t_plain h (plainTest_is hp)⟩
mutual
theorem soundE : ∀ (e : E) {C : CC} {X : Cx} {lvl : Nat} {W : WX} {x : Expr}, CxOk C X lvl → Takes X W → chkE C e x = true → Has X lvl (ndE e) → XE' X W x (evE e) ∧ XT X W x (evE e)
  | .var i, C, X, lvl, W, x, ok, tk, h, hn => by
    simp only [chkE] at h
    split at h
    · simp only [Bool.and_eq_true, decide_eq_true_eq] at h
      obtain ⟨⟨h1, h2⟩, h3⟩ := h
      exact both (x_var (by rw [ok.N]; exact h1) (ok.vis h2) (nmOk_is h3).1 (nmOk_is h3).2) rfl
    · cases h
  | .int i, C, X, lvl, W, x, ok, tk, h, hn => by
    simp only [chkE] at h
    split at h
    · obtain rfl := of_decide_eq_true h
      exact both (x_int) rfl
    · cases h
  | .str z, C, X, lvl, W, x, ok, tk, h, hn => by
    simp only [chkE] at h
    split at h
    · unfold strB at h
      simp only [Bool.and_eq_true, decide_eq_true_eq] at h
      obtain ⟨rfl, h1, h2⟩ := h
      exact both (x_str h1 h2) rfl
    · cases h
  | .bl b, C, X, lvl, W, x, ok, tk, h, hn => by
    simp only [chkE] at h
    split at h
    · obtain rfl := of_decide_eq_true h
      exact both (x_bl) rfl
    · cases h
  | .non, C, X, lvl, W, x, ok, tk, h, hn => by
    simp only [chkE] at h
    split at h
    · exact both (x_non) rfl
    · cases h
  | .glob n d, C, X, lvl, W, x, ok, tk, h, hn => by
    simp only [chkE] at h
    split at h
    · simp only [Bool.and_eq_true, decide_eq_true_eq] at h
      obtain ⟨rfl, h1⟩ := h
      exact both (x_glob (ok.gl h1).1 (hn (.gl n d) List.mem_cons_self) (ok.gl h1).2) rfl
    · cases h
  | .tup es, C, X, lvl, W, x, ok, tk, h, hn => by
    simp only [chkE] at h
    split at h
    · simp only [Bool.and_eq_true, decide_eq_true_eq] at h
      obtain ⟨h1, h2⟩ := h
      exact both (x_tup (Nat.le_trans h2 (by decide)) (evL_len h1) (soundL es ok tk h1 hn)) rfl
    · cases h
  | .lst es, C, X, lvl, W, x, ok, tk, h, hn => by
    simp only [chkE] at h
    split at h
    · simp only [Bool.and_eq_true, decide_eq_true_eq] at h
      obtain ⟨h1, h2⟩ := h
      exact both (x_lst (Nat.le_trans h2 (by decide)) (evL_len h1) (soundL es ok tk h1 hn)) rfl
    · cases h
  | .new es, C, X, lvl, W, x, ok, tk, h, hn => by
    simp only [chkE] at h
    split at h
    · simp only [Bool.and_eq_true, decide_eq_true_eq] at h
      obtain ⟨h1, h2⟩ := h
      exact both (x_new (Nat.le_trans h2 (by decide)) (evL_len h1) (soundL es ok tk h1 hn)) rfl
    · cases h
  | .dic, C, X, lvl, W, x, ok, tk, h, hn => by
    simp only [chkE] at h
    split at h
    · exact both (x_dic) rfl
    · cases h
  | .bin o a b, C, X, lvl, W, x, ok, tk, h, hn => by
    simp only [chkE] at h
    split at h
    · simp only [Bool.and_eq_true, decide_eq_true_eq] at h
      obtain ⟨⟨rfl, h1⟩, h2⟩ := h
      obtain ⟨n1, n2⟩ := Has.app hn
      exact both (x_bin o (soundE a ok tk h1 n1).1 (soundE b ok tk h2 n2).1) rfl
    · cases h
  | .neg a, C, X, lvl, W, x, ok, tk, h, hn => by
    simp only [chkE] at h
    split at h
    · exact both (x_neg (soundE a ok tk h hn).1) rfl
    · cases h
  | .not a, C, X, lvl, W, x, ok, tk, h, hn => by
    simp only [chkE] at h
    split at h
    · exact ⟨x_not (soundE a ok tk h hn).1, t_not (soundE a ok tk h hn).2⟩
    · cases h
  | .cmp o a b, C, X, lvl, W, x, ok, tk, h, hn => by
    simp only [chkE] at h
    split at h
    · simp only [Bool.and_eq_true, decide_eq_true_eq] at h
      obtain ⟨⟨⟨rfl, h0⟩, h1⟩, h2⟩ := h
      obtain ⟨n1, n2⟩ := Has.app hn
      exact ⟨x_cmp ok.un o (soundE a ok tk h1 n1).1 (soundE b ok tk h2 n2).1 (notSet_marks h0), t_cmp ok.un o (soundE a ok tk h1 n1).1 (soundE b ok tk h2 n2).1 (notSet_marks h0)⟩
    · cases h
  | .chain o o' a b c, C, X, lvl, W, x, ok, tk, h, hn => by
    simp only [chkE] at h
    split at h
    · simp only [Bool.and_eq_true, decide_eq_true_eq] at h
      obtain ⟨⟨⟨⟨⟨rfl, rfl⟩, h0⟩, h1⟩, h2⟩, h3⟩ := h
      obtain ⟨n1, n2⟩ := Has.app hn
      obtain ⟨n2, n3⟩ := Has.app n2
      exact ⟨x_chain ok.un o o' (soundE a ok tk h1 n1).1 (soundE b ok tk h2 n2).1 (soundE c ok tk h3 n3).1 (lastOk h0), t_chain ok.un o o' (soundE a ok tk h1 n1).1 (soundE b ok tk h2 n2).1 (soundE c ok tk h3 n3).1 (lastOk h0)⟩
    · cases h
  | .and es, C, X, lvl, W, x, ok, tk, h, hn => by
    simp only [chkE] at h
    split at h
    · simp only [Bool.and_eq_true, Bool.not_eq_true'] at h
      exact ⟨soundAnd es ok tk h.1 h.2 hn, (soundWA es ok tk h.1 h.2 hn).pt⟩
    · cases h
  | .or es, C, X, lvl, W, x, ok, tk, h, hn => by
    simp only [chkE] at h
    split at h
    · simp only [Bool.and_eq_true, Bool.not_eq_true'] at h
      exact ⟨soundOr es ok tk h.1 h.2 hn, (soundWO es ok tk h.1 h.2 hn).pt⟩
    · cases h
  | .ite c a b, C, X, lvl, W, x, ok, tk, h, hn => by
    simp only [chkE] at h
    split at h
    · simp only [Bool.and_eq_true] at h
      obtain ⟨⟨h1, h2⟩, h3⟩ := h
      obtain ⟨n1, n2⟩ := Has.app hn
      obtain ⟨n2, n3⟩ := Has.app n2
      exact ⟨x_ite (soundE c ok tk h1 n1).2 (soundE a ok tk h2 n2).1 (soundE b ok tk h3 n3).1, t_ite (soundE c ok tk h1 n1).2 (soundE a ok tk h2 n2).2 (soundE b ok tk h3 n3).2⟩
    · cases h
  | .ix a i, C, X, lvl, W, x, ok, tk, h, hn => by
    simp only [chkE] at h
    split at h
    · simp only [Bool.and_eq_true] at h
      obtain ⟨⟨h0, h1⟩, h2⟩ := h
      obtain ⟨n1, n2⟩ := Has.app hn
      exact both (x_ix ok.un1 (soundE a ok tk h1 n1).1 (soundE i ok tk h2 n2).1 (notSlice_ix h0)) rfl
    · cases h
  | .sl a lo hi, C, X, lvl, W, x, ok, tk, h, hn => by
    simp only [chkE] at h
    split at h
    · simp only [Bool.and_eq_true] at h
      obtain ⟨⟨h1, h2⟩, h3⟩ := h
      obtain ⟨n1, n2⟩ := Has.app hn
      obtain ⟨n2, n3⟩ := Has.app n2
      exact both (x_sl (soundE a ok tk h1 n1).1 (soundO lo ok tk h2 n2) (soundO hi ok tk h3 n3)) rfl
    · cases h
  | .rev a, C, X, lvl, W, x, ok, tk, h, hn => by
    simp only [chkE] at h
    split at h
    · simp only [Bool.and_eq_true, decide_eq_true_eq] at h
      obtain ⟨rfl, h1⟩ := h
      exact both (x_rev (soundE a ok tk h1 hn).1) rfl
    · cases h
  | .call sh f es, C, X, lvl, W, x, ok, tk, h, hn => by
    simp only [chkE] at h
    split at h
    · simp only [Bool.and_eq_true, decide_eq_true_eq, Bool.not_eq_true'] at h
      obtain ⟨⟨⟨rfl, h1⟩, h2⟩, h3⟩ := h
      obtain ⟨n1, n2⟩ := Has.cons hn
      rename_i xs _
      cases xs with
      | nil => cases h3
      | cons y ys =>
        have hp := chkL_plain h2
        have hp' : (noStar y && plainL ys) = true := hp
        rw [Bool.and_eq_true] at hp'
        exact both (x_call tk n1 ok.room (ok.gl h1).1 (ok.gl h1).2 (soundL es ok tk h2 n2) (star_cons hp'.1) (back_plain hp'.2)) rfl
    · cases h
  | .callk sh f es ks kes, C, X, lvl, W, x, ok, tk, h, hn => by
    simp only [chkE] at h
    split at h
    · simp only [Bool.and_eq_true, decide_eq_true_eq] at h
      obtain ⟨⟨⟨⟨rfl, h1⟩, h2⟩, h3⟩, h4⟩ := h
      obtain ⟨n1, n2⟩ := Has.cons hn
      obtain ⟨n2, n3⟩ := Has.app n2
      obtain ⟨l1, l2⟩ := chkK_len h3
      rename_i xs kws _ _
      obtain ⟨k1, k2, k3⟩ := kw_facts (env := X.env) (pos := _) l1
      cases xs with
      | nil =>
        cases es with
        | nil => exact both (x_callk0 tk n1 ok.room (ok.gl h1).1 (ok.gl h1).2 h4 (soundK kes ok tk h3 n3) l2 k1 k2 (by rw [k3]; rfl)) rfl
        | cons _ _ => simp only [chkL] at h2; exact absurd h2 Bool.false_ne_true
      | cons y ys =>
        have hp := chkL_plain h2
        have hp' : (noStar y && plainL ys) = true := hp
        rw [Bool.and_eq_true] at hp'
        exact both (x_callk tk n1 ok.room (ok.gl h1).1 (ok.gl h1).2 h4 (soundL es ok tk h2 n2) (soundK kes ok tk h3 n3) (evL_len h2) l2 k1 k2 (star_cons hp'.1) (by rw [k3, back_plain hp]; rfl)) rfl
    · cases h
  | .bi f es, C, X, lvl, W, x, ok, tk, h, hn => by
    simp only [chkE] at h
    split at h
    · simp only [Bool.and_eq_true, decide_eq_true_eq, Bool.not_eq_true'] at h
      obtain ⟨⟨⟨rfl, h1⟩, h2⟩, h3⟩ := h
      obtain ⟨n1, n2⟩ := Has.cons hn
      rename_i xs _
      cases xs with
      | nil => cases h3
      | cons y ys =>
        have hp := chkL_plain h2
        have hp' : (noStar y && plainL ys) = true := hp
        rw [Bool.and_eq_true] at hp'
        obtain ⟨b1, b2⟩ := boot_bf f
        rcases bf_kind f with ⟨id, e⟩ | ⟨T, e⟩
        · exact both (x_biB ok.calm e (ok.gl h1).1 n1 (by rw [b1, e]) b2 (ok.gl h1).2 (soundL es ok tk h2 n2) (star_cons hp'.1) (back_plain hp'.2)) rfl
        · exact both (x_biT ok.calm e (ok.gl h1).1 n1 (by rw [b1, e]) b2 (ok.gl h1).2 (soundL es ok tk h2 n2) (star_cons hp'.1) (back_plain hp'.2)) rfl
    · cases h
  | .isi a t, C, X, lvl, W, x, ok, tk, h, hn => by
    simp only [chkE] at h
    split at h
    · simp only [Bool.and_eq_true, decide_eq_true_eq] at h
      obtain ⟨⟨⟨⟨⟨rfl, rfl⟩, h1⟩, h2⟩, h3⟩, h4⟩ := h
      obtain ⟨n1, n2⟩ := Has.cons hn
      obtain ⟨n2, n3⟩ := Has.cons n2
      obtain ⟨b1, b2⟩ := boot_ty t
      exact both (x_isi (ok.gl h1).1 n1 (ok.gl h2).1 n2 b1 b2 (ok.gl h2).2 (soundE a ok tk h4 n3).1 (by rw [star_cons h3]; rfl)) rfl
    · cases h
  | .meth m o es, C, X, lvl, W, x, ok, tk, h, hn => by
    simp only [chkE] at h
    split at h
    · simp only [Bool.and_eq_true, decide_eq_true_eq] at h
      obtain ⟨⟨⟨⟨⟨rfl, h0⟩, h1⟩, h2⟩, h3⟩, h4⟩ := h
      obtain ⟨n1, n2⟩ := Has.app hn
      rename_i xs _
      cases xs with
      | nil =>
        cases es with
        | nil => exact both (x_meth0 ok.un1 (soundE o ok tk h2 n1).1 (notCall_base h0) h1) rfl
        | cons => simp only [chkL] at h3; cases h3
      | cons y ys =>
        have hp := chkL_plain h3
        have hp' : (noStar y && plainL ys) = true := hp
        rw [Bool.and_eq_true] at hp'
        refine both (x_meth ok.un1 (soundE o ok tk h2 n1).1 (soundL es ok tk h3 n2) (notCall_base h0) ?_ h1 (star_cons hp'.1) (back_plain hp'.2)) rfl
        rw [back_all hp]
        show (true && true && decide ((y :: ys).length + 0 + 0 < 30)) = true
        rw [Bool.and_self, Bool.true_and]
        exact decide_eq_true h4
    · cases h
  | .lc vs mu t it c e, C, X, lvl, W, x, ok, tk, h, hn => by
    simp only [chkE] at h
    split at h
    · simp only [Bool.and_eq_true, decide_eq_true_eq, List.all_eq_true] at h
      obtain ⟨⟨⟨⟨⟨⟨⟨rfl, h1⟩, h2⟩, h3⟩, h4⟩, h5⟩, h6⟩, h7⟩ := h
      obtain ⟨n1, n2⟩ := Has.app hn
      obtain ⟨n2, n3⟩ := Has.app n2
      exact both (x_lc (own := ownOf C vs) ok.calm ok.xnd (soundI it ok tk h4 n1) (blkOk_by (by rw [ok.N, ok.sc]; exact h1)) (ownOf_snd C vs) h2 (fun s H A cl fp => chkT_is (ok.blk _ s H A cl fp) h5)
        (fun s H A cl fp => soundC c (ok.blk _ s H A cl fp) h6 n2) (fun s H A cl fp => (soundE e (ok.blk _ s H A cl fp) takes0 h7 n3).1) (notSet_fold h3)) rfl
    · cases h
  | .lc2 vs vs1 mu t it c t1 it1 c1 e, C, X, lvl, W, x, ok, tk, h, hn => by
    simp only [chkE] at h
    split at h
    · simp only [Bool.and_eq_true, decide_eq_true_eq, List.all_eq_true] at h
      obtain ⟨⟨⟨⟨⟨⟨⟨⟨⟨⟨⟨⟨⟨⟨rfl, rfl⟩, h1⟩, h2⟩, h2b⟩, h2c⟩, h3⟩, h3b⟩, h4⟩, h5⟩, h6⟩, h7⟩, h8⟩, h9⟩, h10⟩ := h
      obtain ⟨n1, n2⟩ := Has.app hn
      obtain ⟨n2, n3⟩ := Has.app n2
      obtain ⟨n3, n4⟩ := Has.app n3
      obtain ⟨n4, n5⟩ := Has.app n4
      exact both (x_lc2 (own := ownOf C vs) ok.calm ok.xnd (soundI it ok tk h4 n1) (blkOk_by (by rw [ok.N, ok.sc]; exact h1)) (ownOf_snd C vs) h2 h2b h2c (fun s H A cl fp => chkT_is (ok.blk _ s H A cl fp) h5)
        (fun s H A cl fp => soundC c (ok.blk _ s H A cl fp) h6 n2) (fun s H A cl fp => soundI it1 (ok.blk _ s H A cl fp) takes0 h7 n3) (fun s H A cl fp => chkT_is (ok.blk _ s H A cl fp) h8)
        (fun s H A cl fp => soundC c1 (ok.blk _ s H A cl fp) h9 n4) (fun s H A cl fp => (soundE e (ok.blk _ s H A cl fp) takes0 h10 n5).1) (notSet_fold h3) (fun env => notSet_fold h3b)) rfl
    · cases h
theorem soundL : ∀ (es : L) {C : CC} {X : Cx} {lvl : Nat} {W : WX} {xs : List Expr}, CxOk C X lvl → Takes X W → chkL C es xs = true → Has X lvl (ndL es) → XL X W xs (evL es)
  | .nil, C, X, lvl, W, xs, ok, tk, h, hn => by
    simp only [chkL] at h
    split at h
    · exact l_nil
    · cases h
  | .cons e es, C, X, lvl, W, xs, ok, tk, h, hn => by
    simp only [chkL] at h
    split at h
    · simp only [Bool.and_eq_true] at h
      obtain ⟨⟨h0, h1⟩, h2⟩ := h
      obtain ⟨n1, n2⟩ := Has.app hn
      exact l_cons (soundE e ok tk h1 n1).1 (soundL es ok tk h2 n2) (star_cons h0)
    · cases h
theorem soundK : ∀ (es : L) {C : CC} {X : Cx} {lvl : Nat} {W : WX} {ks : List Str} {kws : List Keyword}, CxOk C X lvl → Takes X W → chkK C ks es kws = true → Has X lvl (ndL es) → XK' X W kws (evL es)
  | .nil, C, X, lvl, W, ks, kws, ok, tk, h, hn => by
    simp only [chkK] at h
    split at h
    · exact k_nil
    · cases h
  | .cons e es, C, X, lvl, W, ks, kws, ok, tk, h, hn => by
    simp only [chkK] at h
    split at h
    · simp only [Bool.and_eq_true] at h
      obtain ⟨⟨h0, h1⟩, h2⟩ := h
      obtain ⟨n1, n2⟩ := Has.app hn
      exact k_cons (soundE e ok tk h1 n1).1 (soundK es ok tk h2 n2)
    · cases h
theorem soundAnd : ∀ (es : L) {C : CC} {X : Cx} {lvl : Nat} {W : WX} {xs : List Expr} {pos : Pos}, CxOk C X lvl → Takes X W → chkL C es xs = true → xs.isEmpty = false → Has X lvl (ndL es) → XE' X W (.BoolOp .And xs pos) (evAnd es)
  | .nil, C, X, lvl, W, xs, pos, ok, tk, h, he, hn => by
    simp only [chkL] at h
    split at h
    · cases he
    · cases h
  | .cons e es, C, X, lvl, W, xs, pos, ok, tk, h, he, hn => by
    simp only [chkL] at h
    split at h
    · simp only [Bool.and_eq_true] at h
      obtain ⟨⟨h0, h1⟩, h2⟩ := h
      obtain ⟨n1, n2⟩ := Has.app hn
      rename_i x xs
      cases es with
      | nil =>
        simp only [chkL] at h2
        split at h2
        · exact pe_one (soundE e ok tk h1 n1).1
        · cases h2
      | cons e2 es =>
        cases xs with
        | nil => simp only [chkL] at h2; cases h2
        | cons y ys => exact x_and (soundE e ok tk h1 n1).1 (soundAnd (.cons e2 es) ok tk h2 rfl n2)
    · cases h
theorem soundOr : ∀ (es : L) {C : CC} {X : Cx} {lvl : Nat} {W : WX} {xs : List Expr} {pos : Pos}, CxOk C X lvl → Takes X W → chkL C es xs = true → xs.isEmpty = false → Has X lvl (ndL es) → XE' X W (.BoolOp .Or xs pos) (evOr es)
  | .nil, C, X, lvl, W, xs, pos, ok, tk, h, he, hn => by
    simp only [chkL] at h
    split at h
    · cases he
    · cases h
  | .cons e es, C, X, lvl, W, xs, pos, ok, tk, h, he, hn => by
    simp only [chkL] at h
    split at h
    · simp only [Bool.and_eq_true] at h
      obtain ⟨⟨h0, h1⟩, h2⟩ := h
      obtain ⟨n1, n2⟩ := Has.app hn
      rename_i x xs
      cases es with
      | nil =>
        simp only [chkL] at h2
        split at h2
        · exact pe_one (soundE e ok tk h1 n1).1
        · cases h2
      | cons e2 es =>
        cases xs with
        | nil => simp only [chkL] at h2; cases h2
        | cons y ys => exact x_or (soundE e ok tk h1 n1).1 (soundOr (.cons e2 es) ok tk h2 rfl n2)
    · cases h
theorem soundWA : ∀ (es : L) {C : CC} {X : Cx} {lvl : Nat} {W : WX} {xs : List Expr} {pos : Pos}, CxOk C X lvl → Takes X W → chkL C es xs = true → xs.isEmpty = false → Has X lvl (ndL es) → XW X W (.BoolOp .And xs pos) (evAnd es)
  | .nil, C, X, lvl, W, xs, pos, ok, tk, h, he, hn => by
    simp only [chkL] at h
    split at h
    · cases he
    · cases h
  | .cons e es, C, X, lvl, W, xs, pos, ok, tk, h, he, hn => by
    simp only [chkL] at h
    split at h
    · simp only [Bool.and_eq_true] at h
      obtain ⟨⟨h0, h1⟩, h2⟩ := h
      obtain ⟨n1, n2⟩ := Has.app hn
      rename_i x xs
      cases es with
      | nil =>
        simp only [chkL] at h2
        split at h2
        · exact pw_and1 (soundE e ok tk h1 n1).2
        · cases h2
      | cons e2 es =>
        cases xs with
        | nil => simp only [chkL] at h2; cases h2
        | cons y ys => exact w_and (soundE e ok tk h1 n1).2 (soundWA (.cons e2 es) ok tk h2 rfl n2)
    · cases h
theorem soundWO : ∀ (es : L) {C : CC} {X : Cx} {lvl : Nat} {W : WX} {xs : List Expr} {pos : Pos}, CxOk C X lvl → Takes X W → chkL C es xs = true → xs.isEmpty = false → Has X lvl (ndL es) → XW X W (.BoolOp .Or xs pos) (evOr es)
  | .nil, C, X, lvl, W, xs, pos, ok, tk, h, he, hn => by
    simp only [chkL] at h
    split at h
    · cases he
    · cases h
  | .cons e es, C, X, lvl, W, xs, pos, ok, tk, h, he, hn => by
    simp only [chkL] at h
    split at h
    · simp only [Bool.and_eq_true] at h
      obtain ⟨⟨h0, h1⟩, h2⟩ := h
      obtain ⟨n1, n2⟩ := Has.app hn
      rename_i x xs
      cases es with
      | nil =>
        simp only [chkL] at h2
        split at h2
        · exact pw_or1 (soundE e ok tk h1 n1).2
        · cases h2
      | cons e2 es =>
        cases xs with
        | nil => simp only [chkL] at h2; cases h2
        | cons y ys => exact w_or (soundE e ok tk h1 n1).2 (soundWO (.cons e2 es) ok tk h2 rfl n2)
    · cases h
theorem soundO : ∀ (o : O) {C : CC} {X : Cx} {lvl : Nat} {W : WX} {x : Option Expr}, CxOk C X lvl → Takes X W → chkO C o x = true → Has X lvl (ndO o) → XO X W x (evO o)
  | .none, C, X, lvl, W, x, ok, tk, h, hn => by
    simp only [chkO] at h
    split at h
    · exact o_none
    · cases h
  | .some e, C, X, lvl, W, x, ok, tk, h, hn => by
    simp only [chkO] at h
    split at h
    · exact o_some (soundE e ok tk h hn).1
    · cases h
theorem soundC : ∀ (o : O) {C : CC} {X : Cx} {lvl : Nat} {xs : List Expr}, CxOk C X lvl → chkC C o xs = true → Has X lvl (ndO o) → PTs X xs (tQ X.K X.mg (evC o) W0)
  | .none, C, X, lvl, xs, ok, h, hn => by
    simp only [chkC] at h
    split at h
    · exact c_none
    · cases h
  | .some e, C, X, lvl, xs, ok, h, hn => by
    simp only [chkC] at h
    split at h
    · exact c_some (soundE e ok takes0 h hn).2
    · cases h
theorem soundI : ∀ (i : I) {C : CC} {X : Cx} {lvl : Nat} {W : WX} {tg x : Expr}, CxOk C X lvl → Takes X W → chkI C tg i x = true → Has X lvl (ndI i) → XI X W tg x (evI i)
  | .seq e, C, X, lvl, W, tg, x, ok, tk, h, hn => by
    simp only [chkI] at h
    exact i_seq (soundE e ok tk h hn).1
  | .rng1 a, C, X, lvl, W, tg, x, ok, tk, h, hn => by
    simp only [chkI] at h
    split at h
    · simp only [Bool.and_eq_true, decide_eq_true_eq] at h
      obtain ⟨⟨⟨rfl, h1⟩, h2⟩, h3⟩ := h
      obtain ⟨n1, n2⟩ := Has.cons hn
      exact i_rng1 (ok.gl h1).1 n1 (soundE a ok tk h3 n2).1 (by rw [star_cons h2]; rfl)
    · cases h
  | .rng2 a b, C, X, lvl, W, tg, x, ok, tk, h, hn => by
    simp only [chkI] at h
    split at h
    · simp only [Bool.and_eq_true, decide_eq_true_eq] at h
      obtain ⟨⟨⟨⟨⟨rfl, h1⟩, h2⟩, h3⟩, h4⟩, h5⟩ := h
      obtain ⟨n1, n2⟩ := Has.cons hn
      obtain ⟨n2, n3⟩ := Has.app n2
      exact i_rng2 (ok.gl h1).1 n1 (soundE a ok tk h4 n2).1 (soundE b ok tk h5 n3).1 (by rw [star_cons h2, star_cons h3]; rfl) (by rw [star_cons h3]; rfl)
    · cases h
  | .enum a, C, X, lvl, W, tg, x, ok, tk, h, hn => by
    simp only [chkI] at h
    split at h
    · simp only [Bool.and_eq_true, decide_eq_true_eq] at h
      obtain ⟨⟨⟨⟨rfl, h0⟩, h1⟩, h2⟩, h3⟩ := h
      obtain ⟨n1, n2⟩ := Has.cons hn
      cases tg with
      | Tuple => exact i_enum (ok.gl h1).1 n1 (soundE a ok tk h3 n2).1 (by rw [star_cons h2]; rfl)
      | _ => cases h0
    · cases h
  | .zip a b, C, X, lvl, W, tg, x, ok, tk, h, hn => by
    simp only [chkI] at h
    split at h
    · simp only [Bool.and_eq_true, decide_eq_true_eq] at h
      obtain ⟨⟨⟨⟨⟨⟨rfl, h0⟩, h1⟩, h2⟩, h3⟩, h4⟩, h5⟩ := h
      obtain ⟨n1, n2⟩ := Has.cons hn
      obtain ⟨n2, n3⟩ := Has.app n2
      cases tg with
      | Tuple => exact i_zip (ok.gl h1).1 n1 (soundE a ok tk h4 n2).1 (soundE b ok tk h5 n3).1 (star_cons h2) (by rw [star_cons h3]; rfl)
      | _ => cases h0
    · cases h
  | .rev a, C, X, lvl, W, tg, x, ok, tk, h, hn => by
    simp only [chkI] at h
    split at h
    · simp only [Bool.and_eq_true, decide_eq_true_eq] at h
      obtain ⟨⟨⟨rfl, h1⟩, h2⟩, h3⟩ := h
      obtain ⟨n1, n2⟩ := Has.cons hn
      exact i_rev (ok.gl h1).1 n1 (soundE a ok tk h3 n2).1 (by rw [star_cons h2]; rfl)
    · cases h
end
end PX

/-! PX19: the check is sound: statements, defs. -/
namespace PX
open PySem L2
def noTgt : Expr → Expr → Bool
  | .Name .., _ => true
  | .Tuple .., x => !isTup x
  | _, _ => false
theorem noTgt_is {tg x : Expr} {env : PySem.Env} (h : noTgt tg x = true) : swappedStores [tg] x env = pure none := by
  cases tg with
  | Name => cases x <;> rfl
  | Tuple => cases x <;> first | rfl | cases h
  | _ => cases h
theorem tgt_each {t : T} {C : CC} {tg : Expr} {env : PySem.Env} (h : chkT C t tg = true) : (assignEach [tg] env).map (·.2) = [assign tg env] := by
  unfold chkT at h
  split at h
  · rfl
  · rfl
  · cases h
/-- a comprehension's store that is exchanged -/
def swLc (C : CC) (y : Str) (py pos : Pos) (scope : Scope) : Bool := decide (C.sc.names.lookup y = some .local) && (py.line == pos.line) && !(scope.names.any fun (n, k) => n == y && (k == .local || k == .cell))
theorem swLc_not {elt : Expr} {gs : List Comprehension} {scope : Scope} {pos py : Pos} {y : Str} {l : Nat} {env : PySem.Env} {C : CC} (hk : env.scope.kind = .function) (hs : env.scope = C.sc) (h : swLc C y py pos scope = false) : swapsWith (.ListComp elt gs scope pos) (some (.Name y py)) l env = pure false := by
  have hb : env.blockKind = .function := by unfold Env.blockKind; rw [hk]; rfl
  unfold swLc at h
  unfold swapsWith Env.kindOf
  dsimp only
  rw [hb, hs]
  have e0 : (ScopeKind.function == ScopeKind.function) = true := by decide
  rw [e0, Bool.true_and]
  have e1 : (C.sc.names.lookup y == some NameKind.local) = decide (C.sc.names.lookup y = some .local) := by
    by_cases q : C.sc.names.lookup y = some .local
    · rw [q]; decide
    · rw [decide_eq_false q]; simpa using q
  rw [e1]
  show pure _ = pure _
  congr 1
theorem noComp_sole {e tg : Expr} {l : Nat} {env : PySem.Env} (h : noComp e = true) : swapsWithSole [tg] e l env = pure false := by
  cases e <;> first | rfl | cases h
def lcOk : Expr → Bool
  | .ListComp .. => true
  | v => noComp v
mutual
def chkS (C : CC) : S → Stmt → Bool
  | .asg t e, x => match x with
    | .Assign [tg] v _ => chkT C t tg && chkE C e v && lcOk v && (match tg, v with
      | .Tuple ts _ _, .Tuple vs _ _ => plainL vs && decide (swC ts vs C.sc = none) && (!vs.all (constantsAlone 8) || vs.all (foldedForSure 8))
      | _, _ => noTgt tg v)
    | _ => false
  | .par2 i j a b, x => match x with
    | .Assign [.Tuple [.Name y p, .Name z q] k r] (.Tuple [u, v] k2 r2) _ => decide (i ≠ j) && decide (C.N[i]? = some y) && decide (C.N[j]? = some z) && decide (C.sc.names.lookup y = some .local) && decide (C.sc.names.lookup z = some .local) && noStar u && noStar v &&
        chkE C a u && chkE C b v && decide (swC [.Name y p, .Name z q] [u, v] C.sc = some [y, z]) && (!([u, v].all (constantsAlone 8)) || [u, v].all (foldedForSure 8))
    | _ => false
  | .par3 i j l a b c, x => match x with
    | .Assign [.Tuple [.Name y p, .Name z q, .Name t o] k r] (.Tuple [u, v, g] k2 r2) _ => decide (i ≠ j) && decide (i ≠ l) && decide (j ≠ l) && decide (C.N[i]? = some y) && decide (C.N[j]? = some z) && decide (C.N[l]? = some t) && decide (C.sc.names.lookup y = some .local) && decide (C.sc.names.lookup z = some .local) && decide (C.sc.names.lookup t = some .local) && noStar u && noStar v && noStar g &&
        chkE C a u && chkE C b v && chkE C c g && decide (swC [.Name y p, .Name z q, .Name t o] [u, v, g] C.sc = some [y, z, t]) && (!([u, v, g].all (constantsAlone 8)) || [u, v, g].all (foldedForSure 8))
    | _ => false
  | .aug i o e, x => match x with
    | .AugAssign (.Name y _) op v _ => (decide (o = .add) || decide (o = .sub)) && decide (opOf o = op) && stoB C i y && chkE C e v
    | _ => false
  | .set o i e, x => match x with
    | .Assign [.Subscript l r _] v _ => chkE C o l && chkE C i r && chkE C e v && noComp v && notSlice r
    | _ => false
  | .expr e, x => match x with
    | .Expr v _ => chkE C e v && noComp v
    | _ => false
  | .ret e, x => match x with
    | .Return (some v) _ => chkE C e v
    | _ => false
  | .retN, x => match x with
    | .Return none _ => true
    | _ => false
  | .ite c a b, x => match x with
    | .If t l r _ => chkE C c t && chkB C a l && chkB C b r
    | _ => false
  | .for_ t it b, x => match x with
    | .For tg v l [] _ => chkI C tg it v && chkT C t tg && notSet v && chkB C b l
    | _ => false
  | .while_ c b, x => match x with
    | .While t l [] _ => chkE C c t && chkB C b l
    | _ => false
  | .brk, x => match x with
    | .Break _ => true
    | _ => false
  | .cont, x => match x with
    | .Continue _ => true
    | _ => false
  | .pass, x => match x with
    | .Pass _ => true
    | _ => false
  | .raise c _, x => match x with
    | .Raise (some (.Call (.Name n _) [.Constant (.str _) _ _] [] _)) none _ => decide (c = n) && glB C n
    | _ => false
  | .try_ b cs hs, x => match x with
    | .Try l hds [] [] _ => chkB C b l && !cs.isEmpty && chkH C hds hs && !hds.isEmpty && hs.all (fun q => strB q.2.2.2)
    | _ => false
def chkB (C : CC) : B → List Stmt → Bool
  | .nil, xs => match xs with
    | [] => true
    | _ => false
  | .cons s r, xs => match xs with
    | x :: xs => chkS C s x && chkB C r xs
    | _ => false
def chkH (C : CC) : List ExceptHandler → List (Str × List Str × Nat × Str) → Bool
  | [], hs => match hs with
    | [] => true
    | _ => false
  | h :: r, hs => match h, hs with
    | .ExceptHandler (some (.Name x _)) none [.Assign [.Name y _] (.Constant (.str m) _ _) _] _, (n, _, i, m') :: hs => decide (n = x) && decide (m = m') && glB C x && stoB C i y && chkH C r hs
    | _, _ => false
end
mutual
def ndS : S → List Nd
  | .asg _ e => ndE e
  | .par2 _ _ a b => ndE a ++ ndE b
  | .par3 _ _ _ a b c => ndE a ++ (ndE b ++ ndE c)
  | .aug _ _ e => ndE e
  | .set o i e => ndE o ++ (ndE i ++ ndE e)
  | .expr e => ndE e
  | .ret e => ndE e
  | .retN => []
  | .ite c a b => ndE c ++ (ndB a ++ ndB b)
  | .for_ _ it b => ndI it ++ ndB b
  | .while_ c b => ndE c ++ ndB b
  | .brk => [] | .cont => [] | .pass => []
  | .raise c _ => [.cl c]
  | .try_ b cs hs => .hd cs hs :: ndB b
def ndB : B → List Nd
  | .nil => []
  | .cons s r => ndS s ++ ndB r
end
structure SxOk (C : CC) (X : Cx) (lvl : Nat) : Prop where
  cx : CxOk C X lvl
  kd : C.sc.kind = .function
  st : X.stack = X.env :: X.outer
  fr : X.env.frame = some X.env.locals
  po : PassesOwn (model X.prog X.w) X.A X.env X.xe
section
variable {C : CC} {X : Cx} {lvl : Nat} {W : WX}
theorem SxOk.tr (ok : SxOk C X lvl) {pn : List (Addr × Obj)} {xe : Value → Shared → Prop} (po : PassesOwn (model X.prog X.w) X.A X.env xe) : SxOk C (X.tr pn xe) lvl :=
  ⟨⟨ok.cx.calm, ok.cx.N, ok.cx.nd, ok.cx.sc, ok.cx.fn, ok.cx.room⟩, ok.kd, ok.st, ok.fr, po⟩
theorem chkH_is (ok : CxOk C X lvl) : ∀ {hds : List ExceptHandler} {hs : List (Str × List Str × Nat × Str)}, chkH C hds hs = true → Hd X hds hs
  | [], hs, h => by
    simp only [chkH] at h
    split at h
    · exact .nil
    · cases h
  | hd :: hds, hs, h => by
    simp only [chkH] at h
    split at h
    · simp only [Bool.and_eq_true, decide_eq_true_eq] at h
      obtain ⟨⟨⟨⟨rfl, rfl⟩, h1⟩, h2⟩, h3⟩ := h
      exact .cons (ok.gl h1).1 (ok.gl h1).2 (ok.sto h2) (chkH_is ok h3)
    · cases h
theorem gD_name {K : PySem.W.Frag} {i : Nat} {x : V} {σ : St} {H : Hp} {Q : St → Hp → Prop} (h : gD K (.name i) x σ H Q) : gName i x σ H Q := by
  obtain ⟨bar, io, ρ, S, d, ρ', wd, r, e, q⟩ := h
  have e : some (ρ.set i (some d)) = some ρ' := e
  cases e
  exact q _ ⟨wd.env.set r i, wd.st⟩ fun vs hv => wipe_set (hv i (by simp [T.slots]))
/-- a value into a target -/
theorem asg_sound {t : T} {e : E} {tg v : Expr} {pos : Pos} (ok : SxOk C X lvl) (tk : Takes X W) (h1 : chkT C t tg = true) (h2 : chkE C e v = true) (h3 : lcOk v = true) (h4 : swappedStores [tg] v X.env = pure none) (hn : Has X lvl (ndE e)) : XS X W (.Assign [tg] v pos) (fun ρ S => (evE e ρ S).then ρ fun d S => match asgT t d ρ with
      | some ρ1 => .fl .next ρ1 S
      | none => .stuck) := by
  have hE := (soundE e ok.cx tk h2 hn).1
  have hG : PG X tg (gD X.K t) := chkT_is ok.cx h1
  have plain : swapsWithSole [tg] v pos.line X.env = pure false → XS X W (.Assign [tg] v pos) (fun ρ S => (evE e ρ S).then ρ fun d S => match asgT t d ρ with
      | some ρ1 => .fl .next ρ1 S
      | none => .stuck) := fun hs => s_asg hE hG hs h4 (tgt_each h1)
  cases v with
  | ListComp elt gs scope pos' =>
    cases tg with
    | Name y py =>
      cases t with
      | tup => cases h1
      | name i =>
        have h1' : stoB C i y = true := h1
        by_cases hsw : swLc C y py pos' scope = true
        · have hsw2 := hsw
          unfold swLc at hsw2
          simp only [Bool.and_eq_true, decide_eq_true_eq, Bool.not_eq_true'] at hsw2
          obtain ⟨⟨hl, hln⟩, hno⟩ := hsw2
          have hl' : X.env.scope.names.lookup y = some .local := by rw [ok.cx.sc]; exact hl
          have sw : swapsWith (.ListComp elt gs scope pos') (some (.Name y py)) pos.line X.env = pure true := sw_true (by rw [ok.cx.sc]; exact ok.kd) hl' hln hno
          have hi : X.N[i]? = some y := (ok.cx.sto h1').1
          have nd := ok.cx.xnd
          cases e with
          | lc vs mu t it c e =>
            simp only [chkE] at h2
            split at h2
            · simp only [Bool.and_eq_true, decide_eq_true_eq, List.all_eq_true] at h2
              rename_i heq
              cases heq
              obtain ⟨⟨⟨⟨⟨⟨⟨rfl, g1⟩, g2⟩, g3⟩, g4⟩, g5⟩, g6⟩, g7⟩ := h2
              obtain ⟨n1, n2⟩ := Has.app hn
              obtain ⟨n2, n3⟩ := Has.app n2
              refine (ps_setLc (te := tE X.K X.mg (evE e) W0) (g := gD X.K t) (tt := tQ X.K X.mg (evC c) W0) (own := ownOf C vs) ok.cx.calm nd hi hl' sw (soundI it ok.cx tk g4 n1) (blkOk_by (by rw [ok.cx.N, ok.cx.sc]; exact g1)) (fun s H A cl fp => chkT_is (ok.cx.blk _ s H A cl fp) g5)
                (fun s H A cl fp => soundC c (ok.cx.blk _ s H A cl fp) g6 n2) (fun s H A cl fp => (soundE e (ok.cx.blk _ s H A cl fp) takes0 g7 n3).1) (notSet_fold g3)).imp fun E σ H ⟨bar, io, ρ, S, wd, h⟩ => ?_
              have hr := asg_read (W := W) (ma := evE (.lc vs mu t it c e)) (t := .name i) wd h
              obtain ⟨b1, b2, b3, b4, b5, b6⟩ := hr
              refine lc_read (mu := mu) (by rw [ownOf_snd]; exact g2) ⟨b1, b2, b3, b4, b5, ?_⟩
              rw [ownOf_snd]
              exact Aft.imp b6 fun x H1 q => gD_name q
            · cases h2
          | lc2 vs vs1 mu t it c t1 it1 c1 e =>
            simp only [chkE] at h2
            split at h2
            · simp only [Bool.and_eq_true, decide_eq_true_eq, List.all_eq_true] at h2
              rename_i heq
              cases heq
              obtain ⟨⟨⟨⟨⟨⟨⟨⟨⟨⟨⟨⟨⟨⟨rfl, rfl⟩, g1⟩, g2⟩, g2b⟩, g2c⟩, g3⟩, g3b⟩, g4⟩, g5⟩, g6⟩, g7⟩, g8⟩, g9⟩, g10⟩ := h2
              obtain ⟨n1, n2⟩ := Has.app hn
              obtain ⟨n2, n3⟩ := Has.app n2
              obtain ⟨n3, n4⟩ := Has.app n3
              obtain ⟨n4, n5⟩ := Has.app n4
              refine (ps_setLc2 (te := tE X.K X.mg (evE e) W0) (g := gD X.K t) (g1 := gD X.K t1) (tt := tQ X.K X.mg (evC c) W0) (tt1 := tQ X.K X.mg (evC c1) W0) (wi1 := iD X.K X.mg (evI it1) W0) (vs1 := vs1) (own := ownOf C vs) ok.cx.calm nd hi hl' sw (soundI it ok.cx tk g4 n1) (blkOk_by (by rw [ok.cx.N, ok.cx.sc]; exact g1)) (by rw [ownOf_snd]; exact g2c) (fun s H A cl fp => chkT_is (ok.cx.blk _ s H A cl fp) g5)
                (fun s H A cl fp => soundC c (ok.cx.blk _ s H A cl fp) g6 n2) (fun s H A cl fp => soundI it1 (ok.cx.blk _ s H A cl fp) takes0 g7 n3) (fun s H A cl fp => chkT_is (ok.cx.blk _ s H A cl fp) g8)
                (fun s H A cl fp => soundC c1 (ok.cx.blk _ s H A cl fp) g9 n4) (fun s H A cl fp => (soundE e (ok.cx.blk _ s H A cl fp) takes0 g10 n5).1) (notSet_fold g3) (fun env => notSet_fold g3b)).imp fun E σ H ⟨bar, io, ρ, S, wd, h⟩ => ?_
              have hr := asg_read (W := W) (ma := evE (.lc2 vs vs1 mu t it c t1 it1 c1 e)) (t := .name i) wd h
              obtain ⟨b1, b2, b3, b4, b5, b6⟩ := hr
              refine lc2_read (mu := mu) (by rw [ownOf_snd]; exact g2) g2b ⟨b1, b2, b3, b4, b5, ?_⟩
              rw [ownOf_snd]
              exact Aft.imp b6 fun x H1 q => gD_name q
            · cases h2
          | _ => simp only [chkE] at h2; cases h2
        · exact plain (swLc_not (l := pos.line) (by rw [ok.cx.sc]; exact ok.kd) ok.cx.sc (by simpa using hsw))
    | Tuple => exact plain rfl
    | _ => cases t <;> cases h1
  | SetComp => cases h3
  | DictComp => cases h3
  | _ => exact plain (noComp_sole rfl)
theorem all_or {vs : List Expr} (h : (!vs.all (constantsAlone 8) || vs.all (foldedForSure 8)) = true) : vs.all (constantsAlone 8) = false ∨ vs.all (foldedForSure 8) = true := by
  rw [Bool.or_eq_true, Bool.not_eq_true'] at h
  exact h
mutual
theorem soundS : ∀ (s : S) {C : CC} {X : Cx} {lvl : Nat} {W : WX} {x : Stmt} (n : Nat), SxOk C X lvl → Takes X W → chkS C s x = true → Has X lvl (ndS s) → XS X W x (evS n s)
  | .asg t e, C, X, lvl, W, x, n, ok, tk, h, hn => by
    simp only [chkS] at h
    split at h
    · simp only [Bool.and_eq_true] at h
      obtain ⟨⟨⟨h1, h2⟩, h3⟩, h4⟩ := h
      refine asg_sound ok tk h1 h2 h3 ?_ hn
      split at h4
      · simp only [Bool.and_eq_true, decide_eq_true_eq] at h4
        obtain ⟨⟨h4, h5⟩, h6⟩ := h4
        rw [swC_is (by rw [ok.cx.sc]; exact ok.kd) h4 (all_or h6), ok.cx.sc, h5]
      · exact noTgt_is h4
    · cases h
  | .par2 i j a b, C, X, lvl, W, x, n, ok, tk, h, hn => by
    simp only [chkS] at h
    split at h
    · simp only [Bool.and_eq_true, decide_eq_true_eq] at h
      obtain ⟨⟨⟨⟨⟨⟨⟨⟨⟨⟨h1, h2⟩, h3⟩, h4⟩, h5⟩, h6⟩, h7⟩, h8⟩, h9⟩, h10⟩, h11⟩ := h
      obtain ⟨n1, n2⟩ := Has.app hn
      refine s_par2 ok.cx.calm ok.cx.xnd (by rw [ok.cx.N]; exact h2) (by rw [ok.cx.N]; exact h3) h1 (by rw [ok.cx.sc]; exact h4) (by rw [ok.cx.sc]; exact h5) (soundE a ok.cx tk h8 n1).1 (soundE b ok.cx tk h9 n2).1 (star_cons h6) (by rw [star_cons h7]; rfl) ?_
      rw [swC_is (by rw [ok.cx.sc]; exact ok.kd) (by simp [plainL, h6, h7]) (all_or h11), ok.cx.sc, h10]
    · cases h
  | .par3 i j l a b c, C, X, lvl, W, x, n, ok, tk, h, hn => by
    simp only [chkS] at h
    split at h
    · simp only [Bool.and_eq_true, decide_eq_true_eq] at h
      obtain ⟨⟨⟨⟨⟨⟨⟨⟨⟨⟨⟨⟨⟨⟨⟨⟨h1, h2⟩, h3⟩, h4⟩, h5⟩, h6⟩, h7⟩, h8⟩, h9⟩, h10⟩, h11⟩, h12⟩, h13⟩, h14⟩, h15⟩, h16⟩, h17⟩ := h
      obtain ⟨n1, n2⟩ := Has.app hn
      obtain ⟨n2, n3⟩ := Has.app n2
      refine s_par3 ok.cx.calm ok.cx.xnd (by rw [ok.cx.N]; exact h4) (by rw [ok.cx.N]; exact h5) (by rw [ok.cx.N]; exact h6) h1 h2 h3 (by rw [ok.cx.sc]; exact h7) (by rw [ok.cx.sc]; exact h8) (by rw [ok.cx.sc]; exact h9)
        (soundE a ok.cx tk h13 n1).1 (soundE b ok.cx tk h14 n2).1 (soundE c ok.cx tk h15 n3).1 (star_cons h10) (star_cons h11) (by rw [star_cons h12]; rfl) ?_
      rw [swC_is (by rw [ok.cx.sc]; exact ok.kd) (by simp [plainL, h10, h11, h12]) (all_or h17), ok.cx.sc, h16]
    · cases h
  | .aug i o e, C, X, lvl, W, x, n, ok, tk, h, hn => by
    simp only [chkS] at h
    split at h
    · simp only [Bool.and_eq_true, Bool.or_eq_true, decide_eq_true_eq] at h
      obtain ⟨⟨⟨h1, rfl⟩, h2⟩, h3⟩ := h
      exact s_aug o h1 ok.cx.xnd (ok.cx.sto h2) (soundE e ok.cx tk h3 hn).1
    · cases h
  | .set o i e, C, X, lvl, W, x, n, ok, tk, h, hn => by
    simp only [chkS] at h
    split at h
    · simp only [Bool.and_eq_true] at h
      obtain ⟨⟨⟨⟨h1, h2⟩, h3⟩, h4⟩, h5⟩ := h
      obtain ⟨n1, n2⟩ := Has.app hn
      obtain ⟨n2, n3⟩ := Has.app n2
      exact s_set ok.cx.un1 (soundE o ok.cx tk h1 n1).1 (soundE i ok.cx tk h2 n2).1 (soundE e ok.cx tk h3 n3).1 (noComp_sole h4) (notSlice_asg h5)
    · cases h
  | .expr e, C, X, lvl, W, x, n, ok, tk, h, hn => by
    simp only [chkS] at h
    split at h
    · simp only [Bool.and_eq_true] at h
      exact s_expr (soundE e ok.cx tk h.1 hn).1 (noComp_sw h.2)
    · cases h
  | .ret e, C, X, lvl, W, x, n, ok, tk, h, hn => by
    simp only [chkS] at h
    split at h
    · exact s_ret (soundE e ok.cx tk h hn).1
    · cases h
  | .retN, C, X, lvl, W, x, n, ok, tk, h, hn => by
    simp only [chkS] at h
    split at h
    · exact s_retN
    · cases h
  | .ite c a b, C, X, lvl, W, x, n, ok, tk, h, hn => by
    simp only [chkS] at h
    split at h
    · simp only [Bool.and_eq_true] at h
      obtain ⟨⟨h1, h2⟩, h3⟩ := h
      obtain ⟨n1, n2⟩ := Has.app hn
      obtain ⟨n2, n3⟩ := Has.app n2
      exact s_if (soundE c ok.cx tk h1 n1).2 (soundB a n ok tk h2 n2) (soundB b n ok tk h3 n3)
    · cases h
  | .for_ t it b, C, X, lvl, W, x, n, ok, tk, h, hn => by
    simp only [chkS] at h
    split at h
    · simp only [Bool.and_eq_true] at h
      obtain ⟨⟨⟨h1, h2⟩, h3⟩, h4⟩ := h
      obtain ⟨n1, n2⟩ := Has.app hn
      exact s_for ok.po ok.cx.calm (soundI it ok.cx tk h1 n1) (chkT_is ok.cx h2) (soundB b n ok tk h4 n2) (notSet_fold h3)
    · cases h
  | .while_ c b, C, X, lvl, W, x, n, ok, tk, h, hn => by
    simp only [chkS] at h
    split at h
    · simp only [Bool.and_eq_true] at h
      obtain ⟨h1, h2⟩ := h
      obtain ⟨n1, n2⟩ := Has.app hn
      exact s_while ok.po (soundE c ok.cx tk h1 n1).2 (soundB b n ok tk h2 n2) n
    · cases h
  | .brk, C, X, lvl, W, x, n, ok, tk, h, hn => by
    simp only [chkS] at h
    split at h
    · exact s_brk
    · cases h
  | .cont, C, X, lvl, W, x, n, ok, tk, h, hn => by
    simp only [chkS] at h
    split at h
    · exact s_cont
    · cases h
  | .pass, C, X, lvl, W, x, n, ok, tk, h, hn => by
    simp only [chkS] at h
    split at h
    · exact s_pass
    · cases h
  | .raise c m, C, X, lvl, W, x, n, ok, tk, h, hn => by
    simp only [chkS] at h
    split at h
    · simp only [Bool.and_eq_true, decide_eq_true_eq] at h
      obtain ⟨rfl, h1⟩ := h
      exact s_raise ok.cx.calm tk (hn (.cl c) List.mem_cons_self) (ok.cx.gl h1).1 (ok.cx.gl h1).2
    · cases h
  | .try_ b cs hs, C, X, lvl, W, x, n, ok, tk, h, hn => by
    simp only [chkS] at h
    split at h
    · simp only [Bool.and_eq_true, Bool.not_eq_true', List.all_eq_true] at h
      obtain ⟨⟨⟨⟨h1, h2⟩, h3⟩, h4⟩, h5⟩ := h
      obtain ⟨n1, n2⟩ := Has.cons hn
      have hcs : ∃ c, c ∈ cs := by
        cases cs with
        | nil => cases h2
        | cons c cs => exact ⟨c, List.mem_cons_self⟩
      have hz : ∀ q ∈ hs, q.2.2.2.length ≤ sizeLine ∧ PyData.strOk q.2.2.2 = true := fun q hq => by
        have := h5 q hq
        unfold strB at this
        simp only [Bool.and_eq_true, decide_eq_true_eq] at this
        exact this
      have hH := chkH_is ok.cx h3
      rename_i hds _
      cases hds with
      | nil => cases h4
      | cons h₀ hds => exact s_try ok.cx.xnd ok.st ok.fr tk (fun W pn xe tk po => soundB b n (ok.tr po) tk h1 n2) hcs hH n1 hz
    · cases h
theorem soundB : ∀ (b : B) {C : CC} {X : Cx} {lvl : Nat} {W : WX} {xs : List Stmt} (n : Nat), SxOk C X lvl → Takes X W → chkB C b xs = true → Has X lvl (ndB b) → XB X W xs (evB n b)
  | .nil, C, X, lvl, W, xs, n, ok, tk, h, hn => by
    simp only [chkB] at h
    split at h
    · exact s_nil
    · cases h
  | .cons s r, C, X, lvl, W, xs, n, ok, tk, h, hn => by
    simp only [chkB] at h
    split at h
    · simp only [Bool.and_eq_true] at h
      obtain ⟨n1, n2⟩ := Has.app hn
      exact s_cons (soundS s n ok tk h.1 n1) (soundB r n ok tk h.2 n2)
    · cases h
end
end
end PX

/-! PX20: a def by its written form. -/
namespace PX
open PySem L2
def HasP (P : Program) (w : World) (K : PySem.W.Frag) (mg : Str → Option Value) (base : Heap) (lvl : Nat) (ns : List Nd) : Prop := ∀ n ∈ ns, n.okP P w K mg base lvl
theorem start_env {K : PySem.W.Frag} {H : Hp} {bar io : List Addr} {vs : List V} {ds : List D} (r : Reps K H bar io vs ds) (m : Nat) : EnvRep K H bar io (vs.map some ++ List.replicate (m - vs.length) none) (ds.map some ++ List.replicate (m - ds.length) none) := by
  have hl := r.length
  refine ⟨by simp [hl], fun i d e => ?_⟩
  by_cases h : i < ds.length
  · rw [List.getElem?_append_left (by simpa using h)] at e
    rw [List.getElem?_map] at e
    cases ed : ds[i]? with
    | none => rw [ed] at e; cases e
    | some d' =>
      rw [ed] at e
      cases e
      obtain ⟨v, ev, rv⟩ := r.get ed
      refine ⟨v, ?_, rv⟩
      rw [List.getElem?_append_left (by simp; omega), List.getElem?_map, ev]
      rfl
  · rw [List.getElem?_append_right (by simpa using h)] at e
    rw [List.getElem?_replicate] at e
    split at e <;> cases e
theorem fn_ok {P : Program} {w : World} {K : PySem.W.Frag} {mg : Str → Option Value} {base : Heap} {lvl : Nat} {f : FnI} {st : Stmt} {fa : Addr} {fd : FuncData} {N : List Str} (F : Fun K f.name f.name st fa fd) (SC : FnScope N f.ps (defScope st)) (b : B)
    (hc : chkB ⟨N, defScope st, fun _ => true⟩ b (defBody st) = true) (hn : HasP P w K mg base lvl (ndB b)) (hsem : ∀ S ds, ds.length = f.ps.length → f.sem S ds ≠ .stuck → ∃ n, runB n N.length b S ds = f.sem S ds) :
    FnOk P w K mg base (L2.CX P w) (lvl + 1) fa fd f.ps (spFn K mg f) := by
  refine F.okX SC (fun vs H Q E h => h.1) (fun cdv A outer s H vs Q E hr h => ?_)
  obtain ⟨hl, bar, io, S, ds, st0, r, h⟩ := h
  have hne : f.sem S ds ≠ .stuck := fun e => by rw [e] at h; exact h
  obtain ⟨n, en⟩ := hsem S ds (by rw [← r.length]; exact hl) hne
  refine ⟨_, soundB (C := ⟨N, defScope st, fun _ => true⟩) (lvl := lvl) (W := fun cls d _ H => E cls d H) b n ⟨⟨rfl, rfl, SC.nd, rfl, rfl, hr⟩, SC.kind, rfl, rfl, passes_of rfl⟩ (takes_of rfl rfl rfl rfl) hc hn, ?_⟩
  have wd : Wd K H bar io (start N vs) (ds.map some ++ List.replicate (N.length - ds.length) none) S := ⟨start_env r N.length, st0⟩
  refine ⟨bar, io, _, S, wd, ?_⟩
  rw [← en] at h
  unfold runB at h
  cases e : evB n b (ds.map some ++ List.replicate (N.length - ds.length) none) S with
  | fl fl ρ' S' =>
    rw [e] at h
    cases fl with
    | next => exact fun σ' H' bar' io' x w => h .non H' bar' io' x w.st .non
    | ret d => exact fun v H' bar' io' x st r => h v H' bar' io' x st r
    | brk => exact h.elim
    | cont => exact h.elim
  | exc c ρ' S' =>
    rw [e] at h
    exact fun σ' H' bar' io' C x w ec => h H' bar' io' C x w.st ec
  | stuck => rw [e] at h; exact h.elim
/-- what the caller has of a def -/
theorem fn_good {P : Program} {w : World} {K : PySem.W.Frag} {mg : Str → Option Value} {base : Heap} {lvl : Nat} {f : FnI} {st : Stmt} {fa : Addr} {fd : FuncData} (F : Fun K f.name f.name st fa fd) (ok : FnOk P w K mg base (L2.CX P w) lvl fa fd f.ps (spFn K mg f)) (hm : mg f.name = some (.ref fa))
    (hb : Binds K fd f.ps []) (hk : ∀ q ∈ f.kps, ∀ (s : Shared) (us ws : List Value), us.length = q.1 → ws.length = q.2.length → BindsTo s fd ⟨us, q.2.zip ws⟩ (f.ps.zip (argG Value.none f.ps q.2 us ws))) : FnGood P w K mg base lvl f :=
  ⟨fa, fd, ok, hm, F.kp, hb, hk⟩
end PX

/-! PX21: for the end. -/
namespace PX
open PySem L2
mutual
/-- how much there is of it -/
def D.sz : D → Nat
  | .tup xs => D.szs xs + 1
  | .lst xs => D.szs xs + 1
  | .scr xs => D.szs xs + 1
  | .kup xs => D.szs xs + 1
  | _ => 1
def D.szs : List D → Nat
  | [] => 0
  | x :: xs => D.sz x + D.szs xs
end
def fuelOf (ds : List D) : Nat := D.szs ds + 2
theorem HasP.nil {P : Program} {w : World} {K : PySem.W.Frag} {mg : Str → Option Value} {base : Heap} {lvl : Nat} : HasP P w K mg base lvl [] := fun n hn => by cases hn
theorem HasP.cons {P : Program} {w : World} {K : PySem.W.Frag} {mg : Str → Option Value} {base : Heap} {lvl : Nat} {n : Nd} {ns : List Nd} (h : n.okP P w K mg base lvl) (t : HasP P w K mg base lvl ns) : HasP P w K mg base lvl (n :: ns) := fun m hm => by
  rcases List.mem_cons.mp hm with e | hm
  · rw [e]; exact h
  · exact t m hm
def KpsOk (fd : FuncData) (ps : List Str) (l : List (Nat × List Str)) : Prop := ∀ q ∈ l, ∀ (s : Shared) (us ws : List Value), us.length = q.1 → ws.length = q.2.length → BindsTo s fd ⟨us, q.2.zip ws⟩ (ps.zip (argG Value.none ps q.2 us ws))
theorem kps_nil {fd : FuncData} {ps : List Str} : KpsOk fd ps [] := fun q hq => by cases hq
theorem kps_cons {fd : FuncData} {ps : List Str} {n : Nat} {ks : List Str} {l : List (Nat × List Str)} (h : ∀ (s : Shared) (us ws : List Value), us.length = n → ws.length = ks.length → BindsTo s fd ⟨us, ks.zip ws⟩ (ps.zip (argG Value.none ps ks us ws))) (t : KpsOk fd ps l) : KpsOk fd ps ((n, ks) :: l) := fun q hq => by
  rcases List.mem_cons.mp hq with e | hq
  · subst e; exact h
  · exact t q hq
def ExsOk (K : PySem.W.Frag) (mg : Str → Option Value) (cs : List Str) (x : Str) (l : List Str) : Prop := ∀ c ∈ cs, ExmGood K mg c x (decide (c ∈ l))
theorem exs_nil {K : PySem.W.Frag} {mg : Str → Option Value} {x : Str} {l : List Str} : ExsOk K mg [] x l := fun c hc => by cases hc
theorem exs_cons {K : PySem.W.Frag} {mg : Str → Option Value} {x c : Str} {l cs : List Str} (h : ExmGood K mg c x (decide (c ∈ l))) (t : ExsOk K mg cs x l) : ExsOk K mg (c :: cs) x l := fun d hd => by
  rcases List.mem_cons.mp hd with e | hd
  · rw [e]; exact h
  · exact t d hd
theorem hds_nil {K : PySem.W.Frag} {mg : Str → Option Value} {cs : List Str} : HdsGood K mg cs [] := fun q hq => by cases hq
theorem hds_cons {K : PySem.W.Frag} {mg : Str → Option Value} {cs : List Str} {q : Str × List Str × Nat × Str} {hs : List (Str × List Str × Nat × Str)} (h : ExsOk K mg cs q.1 q.2.1) (t : HdsGood K mg cs hs) : HdsGood K mg cs (q :: hs) := fun r hr => by
  rcases List.mem_cons.mp hr with e | hr
  · rw [e]; exact h
  · exact t r hr
/-- the law's promise -/
def spLaw (K : PySem.W.Frag) : Sp := fun vs H Q _ => ∃ (a : Addr) (ns : List Int), vs = [.ref a] ∧ SqL K H a (ns.map V.int) ∧ Only H ∧ ns.length ≤ 63 ∧ (∀ z ∈ ns, Builtin.Int.intBits z ≤ 1048576) ∧ ∀ H', Q (.bl true) H'
theorem spLaw_mk {K : PySem.W.Frag} {H : Hp} {a : Addr} {ns : List Int} (hl : ns.length ≤ 63) (hb : ∀ z ∈ ns, Builtin.Int.intBits z ≤ 1048576) (hO : Only H) (hS : SqL K H a (ns.map V.int)) : spLaw K [.ref a] H (fun v _ => v = .bl true) fun _ _ _ => False :=
  ⟨a, ns, rfl, hS, hO, hl, hb, fun _ => rfl⟩
theorem cx_none {P : Program} {w : World} {H : Hp} {s s' : Shared} {e : Value} (h : L2.CX P w [] H s (fun _ _ _ => False) e s') : False := by
  obtain ⟨_, _, _, _, _, _, _, _, _, _, _, _, q⟩ := h
  exact q
theorem promise {K : PySem.W.Frag} {mg : Str → Option Value} {f : FnI} (hp : f.ps.length = 1) (law : ∀ ns : List Int, ns.length ≤ 63 → (∀ z ∈ ns, Builtin.Int.intBits z ≤ 1048576) → ∃ S', f.sem [] [.scr (ns.map D.int)] = .ok (.bl true) S')
    {vs : List V} {H : Hp} {Q : VK} {E : XK} (h : spLaw K vs H Q E) : spFn K mg f vs H Q E := by
  obtain ⟨a, ns, rfl, hS, hO, hl, hb, hQ⟩ := h
  obtain ⟨S', e⟩ := law ns hl hb
  have z : (ns.map V.int).length ≤ sizeLine := by rw [List.length_map]; exact Nat.le_trans hl (by decide)
  have r : Rep K H [] [] (.ref a) (.scr (ns.map D.int)) := by
    rcases hS with (hS | ⟨o, hS⟩) | ⟨o, its, n, h1, h2, h3, h4, h5, h6⟩
    · rcases hO a with q | ⟨o, xs, q⟩
      · rw [q] at hS; cases hS
      · rw [q] at hS; cases hS
    · exact .scr hS z Reps.of_ints
    · exact .scrK h1 h2 h3 h4 h5 h6 Reps.of_ints
  refine ⟨hp.symm, [], [], [], [.scr (ns.map D.int)], ⟨rfl, List.nodup_nil, by simp, by simp, by simp⟩, .cons r .nil, ?_⟩
  rw [e]
  intro v H' bar' io' x st rv
  cases rv
  exact hQ H'
theorem exm_of {K : PySem.W.Frag} {C T : Addr} {b : Bool} (h1 : PySem.W.subIn K (.ref T) (.type "BaseException") = some true) (h2 : PySem.W.isClsIn K T = true) (h3 : PySem.W.typeIn K (.ref T) = some (.type "type")) (h4 : PySem.W.subIn K (.ref C) (.ref T) = some b) :
    PySem.W.exmOne K (.ref C) (.ref T) = some b := by
  have h2' : (PySem.W.clsIn K T).isSome = true := h2
  unfold PySem.W.exmOne PySem.W.kitCls
  dsimp only
  rw [h1, h2', h3]
  exact h4
end PX

/-! PX22: reckoning with written forms. -/
namespace PX
open PySem L2
section
variable {ρ : Env} {S : Store}
theorem ev_var {i : Nat} {d : D} (h : ρ[i]? = some (some d)) : evE (.var i) ρ S = .ok d S := by
  show (match ρ[i]? with | some (some d) => R.ok d S | _ => .stuck) = _
  rw [h]
theorem ev_v (i : Nat) : evE (.var i) ρ S = match ρ[i]? with
    | some (some d) => .ok d S
    | _ => .stuck := rfl
@[simp] theorem ev_int (i : Int) : evE (.int i) ρ S = .ok (.int i) S := rfl
@[simp] theorem ev_str (z : Str) : evE (.str z) ρ S = .ok (.str z) S := rfl
@[simp] theorem ev_bl (b : Bool) : evE (.bl b) ρ S = .ok (.bl b) S := rfl
@[simp] theorem ev_non : evE .non ρ S = .ok .non S := rfl
@[simp] theorem ev_glob (x : Str) (d : D) : evE (.glob x d) ρ S = .ok d S := rfl
@[simp] theorem ev_tup (es : L) : evE (.tup es) ρ S = (evL es ρ S).bind fun ds S => .ok (.tup ds) S := rfl
@[simp] theorem ev_lst (es : L) : evE (.lst es) ρ S = (evL es ρ S).bind fun ds S => .ok (.lst ds) S := rfl
@[simp] theorem ev_new (es : L) : evE (.new es) ρ S = (evL es ρ S).bind fun ds S => .ok (.adr S.length) (S ++ [.lst ds]) := rfl
@[simp] theorem ev_dic : evE .dic ρ S = .ok (.adr S.length) (S ++ [.dic []]) := rfl
@[simp] theorem ev_bin (o : BO) (a b : E) : evE (.bin o a b) ρ S = (evE a ρ S).bind fun x S => (evE b ρ S).bind fun y S => binV o S x y := rfl
@[simp] theorem ev_neg (a : E) : evE (.neg a) ρ S = (evE a ρ S).bind fun x S => match x with
    | .int i => .ok (.int (-i)) S
    | _ => .stuck := rfl
@[simp] theorem ev_not (a : E) : evE (.not a) ρ S = (evE a ρ S).bind fun x S => match truthy S x with
    | some b => .ok (.bl (!b)) S
    | none => .stuck := rfl
@[simp] theorem ev_cmp (o : CO) (a b : E) : evE (.cmp o a b) ρ S = (evE a ρ S).bind fun x S => (evE b ρ S).bind fun y S => cmpV o S x y := rfl
@[simp] theorem ev_chain (o o' : CO) (a b c : E) : evE (.chain o o' a b c) ρ S = (evE a ρ S).bind fun x S => (evE b ρ S).bind fun y S => (cmpV o S x y).bind fun z S => match z with
    | .bl true => (evE c ρ S).bind fun w S => cmpV o' S y w
    | .bl false => .ok (.bl false) S
    | _ => .stuck := rfl
@[simp] theorem ev_and (es : L) : evE (.and es) ρ S = evAnd es ρ S := rfl
@[simp] theorem ev_or (es : L) : evE (.or es) ρ S = evOr es ρ S := rfl
@[simp] theorem ev_and1 (e : E) : evAnd (.cons e .nil) ρ S = evE e ρ S := rfl
@[simp] theorem ev_and2 (e e2 : E) (es : L) : evAnd (.cons e (.cons e2 es)) ρ S = (evE e ρ S).bind fun d S => match truthy S d with
      | some true => evAnd (.cons e2 es) ρ S
      | some false => .ok d S
      | none => .stuck := rfl
@[simp] theorem ev_or1 (e : E) : evOr (.cons e .nil) ρ S = evE e ρ S := rfl
@[simp] theorem ev_or2 (e e2 : E) (es : L) : evOr (.cons e (.cons e2 es)) ρ S = (evE e ρ S).bind fun d S => match truthy S d with
      | some true => .ok d S
      | some false => evOr (.cons e2 es) ρ S
      | none => .stuck := rfl
@[simp] theorem ev_ite (c a b : E) : evE (.ite c a b) ρ S = (evE c ρ S).bind fun x S => match truthy S x with
    | some true => evE a ρ S
    | some false => evE b ρ S
    | none => .stuck := rfl
@[simp] theorem ev_ix (a i : E) : evE (.ix a i) ρ S = (evE a ρ S).bind fun x S => (evE i ρ S).bind fun y S => ixV S x y := rfl
@[simp] theorem ev_sl (a : E) (lo hi : O) : evE (.sl a lo hi) ρ S = (evE a ρ S).bind fun x S => (evO lo ρ S).bind fun l S => (evO hi ρ S).bind fun h S => slV S x l h := rfl
@[simp] theorem ev_rev (a : E) : evE (.rev a) ρ S = (evE a ρ S).bind fun x S => backV S x := rfl
@[simp] theorem ev_call (sh : Bool) (f : FnI) (es : L) : evE (.call sh f es) ρ S = (evL es ρ S).bind fun ds S => callV sh f ds S := rfl
@[simp] theorem ev_callk (sh : Bool) (f : FnI) (es : L) (ks : List Str) (kes : L) : evE (.callk sh f es ks kes) ρ S = (evL es ρ S).bind fun us S => (evL kes ρ S).bind fun ws S => callV sh f (argK f.ps ks us ws) S := rfl
@[simp] theorem ev_bi (f : BF) (es : L) : evE (.bi f es) ρ S = (evL es ρ S).bind fun ds S => biV f S ds := rfl
@[simp] theorem ev_isi (a : E) (t : TY) : evE (.isi a t) ρ S = (evE a ρ S).bind fun x S => isiV S x t := rfl
@[simp] theorem ev_meth (m : ME) (o : E) (es : L) : evE (.meth m o es) ρ S = (evE o ρ S).bind fun x S => guardR (mkind m S x) ((evL es ρ S).bind fun ds S => methV m S x ds) := rfl
@[simp] theorem ev_nilL : evL .nil ρ S = .ok [] S := rfl
@[simp] theorem ev_consL (e : E) (es : L) : evL (.cons e es) ρ S = (evE e ρ S).bind fun d S => (evL es ρ S).bind fun ds S => .ok (d :: ds) S := rfl
@[simp] theorem ev_noneO : evO .none ρ S = .ok none S := rfl
@[simp] theorem ev_someO (e : E) : evO (.some e) ρ S = (evE e ρ S).bind fun d S => match d with
    | .int i => .ok (some i) S
    | _ => .stuck := rfl
@[simp] theorem ev_noneC : evC .none ρ S = .ok true S := rfl
@[simp] theorem ev_someC (e : E) : evC (.some e) ρ S = (evE e ρ S).bind fun d S => optR (truthy S d) S := rfl
@[simp] theorem ev_seq (e : E) : evI (.seq e) ρ S = (evE e ρ S).bind fun x S => optR (seqW S x) S := rfl
@[simp] theorem ev_rng1 (a : E) : evI (.rng1 a) ρ S = (evE a ρ S).bind fun x S => match x with
    | .int j => guardR (rngOk j) (.ok ⟨rngL 0 j.toNat, []⟩ S)
    | _ => .stuck := rfl
@[simp] theorem ev_rng2 (a b : E) : evI (.rng2 a b) ρ S = (evE a ρ S).bind fun x S => (evE b ρ S).bind fun y S => match x, y with
    | .int i, .int j => guardR (rngOk i && rngOk j) (.ok ⟨rngL i (j - i).toNat, []⟩ S)
    | _, _ => .stuck := rfl
@[simp] theorem ev_enum (a : E) : evI (.enum a) ρ S = (evE a ρ S).bind fun x S => enumV S x := rfl
@[simp] theorem ev_zip (a b : E) : evI (.zip a b) ρ S = (evE a ρ S).bind fun x S => (evE b ρ S).bind fun y S => zipV S x y := rfl
@[simp] theorem ev_revI (a : E) : evI (.rev a) ρ S = (evE a ρ S).bind fun x S => optR (revW S x) S := rfl
end
section
variable {ρ : Env} {S : Store} {n : Nat}
@[simp] theorem es_asg (t : T) (e : E) : evS n (.asg t e) ρ S = (evE e ρ S).then ρ fun d S => match asgT t d ρ with
    | some ρ1 => .fl .next ρ1 S
    | none => .stuck := rfl
@[simp] theorem es_par2 (i j : Nat) (a b : E) : evS n (.par2 i j a b) ρ S = (evE a ρ S).then ρ fun x S => (evE b ρ S).then ρ fun y S => .fl .next ((ρ.set i (some x)).set j (some y)) S := rfl
@[simp] theorem es_par3 (i j k : Nat) (a b c : E) : evS n (.par3 i j k a b c) ρ S = (evE a ρ S).then ρ fun x S => (evE b ρ S).then ρ fun y S => (evE c ρ S).then ρ fun z S => .fl .next (((ρ.set i (some x)).set j (some y)).set k (some z)) S := rfl
@[simp] theorem es_aug (i : Nat) (o : BO) (e : E) : evS n (.aug i o e) ρ S = match ρ[i]? with
    | some (some x) => (evE e ρ S).then ρ fun y S => (match x, y with
      | .int _, .int _ => binV o S x y
      | _, _ => .stuck).then ρ fun z S => .fl .next (ρ.set i (some z)) S
    | _ => .stuck := rfl
@[simp] theorem es_set (o i e : E) : evS n (.set o i e) ρ S = (evE e ρ S).then ρ fun v S => (evE o ρ S).then ρ fun x S => (evE i ρ S).then ρ fun y S => (setV S x y v).then ρ fun _ S => .fl .next ρ S := rfl
@[simp] theorem es_expr (e : E) : evS n (.expr e) ρ S = (evE e ρ S).then ρ fun _ S => .fl .next ρ S := rfl
@[simp] theorem es_ret (e : E) : evS n (.ret e) ρ S = (evE e ρ S).then ρ fun d S => .fl (.ret d) ρ S := rfl
@[simp] theorem es_retN : evS n .retN ρ S = .fl (.ret .non) ρ S := rfl
@[simp] theorem es_ite (c : E) (a b : B) : evS n (.ite c a b) ρ S = (evE c ρ S).then ρ fun d S => match truthy S d with
    | some true => evB n a ρ S
    | some false => evB n b ρ S
    | none => .stuck := rfl
theorem es_for (t : T) (it : I) (b : B) : evS n (.for_ t it b) ρ S = (evI it ρ S).then ρ fun w S => forLoop w t (evB n b) w.ds ρ S := rfl
theorem es_while (c : E) (b : B) : evS n (.while_ c b) ρ S = whileLoop (evE c) (evB n b) n ρ S := rfl
@[simp] theorem es_brk : evS n .brk ρ S = .fl .brk ρ S := rfl
@[simp] theorem es_cont : evS n .cont ρ S = .fl .cont ρ S := rfl
@[simp] theorem es_pass : evS n .pass ρ S = .fl .next ρ S := rfl
@[simp] theorem es_raise (c m : Str) : evS n (.raise c m) ρ S = .exc c ρ S := rfl
@[simp] theorem es_try (b : B) (cs : List Str) (hs : List (Str × List Str × Nat × Str)) : evS n (.try_ b cs hs) ρ S = match evB n b ρ S with
    | .exc c ρ' S' => match decide (c ∈ cs) with
      | true => handle hs c ρ' S'
      | false => .stuck
    | r => r := rfl
@[simp] theorem eb_nil : evB n .nil ρ S = .fl .next ρ S := rfl
theorem eb_cons (s : PX.S) (r : B) : evB n (.cons s r) ρ S = match evS n s ρ S with
    | .fl .next ρ' S' => evB n r ρ' S'
    | q => q := rfl
end
/-- a pure comprehension over what is encoded -/
theorem lc_pure {α : Type} {w : Ws} {turn : D → List D → Store → R (List D)} {enc : α → D} {b : α → Bool} {y : α → D} {S : Store} (hw : w.ok S = true) :
    ∀ (xs : List α) (acc : List D), (∀ x ∈ xs, ∀ acc, acc.length < sizeLine → turn (enc x) acc S = .ok (if b x = true then acc ++ [y x] else acc) S) → acc.length + xs.length ≤ sizeLine →
      lcLoop w turn (xs.map enc) acc S = .ok (acc ++ (xs.filter b).map y) S
  | [], acc, _, _ => by
    show guardR (w.ok S) (.ok acc S) = _
    rw [hw]
    simp
  | x :: xs, acc, h, hl => by
    rw [List.length_cons] at hl
    have h1 := h x List.mem_cons_self acc (by omega)
    show guardR (w.ok S) (match turn (enc x) acc S with
      | .ok acc' S' => lcLoop w turn (xs.map enc) acc' S'
      | _ => .stuck) = _
    rw [hw, h1, guardR_true]
    dsimp only
    have h2 := fun z hz => h z (List.mem_cons_of_mem x hz)
    by_cases hb : b x = true
    · rw [if_pos hb, lc_pure hw xs _ h2 (by rw [List.length_append, List.length_singleton]; omega), List.filter_cons_of_pos hb]
      simp
    · rw [if_neg hb, lc_pure hw xs _ h2 (by omega), List.filter_cons_of_neg hb]
theorem ev_lc {α : Type} {enc : α → D} {b : α → Bool} {y : α → D} {vs : List Nat} {t : T} {it : I} {c : O} {e : E} {ρ : Env} {S : Store} {xs : List α} {g : List (Nat × Cell)} (hi : evI it ρ S = .ok ⟨xs.map enc, g⟩ S) (hg : Ws.ok ⟨xs.map enc, g⟩ S = true) (hl : xs.length ≤ sizeLine)
    (h : ∀ x ∈ xs, ∃ ρ1, asgT t (enc x) (wipeE ρ vs) = some ρ1 ∧ evC c ρ1 S = .ok (b x) S ∧ (b x = true → evE e ρ1 S = .ok (y x) S)) : evE (.lc vs false t it c e) ρ S = .ok (.lst ((xs.filter b).map y)) S := by
  show (evI it ρ S).bind (fun w S => (lcLoop w (turnE t vs (evC c) (evE e) ρ) w.ds [] S).bind fun acc S => endL false acc S) = _
  rw [hi, R.bind_ok]
  dsimp only
  rw [lc_pure (enc := enc) (b := b) (y := y) hg xs [] (fun x hx acc hacc => ?_) (by simpa using hl)]
  · simp [endL]
  · obtain ⟨ρ1, h1, h2, h3⟩ := h x hx
    unfold turnE
    rw [h1]
    dsimp only
    rw [h2, R.bind_ok]
    cases hb : b x with
    | true => simp [h3 hb, hacc]
    | false => simp
/-- all of them -/
theorem ev_lcA {α : Type} {enc : α → D} {y : α → D} {vs : List Nat} {t : T} {it : I} {e : E} {ρ : Env} {S : Store} {xs : List α} {g : List (Nat × Cell)} (hi : evI it ρ S = .ok ⟨xs.map enc, g⟩ S) (hg : Ws.ok ⟨xs.map enc, g⟩ S = true) (hl : xs.length ≤ sizeLine)
    (h : ∀ x ∈ xs, ∃ ρ1, asgT t (enc x) (wipeE ρ vs) = some ρ1 ∧ evE e ρ1 S = .ok (y x) S) : evE (.lc vs false t it .none e) ρ S = .ok (.lst (xs.map y)) S := by
  have := ev_lc (b := fun _ => true) (c := .none) (y := y) hi hg hl fun x hx => let ⟨ρ1, h1, h2⟩ := h x hx; ⟨ρ1, h1, rfl, fun _ => h2⟩
  rw [this, List.filter_eq_self.mpr fun _ _ => rfl]
@[simp] theorem ok_nil {ds : List D} {S : Store} : Ws.ok ⟨ds, []⟩ S = true := rfl
section
variable {S : Store}
@[simp] theorem tr_non : PX.truthy S .non = some false := rfl
@[simp] theorem tr_bl (b : Bool) : PX.truthy S (.bl b) = some b := rfl
@[simp] theorem tr_int (i : Int) : PX.truthy S (.int i) = some (i != 0) := rfl
@[simp] theorem tr_tup (xs : List D) : PX.truthy S (.tup xs) = some (!xs.isEmpty) := rfl
@[simp] theorem tr_lst (xs : List D) : PX.truthy S (.lst xs) = some (!xs.isEmpty) := rfl
@[simp] theorem fr_non : D.free .non = true := by simp only [D.free]
@[simp] theorem fr_bl (b : Bool) : D.free (.bl b) = true := by simp only [D.free]
@[simp] theorem fr_int (b : Int) : D.free (.int b) = true := by simp only [D.free]
@[simp] theorem fr_str (b : PySem.Str) : D.free (.str b) = true := by simp only [D.free]
@[simp] theorem fr_tup (xs : List D) : D.free (.tup xs) = D.frees xs := by simp only [D.free]
@[simp] theorem fr_lst (xs : List D) : D.free (.lst xs) = D.frees xs := by simp only [D.free]
@[simp] theorem fr_scr (xs : List D) : D.free (.scr xs) = D.frees xs := by simp only [D.free]
@[simp] theorem fr_kup (xs : List D) : D.free (.kup xs) = D.frees xs := by simp only [D.free]
@[simp] theorem fr_adr (n : Nat) : D.free (.adr n) = false := by simp only [D.free]
@[simp] theorem frs_nil : D.frees [] = true := by simp only [D.frees]
@[simp] theorem frs_cons (x : D) (xs : List D) : D.frees (x :: xs) = (D.free x && D.frees xs) := by simp only [D.frees]
@[simp] theorem bin_int (o : BO) (i j : Int) : binV o S (.int i) (.int j) = match o with
    | .add => .ok (.int (i + j)) S
    | .sub => .ok (.int (i - j)) S
    | .mul => guardR (mulOk i j) (.ok (.int (i * j)) S)
    | .fdiv => guardR (divOk j) (.ok (.int (i / j)) S)
    | .mod => guardR (decide (0 < j)) (.ok (.int (i % j)) S)
    | .pow => guardR (powOk i j) (.ok (.int (i ^ j.toNat)) S)
    | .and => .ok (.int (PySem.Builtin.bitAnd i j)) S
    | .or => .ok (.int (PySem.Builtin.bitOr i j)) S
    | .xor => .ok (.int (PySem.Builtin.bitXor i j)) S
    | .shl => guardR (powOk i j) (.ok (.int (i * 2 ^ j.toNat)) S)
    | .shr => guardR (decide (0 ≤ j)) (.ok (.int (i / 2 ^ j.toNat)) S) := rfl
@[simp] theorem cmp_eq (x y : D) : cmpV .eq S x y = eqR false S x y := rfl
@[simp] theorem cmp_ne (x y : D) : cmpV .ne S x y = eqR true S x y := rfl
@[simp] theorem cmp_is (x y : D) : cmpV .is S x y = isR false S x y := rfl
@[simp] theorem cmp_isNot (x y : D) : cmpV .isNot S x y = isR true S x y := rfl
@[simp] theorem cmp_inn (x y : D) : cmpV .inn S x y = inR false S x y := rfl
@[simp] theorem cmp_notIn (x y : D) : cmpV .notIn S x y = inR true S x y := rfl
@[simp] theorem cmp_lt (i j : Int) : cmpV .lt S (.int i) (.int j) = .ok (.bl (decide (i < j))) S := rfl
@[simp] theorem cmp_le (i j : Int) : cmpV .le S (.int i) (.int j) = .ok (.bl (decide (i ≤ j))) S := rfl
@[simp] theorem cmp_gt (i j : Int) : cmpV .gt S (.int i) (.int j) = .ok (.bl (decide (j < i))) S := rfl
@[simp] theorem cmp_ge (i j : Int) : cmpV .ge S (.int i) (.int j) = .ok (.bl (decide (j ≤ i))) S := rfl
@[simp] theorem eq_int (b : Bool) (i j : Int) : eqR b S (.int i) (.int j) = .ok (.bl (if b then !(i == j) else i == j)) S := rfl
@[simp] theorem eq_bl (b : Bool) (i j : Bool) : eqR b S (.bl i) (.bl j) = .ok (.bl (if b then !(i == j) else i == j)) S := rfl
@[simp] theorem isi_int (i : Int) (t : TY) : isiV S (.int i) t = .ok (.bl (decide (t = .int))) S := by cases t <;> rfl
@[simp] theorem isi_bl (i : Bool) (t : TY) : isiV S (.bl i) t = .ok (.bl (decide (t = .bool) || decide (t = .int))) S := by cases t <;> rfl
@[simp] theorem isi_tup (i : List D) (t : TY) : isiV S (.tup i) t = .ok (.bl (decide (t = .tuple))) S := by cases t <;> rfl
@[simp] theorem isi_kup (i : List D) (t : TY) : isiV S (.kup i) t = .ok (.bl (decide (t = .tuple))) S := by cases t <;> rfl
@[simp] theorem isi_lst (i : List D) (t : TY) : isiV S (.lst i) t = .ok (.bl (decide (t = .list))) S := by cases t <;> rfl
@[simp] theorem isi_scr (i : List D) (t : TY) : isiV S (.scr i) t = .ok (.bl (decide (t = .list))) S := by cases t <;> rfl
@[simp] theorem isi_str (i : PySem.Str) (t : TY) : isiV S (.str i) t = .ok (.bl (decide (t = .str))) S := by cases t <;> rfl
@[simp] theorem isi_non (t : TY) : isiV S .non t = .ok (.bl false) S := rfl
@[simp] theorem seqW_tup (xs : List D) : seqW S (.tup xs) = some ⟨xs, []⟩ := rfl
@[simp] theorem seqW_kup (xs : List D) : seqW S (.kup xs) = some ⟨xs, []⟩ := rfl
@[simp] theorem seqW_lst (xs : List D) : seqW S (.lst xs) = some ⟨xs, []⟩ := rfl
@[simp] theorem seqW_scr (xs : List D) : seqW S (.scr xs) = some ⟨xs, []⟩ := rfl
@[simp] theorem ix_tup (xs : List D) (i : Int) : ixV S (.tup xs) (.int i) = optR (L2.atI xs i) S := rfl
@[simp] theorem ix_lst (xs : List D) (i : Int) : ixV S (.lst xs) (.int i) = optR (L2.atI xs i) S := rfl
@[simp] theorem len_tup (xs : List D) : biV .len S [.tup xs] = .ok (.int xs.length) S := rfl
@[simp] theorem len_lst (xs : List D) : biV .len S [.lst xs] = .ok (.int xs.length) S := rfl
@[simp] theorem len_scr (xs : List D) : biV .len S [.scr xs] = .ok (.int xs.length) S := rfl
@[simp] theorem len_kup (xs : List D) : biV .len S [.kup xs] = .ok (.int xs.length) S := rfl
@[simp] theorem tuple_tup (xs : List D) : biV .tuple S [.tup xs] = .ok (.tup xs) S := rfl
@[simp] theorem tuple_lst (xs : List D) : biV .tuple S [.lst xs] = .ok (.tup xs) S := rfl
@[simp] theorem int_int (i : Int) : biV .int S [.int i] = .ok (.int i) S := rfl
theorem sum_lst {xs : List D} {ns : List Int} (h : asInts xs = some ns) : biV .sum S [.lst xs] = .ok (.int ns.sum) S := by
  show (match (some xs).bind asInts with | some ns => R.ok (D.int ns.sum) S | none => .stuck) = _
  rw [Option.bind_some, h]
theorem all_lst {xs : List D} {ns : List Bool} (h : asBls xs = some ns) : biV .all S [.lst xs] = .ok (.bl (ns.all id)) S := by
  show (match (some xs).bind asBls with | some ns => R.ok (D.bl (ns.all id)) S | none => .stuck) = _
  rw [Option.bind_some, h]
theorem any_lst {xs : List D} {ns : List Bool} (h : asBls xs = some ns) : biV .any S [.lst xs] = .ok (.bl (ns.any id)) S := by
  show (match (some xs).bind asBls with | some ns => R.ok (D.bl (ns.any id)) S | none => .stuck) = _
  rw [Option.bind_some, h]
@[simp] theorem optR_some' {α : Type} (a : α) : optR (some a) S = .ok a S := rfl
@[simp] theorem atI0 {α : Type} {x : α} {xs : List α} : L2.atI (x :: xs) 0 = some x := L2.atI_nat (xs := x :: xs) (j := 0) (v := x) rfl
@[simp] theorem atI1 {α : Type} {x y : α} {xs : List α} : L2.atI (x :: y :: xs) 1 = some y := L2.atI_nat (xs := x :: y :: xs) (j := 1) (v := y) rfl
@[simp] theorem atI2 {α : Type} {x y z : α} {xs : List α} : L2.atI (x :: y :: z :: xs) 2 = some z := L2.atI_nat (xs := x :: y :: z :: xs) (j := 2) (v := z) rfl
@[simp] theorem asgT_name (i : Nat) (d : D) (ρ : Env) : asgT (.name i) d ρ = some (ρ.set i (some d)) := rfl
@[simp] theorem asgT_tup (is : List Nat) (ds : List D) (ρ : Env) : asgT (.tup is) (.tup ds) ρ = asgs is ds ρ := rfl
@[simp] theorem asgs_nil (ρ : Env) : asgs [] [] ρ = some ρ := rfl
@[simp] theorem asgs_cons (i : Nat) (is : List Nat) (d : D) (ds : List D) (ρ : Env) : asgs (i :: is) (d :: ds) ρ = asgs is ds (ρ.set i (some d)) := rfl
@[simp] theorem wipe_nil (ρ : Env) : wipeE ρ [] = ρ := rfl
@[simp] theorem wipe_cons (ρ : Env) (v : Nat) (vs : List Nat) : wipeE ρ (v :: vs) = (wipeE ρ vs).set v none := rfl
end
theorem callV_ok {f : FnI} {ds : List D} {d : D} {S0 : Store} (S : Store) (h : f.sem [] ds = .ok d S0) (hl : ds.length = f.ps.length) (hf : D.frees ds = true) (hd : D.free d = true) : callV false f ds S = .ok d S := by
  unfold callV
  rw [decide_eq_true hl, guardR_true]
  dsimp only
  rw [hf, guardR_true, h]
  dsimp only
  rw [hd, guardR_true]
theorem callV_exc {f : FnI} {ds : List D} {c : PySem.Str} {S0 : Store} (S : Store) (h : f.sem [] ds = .exc c S0) (hl : ds.length = f.ps.length) (hf : D.frees ds = true) : callV false f ds S = .exc c S := by
  unfold callV
  rw [decide_eq_true hl, guardR_true]
  dsimp only
  rw [hf, guardR_true, h]
/-- an int that is no bool -/
def D.isI : D → Bool
  | .int _ => true
  | _ => false
@[simp] theorem isI_int (i : Int) : (D.int i).isI = true := rfl
theorem frees_pairs (ts : List (Int × Int)) : D.frees (ts.map pairD) = true := by
  induction ts with
  | nil => rfl
  | cons t ts ih => simp [pairD, ih]
theorem frees_ints (ns : List Int) : D.frees (ns.map D.int) = true := by
  induction ns with
  | nil => rfl
  | cons t ts ih => simp [ih]
theorem frees_append (xs ys : List D) : D.frees (xs ++ ys) = (D.frees xs && D.frees ys) := by
  induction xs with
  | nil => rfl
  | cons x xs ih => simp [ih, Bool.and_assoc]
theorem asBls_map' {α : Type} (xs : List α) (f : α → Bool) : asBls (xs.map fun x => D.bl (f x)) = some (xs.map f) := by
  rw [show (xs.map fun x => D.bl (f x)) = (xs.map f).map D.bl by simp]
  exact asBls_map _
theorem asInts_map' {α : Type} (xs : List α) (f : α → Int) : asInts (xs.map fun x => D.int (f x)) = some (xs.map f) := by
  rw [show (xs.map fun x => D.int (f x)) = (xs.map f).map D.int by simp]
  exact asInts_map _
theorem d2 : divOk 2 = true := by decide +kernel
theorem slV_lst {S : Store} (xs : List D) (lo hi : Option Int) : slV S (.lst xs) lo hi = .ok (.lst (cutG xs lo hi)) S := rfl
theorem slV_scr {S : Store} (xs : List D) (lo hi : Option Int) : slV S (.scr xs) lo hi = .ok (.lst (cutG xs lo hi)) S := rfl
theorem slV_tup {S : Store} (xs : List D) (lo hi : Option Int) : slV S (.tup xs) lo hi = .ok (.tup (cutG xs lo hi)) S := rfl
theorem zipV_lst {S : Store} (xs ys : List D) : zipV S (.lst xs) (.lst ys) = .ok ⟨zipD xs ys, []⟩ S := rfl
theorem cut_from {α : Type} (xs : List α) (k : Nat) : cutG xs (some (k : Int)) none = xs.drop k := by
  unfold cutG
  rw [HT.sIx_nat, HT.sIx_none]
  by_cases h : k ≤ xs.length
  · rw [Nat.min_eq_left h, List.take_of_length_le (by simp)]
  · rw [Nat.min_eq_right (by omega), Nat.sub_self, List.take_zero, List.drop_eq_nil_of_le (by omega)]
theorem cut_to {α : Type} (xs : List α) (k : Nat) : cutG xs none (some (k : Int)) = xs.take k := by
  unfold cutG
  rw [HT.sIx_nat, HT.sIx_none, List.drop_zero, Nat.sub_zero]
  by_cases h : k ≤ xs.length
  · rw [Nat.min_eq_left h]
  · rw [Nat.min_eq_right (by omega), List.take_of_length_le (Nat.le_refl _), List.take_of_length_le (by omega)]
theorem zip_ints (as bs : List Int) : zipD (as.map D.int) (bs.map D.int) = (as.zip bs).map pairD := by
  unfold zipD
  rw [List.zip_map, List.map_map]
  rfl
end PX

/-! PX23: loops by invariants. -/
namespace PX
theorem for_inv {w : Ws} {t : T} {body : Env → Store → RS} (P : Nat → Env → Store → Prop) (hok : ∀ i ρ S, P i ρ S → w.ok S = true)
    (hstep : ∀ i d ρ S, w.ds[i]? = some d → P i ρ S → ∃ ρ1, asgT t d ρ = some ρ1 ∧ ∃ ρ2 S2, (body ρ1 S = .fl .next ρ2 S2 ∨ body ρ1 S = .fl .cont ρ2 S2) ∧ P (i + 1) ρ2 S2) {ρ : Env} {S : Store} (h0 : P 0 ρ S) :
    ∃ ρ' S', forLoop w t body w.ds ρ S = .fl .next ρ' S' ∧ P w.ds.length ρ' S' := by
  suffices h : ∀ (k i : Nat) (ρ : Env) (S : Store), i + k = w.ds.length → P i ρ S → ∃ ρ' S', forLoop w t body (w.ds.drop i) ρ S = .fl .next ρ' S' ∧ P w.ds.length ρ' S' by
    simpa using h w.ds.length 0 ρ S (by omega) h0
  intro k
  induction k with
  | zero =>
    intro i ρ S hi hp
    have : i = w.ds.length := by omega
    subst this
    rw [List.drop_length]
    refine ⟨ρ, S, ?_, hp⟩
    unfold forLoop
    rw [hok _ _ _ hp]
  | succ k ih =>
    intro i ρ S hi hp
    have hlt : i < w.ds.length := by omega
    rw [List.drop_eq_getElem_cons hlt]
    obtain ⟨ρ1, e1, ρ2, S2, e2, hp2⟩ := hstep i _ ρ S (List.getElem?_eq_getElem hlt) hp
    obtain ⟨ρ', S', e3, hp3⟩ := ih (i + 1) ρ2 S2 (by omega) hp2
    refine ⟨ρ', S', ?_, hp3⟩
    rw [← e3]
    conv => lhs; unfold forLoop
    rw [hok _ _ _ hp]
    dsimp only
    rw [e1]
    dsimp only
    rcases e2 with e2 | e2 <;> rw [e2]
theorem lc_inv {w : Ws} {turn : D → List D → Store → R (List D)} (P : Nat → List D → Store → Prop) (hok : ∀ i acc S, P i acc S → w.ok S = true)
    (hstep : ∀ i d acc S, w.ds[i]? = some d → P i acc S → ∃ acc' S', turn d acc S = .ok acc' S' ∧ P (i + 1) acc' S') {acc : List D} {S : Store} (h0 : P 0 acc S) :
    ∃ acc' S', lcLoop w turn w.ds acc S = .ok acc' S' ∧ P w.ds.length acc' S' := by
  suffices h : ∀ (k i : Nat) (acc : List D) (S : Store), i + k = w.ds.length → P i acc S → ∃ acc' S', lcLoop w turn (w.ds.drop i) acc S = .ok acc' S' ∧ P w.ds.length acc' S' by
    simpa using h w.ds.length 0 acc S (by omega) h0
  intro k
  induction k with
  | zero =>
    intro i acc S hi hp
    have : i = w.ds.length := by omega
    subst this
    rw [List.drop_length]
    refine ⟨acc, S, ?_, hp⟩
    unfold lcLoop
    rw [hok _ _ _ hp]
    rfl
  | succ k ih =>
    intro i acc S hi hp
    have hlt : i < w.ds.length := by omega
    rw [List.drop_eq_getElem_cons hlt]
    obtain ⟨acc2, S2, e2, hp2⟩ := hstep i _ acc S (List.getElem?_eq_getElem hlt) hp
    obtain ⟨acc', S', e3, hp3⟩ := ih (i + 1) acc2 S2 (by omega) hp2
    refine ⟨acc', S', ?_, hp3⟩
    rw [← e3]
    conv => lhs; unfold lcLoop
    rw [hok _ _ _ hp, e2]
    rfl
/-- elements that are reckoned one after the other, with what the store keeps -/
theorem ev_lcS {α : Type} {y : α → D} {vs : List Nat} {t : T} {it : I} {e : E} {ρ : Env} {S S1 : Store} {w : Ws} (Q : Store → Prop) (Y : Nat → α → Prop) (hi : evI it ρ S = .ok w S1) (hl : w.ds.length ≤ PySem.sizeLine) (hok : ∀ S, Q S → w.ok S = true) (h0 : Q S1)
    (hstep : ∀ i d S, w.ds[i]? = some d → Q S → ∃ ρ1 x S', asgT t d (wipeE ρ vs) = some ρ1 ∧ evE e ρ1 S = .ok (y x) S' ∧ Y i x ∧ Q S') :
    ∃ (xs : List α) (S' : Store), evE (.lc vs false t it .none e) ρ S = .ok (.lst (xs.map y)) S' ∧ Q S' ∧ xs.length = w.ds.length ∧ ∀ i x, xs[i]? = some x → Y i x := by
  obtain ⟨acc, S', e1, xs, rfl, h2, h3, h4⟩ := lc_inv (w := w) (turn := turnE t vs (evC .none) (evE e) ρ) (P := fun i acc S => ∃ xs : List α, acc = xs.map y ∧ Q S ∧ xs.length = i ∧ ∀ i x, xs[i]? = some x → Y i x) (fun i acc S ⟨_, _, h, _, _⟩ => hok S h) (fun i d acc S hd ⟨xs, ea, hq, hl2, hy⟩ => by
    obtain ⟨ρ1, x, S', h1, h2, h3, h4⟩ := hstep i d S hd hq
    refine ⟨acc ++ [y x], S', ?_, xs ++ [x], by simp [ea], h4, by simp [hl2], fun j z hz => ?_⟩
    · unfold turnE
      rw [h1]
      have hlt : i < w.ds.length := (List.getElem?_eq_some_iff.mp hd).1
      have : acc.length < PySem.sizeLine := by rw [ea, List.length_map]; omega
      show ((evE e ρ1 S).bind fun y S => guardR (decide (acc.length < PySem.sizeLine)) (.ok (acc ++ [y]) S)) = _
      rw [h2, R.bind_ok, decide_eq_true this]
      rfl
    · by_cases hj : j < xs.length
      · rw [List.getElem?_append_left hj] at hz
        exact hy j z hz
      · rw [List.getElem?_append_right (by omega)] at hz
        have hj0 : j - xs.length = 0 := by
          by_cases q : j - xs.length = 0
          · exact q
          · rw [List.getElem?_eq_none (by simp; omega)] at hz; cases hz
        rw [hj0] at hz
        have e : x = z := by simpa using hz
        subst e
        have : j = i := by omega
        subst this
        exact h3) (acc := []) (S := S1) ⟨[], rfl, h0, rfl, by simp⟩
  refine ⟨xs, S', ?_, h2, h3, h4⟩
  show (evI it ρ S).bind (fun w S => (lcLoop w (turnE t vs (evC .none) (evE e) ρ) w.ds [] S).bind fun acc S => endL false acc S) = _
  rw [hi, R.bind_ok, e1, R.bind_ok]
  rfl
/-- .. into a cell -/
theorem ev_lcM {α : Type} {enc : α → D} {y : α → D} {vs : List Nat} {t : T} {it : I} {e : E} {ρ : Env} {S : Store} {xs : List α} {g : List (Nat × Cell)} (hi : evI it ρ S = .ok ⟨xs.map enc, g⟩ S) (hg : Ws.ok ⟨xs.map enc, g⟩ S = true) (hl : xs.length ≤ PySem.sizeLine)
    (h : ∀ x ∈ xs, ∃ ρ1, asgT t (enc x) (wipeE ρ vs) = some ρ1 ∧ evE e ρ1 S = .ok (y x) S) : evE (.lc vs true t it .none e) ρ S = .ok (.adr S.length) (S ++ [.lst (xs.map y)]) := by
  show (evI it ρ S).bind (fun w S => (lcLoop w (turnE t vs (evC .none) (evE e) ρ) w.ds [] S).bind fun acc S => endL true acc S) = _
  rw [hi, R.bind_ok]
  dsimp only
  rw [lc_pure (enc := enc) (b := fun _ => true) (y := y) hg xs [] (fun x hx acc hacc => ?_) (by simpa using hl)]
  · rw [List.filter_eq_self.mpr fun _ _ => rfl]
    simp [endL]
  · obtain ⟨ρ1, h1, h3⟩ := h x hx
    unfold turnE
    rw [h1]
    simp [h3, hacc]
theorem rngL_length (lo : Int) (n : Nat) : (rngL lo n).length = n := by simp [rngL]
theorem rngL_get {lo : Int} {n i : Nat} {d : D} (h : (rngL lo n)[i]? = some d) : d = .int (lo + i) ∧ i < n := by
  have hi : i < n := by have := (List.getElem?_eq_some_iff.mp h).1; rwa [rngL_length] at this
  refine ⟨?_, hi⟩
  simp [rngL, hi] at h
  exact h.symm
end PX

/-! GAP: sums over literals as what they come to at all assignments. -/
namespace PX
/-- the value of a literal at an assignment -/
def litX (x : Int → Int) (l : Int) : Int := if l < 0 then (if l = -1 then 1 else 0) else if l % 2 = 0 then x (l / 2) else 1 - x (l / 2)
def valX (x : Int → Int) (ps : List (Int × Int)) : Int := (ps.map fun p => p.2 * litX x p.1).sum
def totI (ts : List (Int × Int)) : Int := (ts.map fun t => t.2).sum
@[simp] theorem valX_nil (x : Int → Int) : valX x [] = 0 := rfl
@[simp] theorem valX_cons (x : Int → Int) (p : Int × Int) (ps : List (Int × Int)) : valX x (p :: ps) = p.2 * litX x p.1 + valX x ps := by simp [valX]
theorem valX_append (x : Int → Int) (ps qs : List (Int × Int)) : valX x (ps ++ qs) = valX x ps + valX x qs := by simp [valX]
theorem valX_perm (x : Int → Int) {ps qs : List (Int × Int)} (h : ps.Perm qs) : valX x ps = valX x qs := by
  induction h with
  | nil => rfl
  | cons a _ ih => simp [ih]
  | swap a b l => simp; omega
  | trans _ _ h1 h2 => rw [h1, h2]
theorem valX_reverse (x : Int → Int) (ps : List (Int × Int)) : valX x ps.reverse = valX x ps := valX_perm x (List.reverse_perm ps)
theorem valX_neg (x : Int → Int) (ps : List (Int × Int)) : valX x (ps.map fun p => (p.1, -p.2)) = -valX x ps := by
  induction ps with
  | nil => rfl
  | cons p ps ih => simp only [List.map_cons, valX_cons, ih, Int.neg_mul]; omega
theorem valX_scale (x : Int → Int) (c : Int) (ps : List (Int × Int)) : valX x (ps.map fun p => (p.1, c * p.2)) = c * valX x ps := by
  induction ps with
  | nil => simp
  | cons p ps ih => simp only [List.map_cons, valX_cons, ih, Int.mul_add, Int.mul_assoc]
@[simp] theorem totI_nil : totI [] = 0 := rfl
@[simp] theorem totI_cons (p : Int × Int) (ps : List (Int × Int)) : totI (p :: ps) = p.2 + totI ps := by simp [totI]
theorem totI_append (ps qs : List (Int × Int)) : totI (ps ++ qs) = totI ps + totI qs := by simp [totI]
theorem totI_perm {ps qs : List (Int × Int)} (h : ps.Perm qs) : totI ps = totI qs := by
  induction h with
  | nil => rfl
  | cons a _ ih => simp [ih]
  | swap a b l => simp; omega
  | trans _ _ h1 h2 => rw [h1, h2]
/-- the opposite -/
def flipI (l : Int) : Int := l + 1 - 2 * (l % 2)
theorem flip_half (l : Int) : flipI l / 2 = l / 2 := by unfold flipI; omega
theorem flip_mod (l : Int) : flipI l % 2 = 1 - l % 2 := by unfold flipI; omega
theorem flip_nonneg {l : Int} (h : 0 ≤ l) : 0 ≤ flipI l := by unfold flipI; omega
theorem flip_flip (l : Int) : flipI (flipI l) = l := by unfold flipI; omega
theorem litX_flip (x : Int → Int) {l : Int} (h : 0 ≤ l) : litX x (flipI l) = 1 - litX x l := by
  have h1 := flip_nonneg h
  have h2 := flip_half l
  have h3 := flip_mod l
  have n1 : ¬ flipI l < 0 := by omega
  have n2 : ¬ l < 0 := by omega
  unfold litX
  rw [if_neg n1, if_neg n2, h2]
  by_cases e : l % 2 = 0
  · have n3 : ¬ flipI l % 2 = 0 := by omega
    rw [if_neg n3, if_pos e]
  · have n3 : flipI l % 2 = 0 := by omega
    rw [if_pos n3, if_neg e]; omega
theorem valX_flip (x : Int → Int) : ∀ {ts : List (Int × Int)}, (∀ t ∈ ts, 0 ≤ t.1) → valX x (ts.map fun t => (flipI t.1, t.2)) = totI ts - valX x ts
  | [], _ => rfl
  | t :: ts, h => by
    have h1 := litX_flip x (h t List.mem_cons_self)
    have h2 := valX_flip x (ts := ts) fun u hu => h u (List.mem_cons_of_mem _ hu)
    simp only [List.map_cons, valX_cons, totI_cons, h1, h2, Int.mul_sub, Int.mul_one]
    omega
/-! ### the one form -/
structure SumOk (ts : List (Int × Int)) : Prop where
  tm : ∀ t ∈ ts, 0 ≤ t.1 ∧ 1 ≤ t.2
  asc : (ts.map fun t => t.1 / 2).Pairwise (· < ·)
  len : ts.length ≤ 100000
theorem SumOk.nil : SumOk [] := ⟨by simp, by simp, by simp⟩
theorem SumOk.tail {t : Int × Int} {ts : List (Int × Int)} (s : SumOk (t :: ts)) : SumOk ts :=
  ⟨fun u hu => s.tm u (List.mem_cons_of_mem _ hu), (List.pairwise_cons.mp s.asc).2, Nat.le_trans (Nat.le_succ _) s.len⟩
theorem SumOk.head {t : Int × Int} {ts : List (Int × Int)} (s : SumOk (t :: ts)) : ∀ u ∈ ts, t.1 / 2 < u.1 / 2 := fun u hu =>
  (List.pairwise_cons.mp s.asc).1 _ (List.mem_map.mpr ⟨u, hu, rfl⟩)
def ind (v : Int) : Int → Int := fun u => if u = v then 1 else 0
def zr : Int → Int := fun _ => 0
theorem val_fresh {v : Int} : ∀ {ts : List (Int × Int)}, (∀ t ∈ ts, t.1 / 2 ≠ v) → valX (ind v) ts = valX zr ts
  | [], _ => rfl
  | t :: ts, h => by
    have h1 := h t List.mem_cons_self
    rw [valX_cons, valX_cons, val_fresh fun u hu => h u (List.mem_cons_of_mem _ hu)]
    have : litX (ind v) t.1 = litX zr t.1 := by unfold litX ind zr; simp [h1]
    rw [this]
theorem lit_ind {l : Int} (h : 0 ≤ l) : litX (ind (l / 2)) l = if l % 2 = 0 then 1 else 0 := by
  unfold litX ind; rw [if_neg (by omega)]; simp
theorem lit_zr {l : Int} (h : 0 ≤ l) : litX zr l = if l % 2 = 0 then 0 else 1 := by
  unfold litX zr; rw [if_neg (by omega)]; simp
theorem uniq_const : ∀ {ts us : List (Int × Int)} {c : Int}, SumOk ts → SumOk us → (∀ x, valX x ts - valX x us = c) → ts = us
  | [], [], _, _, _, _ => rfl
  | [], u :: us, c, _, s, h => by
    have h1 := h (ind (u.1 / 2))
    have h2 := h zr
    have f : valX (ind (u.1 / 2)) us = valX zr us := val_fresh fun t ht => by have := s.head t ht; omega
    obtain ⟨k1, k2⟩ := s.tm u List.mem_cons_self
    simp only [valX_cons, valX_nil, f, lit_ind k1, lit_zr k1] at h1 h2
    exfalso
    by_cases e : u.1 % 2 = 0 <;> simp [e] at h1 h2 <;> omega
  | t :: ts, [], c, s, _, h => by
    have h1 := h (ind (t.1 / 2))
    have h2 := h zr
    have f : valX (ind (t.1 / 2)) ts = valX zr ts := val_fresh fun u ht => by have := s.head u ht; omega
    obtain ⟨k1, k2⟩ := s.tm t List.mem_cons_self
    simp only [valX_cons, valX_nil, f, lit_ind k1, lit_zr k1] at h1 h2
    exfalso
    by_cases e : t.1 % 2 = 0 <;> simp [e] at h1 h2 <;> omega
  | t :: ts, u :: us, c, s, s', h => by
    obtain ⟨k1, k2⟩ := s.tm t List.mem_cons_self
    obtain ⟨k3, k4⟩ := s'.tm u List.mem_cons_self
    have h0 := h zr
    rcases Int.lt_trichotomy (t.1 / 2) (u.1 / 2) with q | q | q
    · have h1 := h (ind (t.1 / 2))
      have f : valX (ind (t.1 / 2)) ts = valX zr ts := val_fresh fun v hv => by have := s.head v hv; omega
      have g : valX (ind (t.1 / 2)) (u :: us) = valX zr (u :: us) := val_fresh fun v hv => by
        rcases List.mem_cons.mp hv with e | hv
        · subst e; omega
        · have := s'.head v hv; omega
      rw [g, valX_cons, f, lit_ind k1] at h1
      rw [valX_cons, lit_zr k1] at h0
      exfalso
      by_cases e : t.1 % 2 = 0 <;> simp [e] at h1 h0 <;> omega
    · have h1 := h (ind (t.1 / 2))
      have f : valX (ind (t.1 / 2)) ts = valX zr ts := val_fresh fun v hv => by have := s.head v hv; omega
      have g : valX (ind (t.1 / 2)) us = valX zr us := val_fresh fun v hv => by have := s'.head v hv; omega
      have l1 := lit_ind k1
      have l2 := lit_ind k3
      rw [← q] at l2
      rw [valX_cons, valX_cons, f, g, l1, l2] at h1
      rw [valX_cons, valX_cons, lit_zr k1, lit_zr k3] at h0
      have e : t = u := by
        have e1 : t.1 = u.1 ∧ t.2 = u.2 := by
          by_cases e1 : t.1 % 2 = 0 <;> by_cases e2 : u.1 % 2 = 0 <;> simp [e1, e2] at h0 h1 <;> constructor <;> omega
        exact Prod.ext e1.1 e1.2
      subst e
      rw [uniq_const (ts := ts) (us := us) (c := c) s.tail s'.tail fun x => by have := h x; rw [valX_cons, valX_cons] at this; omega]
    · have h1 := h (ind (u.1 / 2))
      have f : valX (ind (u.1 / 2)) us = valX zr us := val_fresh fun v hv => by have := s'.head v hv; omega
      have g : valX (ind (u.1 / 2)) (t :: ts) = valX zr (t :: ts) := val_fresh fun v hv => by
        rcases List.mem_cons.mp hv with e | hv
        · subst e; omega
        · have := s.head v hv; omega
      rw [g, valX_cons (ind (u.1 / 2)), f, lit_ind k3] at h1
      rw [valX_cons zr u, lit_zr k3] at h0
      exfalso
      by_cases e : u.1 % 2 = 0 <;> simp [e] at h1 h0 <;> omega
/-- sums in the one form that come to the same everywhere are the same -/
theorem SumOk.uniq {ts us : List (Int × Int)} {a b : Int} (s : SumOk ts) (s' : SumOk us) (h : ∀ x, valX x ts - a = valX x us - b) : ts = us ∧ a = b := by
  have e : ts = us := uniq_const (c := a - b) s s' fun x => by have := h x; omega
  subst e
  have := h zr
  exact ⟨rfl, by omega⟩
/-- the weights of what is true -/
theorem val_filter {x : Int → Int} {p : Int × Int → Bool} : ∀ {ts : List (Int × Int)}, (∀ t ∈ ts, litX x t.1 = if p t = true then 1 else 0) → ((ts.filter p).map fun t => t.2).sum = valX x ts
  | [], _ => rfl
  | t :: ts, h => by
    have h1 := h t List.mem_cons_self
    have h2 := val_filter (ts := ts) fun u hu => h u (List.mem_cons_of_mem _ hu)
    rw [valX_cons, ← h2, h1, List.filter_cons]
    cases e : p t <;> simp
theorem SumOk.flip {ts : List (Int × Int)} (s : SumOk ts) : SumOk (ts.map fun t => (flipI t.1, t.2)) := by
  refine ⟨fun t ht => ?_, ?_, by simpa using s.len⟩
  · obtain ⟨u, hu, rfl⟩ := List.mem_map.mp ht
    have := s.tm u hu
    exact ⟨flip_nonneg this.1, this.2⟩
  · have : (ts.map fun t => (flipI t.1, t.2)).map (fun t => t.1 / 2) = ts.map fun t => t.1 / 2 := by
      rw [List.map_map]
      exact List.map_congr_left fun t _ => flip_half t.1
    rw [this]; exact s.asc
theorem SumOk.sub {ts us : List (Int × Int)} (s : SumOk ts) (h : us.Sublist ts) : SumOk us :=
  ⟨fun t ht => s.tm t (h.subset ht), s.asc.sublist (h.map _), Nat.le_trans h.length_le s.len⟩
/-- the assignment of a row of bits -/
def valsX (bs : List Int) : Int → Int := fun v => bs.getD v.toNat 0
/-- the assignment of a number's binary digits -/
def digX (row : Int) : Int → Int := fun v => row / 2 ^ v.toNat % 2
theorem dig_bit (row v : Int) : digX row v = 0 ∨ digX row v = 1 := by unfold digX; omega
end PX
namespace PX
/-! ### a dict of ints by ints -/
def getN : List (Int × Int) → Int → Int
  | [], _ => 0
  | (k, b) :: r, v => if k = v then b else getN r v
def hasN : List (Int × Int) → Int → Bool
  | [], _ => false
  | (k, _) :: r, v => decide (k = v) || hasN r v
def putN : List (Int × Int) → Int → Int → List (Int × Int)
  | [], v, a => [(v, a)]
  | (k, b) :: r, v, a => if k = v then (k, a) :: r else (k, b) :: putN r v a
def keysN (net : List (Int × Int)) : List Int := net.map fun q => q.1
def netX (x : Int → Int) (net : List (Int × Int)) : Int := (net.map fun q => q.2 * x q.1).sum
@[simp] theorem netX_nil (x : Int → Int) : netX x [] = 0 := rfl
@[simp] theorem netX_cons (x : Int → Int) (q : Int × Int) (r : List (Int × Int)) : netX x (q :: r) = q.2 * x q.1 + netX x r := by simp [netX]
theorem netX_put (x : Int → Int) (v δ : Int) : ∀ net : List (Int × Int), netX x (putN net v (getN net v + δ)) = netX x net + δ * x v
  | [] => by simp [putN, getN]
  | (k, b) :: r => by
    unfold putN getN
    by_cases h : k = v
    · subst h
      simp [Int.add_mul]; omega
    · rw [if_neg h, if_neg h, netX_cons, netX_cons, netX_put x v δ r]; omega
theorem keys_put (v a : Int) : ∀ net : List (Int × Int), keysN (putN net v a) = if hasN net v = true then keysN net else keysN net ++ [v]
  | [] => by simp [putN, hasN, keysN]
  | (k, b) :: r => by
    have ih := keys_put v a r
    unfold putN hasN
    by_cases h : k = v
    · simp [h, keysN]
    · simp only [keysN] at ih ⊢
      simp only [h, if_false, List.map_cons, ih, decide_false, Bool.false_or]
      split <;> rfl
theorem has_iff {v : Int} : ∀ {net : List (Int × Int)}, hasN net v = true ↔ v ∈ keysN net
  | [] => by simp [hasN, keysN]
  | (k, b) :: r => by
    have ih := has_iff (v := v) (net := r)
    simp only [hasN, keysN, List.map_cons, List.mem_cons, Bool.or_eq_true, decide_eq_true_eq] at ih ⊢
    rw [ih]
    exact ⟨fun h => h.imp Eq.symm id, fun h => h.imp Eq.symm id⟩
theorem nodup_put {v a : Int} {net : List (Int × Int)} (h : (keysN net).Nodup) : (keysN (putN net v a)).Nodup := by
  rw [keys_put]
  split
  · exact h
  · rename_i q
    rw [List.nodup_append]
    refine ⟨h, by simp, fun a ha b hb => ?_⟩
    have hb : b = v := by simpa using hb
    subst hb
    intro e
    subst e
    exact q (has_iff.mpr ha)
theorem len_put (v a : Int) (net : List (Int × Int)) : (putN net v a).length ≤ net.length + 1 := by
  have := congrArg List.length (keys_put v a net)
  simp only [keysN, List.length_map] at this
  rw [this]
  split <;> simp
theorem mem_put {v a : Int} {net : List (Int × Int)} {k : Int} (h : k ∈ keysN (putN net v a)) : k ∈ keysN net ∨ k = v := by
  rw [keys_put] at h
  split at h
  · exact .inl h
  · simpa using h
/-- the sum over the keys -/
theorem netX_keys (x : Int → Int) : ∀ {net : List (Int × Int)}, (keysN net).Nodup → netX x net = ((keysN net).map fun k => getN net k * x k).sum
  | [], _ => rfl
  | (k, b) :: r, h => by
    have hn := List.nodup_cons.mp (show (k :: keysN r).Nodup from h)
    rw [netX_cons, netX_keys x hn.2]
    show _ = (((k :: keysN r).map fun j => getN ((k, b) :: r) j * x j)).sum
    have e1 : getN ((k, b) :: r) k = b := by simp [getN]
    rw [List.map_cons, List.sum_cons, e1]
    congr 2
    apply List.map_congr_left
    intro j hj
    have : ¬ k = j := fun e => hn.1 (e ▸ hj)
    simp [getN, this]
/-- what weighted literals, put together, are -/
structure IsPut (ps : List (Int × Int)) (dg : Int) (ts : List (Int × Int)) (dg' : Int) : Prop where
  ok : SumOk ts
  eq : ∀ x, valX x ts - dg' = valX x ps - dg
theorem IsPut.uniq {ps qs ts us : List (Int × Int)} {dg dh a b : Int} (h : IsPut ps dg ts a) (k : IsPut qs dh us b) (e : ∀ x, valX x ps - dg = valX x qs - dh) : us = ts ∧ b = a :=
  k.ok.uniq h.ok fun x => by rw [k.eq, h.eq, e]
theorem IsPut.of_ok {ps ts : List (Int × Int)} {dg dg' a : Int} {us : List (Int × Int)} (h : IsPut ps dg ts dg') (s : SumOk us) (e : ∀ x, valX x us - a = valX x ps - dg) : ts = us ∧ dg' = a :=
  h.ok.uniq s fun x => by rw [h.eq, e]
def absW (ps : List (Int × Int)) : Int := (ps.map fun p => if p.2 < 0 then -p.2 else p.2).sum
theorem absW_nonneg : ∀ ps : List (Int × Int), 0 ≤ absW ps
  | [] => by decide
  | p :: ps => by
    have := absW_nonneg ps
    simp only [absW, List.map_cons, List.sum_cons] at this ⊢
    split <;> omega
theorem absW_le {c : Int} : ∀ {ps : List (Int × Int)}, (∀ p ∈ ps, -c ≤ p.2 ∧ p.2 ≤ c) → absW ps ≤ c * ps.length
  | [], _ => by simp [absW]
  | p :: ps, h => by
    have h1 := h p List.mem_cons_self
    have h2 := absW_le (ps := ps) fun q hq => h q (List.mem_cons_of_mem _ hq)
    simp only [absW, List.map_cons, List.sum_cons, List.length_cons] at h2 ⊢
    push_cast
    rw [Int.mul_add, Int.mul_one]
    split <;> omega
def bit01 (x : Int → Int) : Prop := ∀ v, x v = 0 ∨ x v = 1
theorem lit_bit {x : Int → Int} (h : bit01 x) (l : Int) : litX x l = 0 ∨ litX x l = 1 := by
  unfold litX
  have := h (l / 2)
  split
  · split <;> simp
  · split <;> omega
theorem val_abs {x : Int → Int} (h : bit01 x) : ∀ ps : List (Int × Int), -absW ps ≤ valX x ps ∧ valX x ps ≤ absW ps
  | [] => by simp [absW]
  | p :: ps => by
    have := val_abs h ps
    simp only [valX_cons, absW, List.map_cons, List.sum_cons] at this ⊢
    rcases lit_bit h p.1 with e | e <;> rw [e] <;> split <;> omega
theorem val_diff {x y : Int → Int} (h : bit01 x) (k : bit01 y) : ∀ ps : List (Int × Int), valX x ps - valX y ps ≤ absW ps ∧ -absW ps ≤ valX x ps - valX y ps
  | [] => by simp [absW]
  | p :: ps => by
    have := val_diff h k ps
    simp only [valX_cons, absW, List.map_cons, List.sum_cons] at this ⊢
    rcases lit_bit h p.1 with e | e <;> rcases lit_bit k p.1 with f | f <;> rw [e, f] <;> split <;> omega
theorem bit_ind (v : Int) : bit01 (ind v) := fun u => by unfold ind; split <;> simp
theorem bit_zr : bit01 zr := fun _ => .inl rfl
/-- one term by itself -/
theorem val_ind : ∀ {ts : List (Int × Int)}, SumOk ts → ∀ t ∈ ts, valX (ind (t.1 / 2)) ts - valX zr ts = if t.1 % 2 = 0 then t.2 else -t.2
  | [], _, t, h => by cases h
  | u :: ts, s, t, h => by
    rcases List.mem_cons.mp h with e | h
    · subst e
      obtain ⟨k1, k2⟩ := s.tm t List.mem_cons_self
      have f : valX (ind (t.1 / 2)) ts = valX zr ts := val_fresh fun u hu => by have := s.head u hu; omega
      rw [valX_cons, valX_cons, f, lit_ind k1, lit_zr k1]
      split <;> simp <;> omega
    · have ih := val_ind s.tail t h
      have hu := s.head t h
      have e : litX (ind (t.1 / 2)) u.1 = litX zr u.1 := by
        have : ¬ u.1 / 2 = t.1 / 2 := by omega
        unfold litX ind zr; simp [this]
      rw [valX_cons, valX_cons, e, ← ih]; omega
theorem IsPut.weight {ps ts : List (Int × Int)} {dg dg' : Int} (h : IsPut ps dg ts dg') : ∀ t ∈ ts, t.2 ≤ absW ps := fun t ht => by
  have h1 := val_ind h.ok t ht
  have h2 := h.eq (ind (t.1 / 2))
  have h3 := h.eq zr
  have h4 := val_diff (bit_ind (t.1 / 2)) bit_zr ps
  split at h1 <;> omega
/-- each variable comes from the pairs -/
theorem IsPut.from {ps ts : List (Int × Int)} {dg dg' : Int} (h : IsPut ps dg ts dg') : ∀ t ∈ ts, ∃ p ∈ ps, 0 ≤ p.1 ∧ p.1 / 2 = t.1 / 2 := fun t ht => by
  have h1 := val_ind h.ok t ht
  have h2 := h.eq (ind (t.1 / 2))
  have h3 := h.eq zr
  have h5 := h.ok.tm t ht
  false_or_by_contra
  rename_i hn
  have key : ∀ qs : List (Int × Int), (∀ q ∈ qs, ¬ (0 ≤ q.1 ∧ q.1 / 2 = t.1 / 2)) → valX (ind (t.1 / 2)) qs = valX zr qs := by
    intro qs
    induction qs with
    | nil => intro _; rfl
    | cons q qs ih =>
      intro hq
      have e : litX (ind (t.1 / 2)) q.1 = litX zr q.1 := by
        have := hq q List.mem_cons_self
        unfold litX ind zr
        by_cases c : q.1 < 0
        · simp [c]
        · have : ¬ q.1 / 2 = t.1 / 2 := fun e => this ⟨by omega, e⟩
          simp [this]
      rw [valX_cons, valX_cons, e, ih fun r hr => hq r (List.mem_cons_of_mem _ hr)]
  have := key ps fun q hq c => hn ⟨q, hq, c⟩
  split at h1 <;> omega
theorem SumOk.inj : ∀ {ts : List (Int × Int)}, SumOk ts → ∀ {t u : Int × Int}, t ∈ ts → u ∈ ts → t.1 / 2 = u.1 / 2 → t = u
  | [], _, t, u, h, _, _ => by cases h
  | w :: ts, s, t, u, h, k, e => by
    rcases List.mem_cons.mp h with h1 | h1 <;> rcases List.mem_cons.mp k with k1 | k1
    · rw [h1, k1]
    · have := s.head u k1; rw [h1] at e; omega
    · have := s.head t h1; rw [k1] at e; omega
    · exact s.tail.inj h1 k1 e
/-- an assignment at which nothing of a sum is true -/
def offX (ts : List (Int × Int)) : Int → Int := fun v => if (ts.any fun t => decide (t.1 / 2 = v) && decide (t.1 % 2 = 1)) = true then 1 else 0
theorem off_bit (ts : List (Int × Int)) : bit01 (offX ts) := fun v => by unfold offX; split <;> simp
theorem SumOk.off {ts : List (Int × Int)} (s : SumOk ts) : valX (offX ts) ts = 0 := by
  suffices h : ∀ us : List (Int × Int), (∀ u ∈ us, u ∈ ts) → valX (offX ts) us = 0 from h ts fun _ h => h
  intro us
  induction us with
  | nil => intro _; rfl
  | cons u us ih =>
    intro hu
    have hm := hu u List.mem_cons_self
    have h0 := s.tm u hm
    have e : litX (offX ts) u.1 = 0 := by
      unfold litX
      rw [if_neg (by omega)]
      by_cases c : u.1 % 2 = 0
      · rw [if_pos c]
        unfold offX
        rw [if_neg]
        intro q
        rw [List.any_eq_true] at q
        obtain ⟨t, ht, k⟩ := q
        simp only [Bool.and_eq_true, decide_eq_true_eq] at k
        have : t = u := s.inj ht hm k.1
        subst this
        omega
      · rw [if_neg c]
        unfold offX
        rw [if_pos]
        · rfl
        · rw [List.any_eq_true]
          exact ⟨u, hm, by simp; omega⟩
    rw [valX_cons, e, ih fun v hv => hu v (List.mem_cons_of_mem _ hv)]
    simp
theorem IsPut.degree {ps ts : List (Int × Int)} {dg dg' : Int} (h : IsPut ps dg ts dg') : dg - absW ps ≤ dg' ∧ dg' ≤ dg + absW ps := by
  have h1 := h.eq (offX ts)
  rw [h.ok.off] at h1
  have := val_abs (off_bit ts) ps
  omega
theorem IsPut.add {p q ts us vs : List (Int × Int)} {a b c d e : Int} (h : IsPut p a ts b) (k : IsPut q c us d) (m : IsPut (ts ++ us) (b + d) vs e) : ∀ x, valX x vs - e = valX x (p ++ q) - (a + c) := fun x => by
  rw [m.eq, valX_append, valX_append]
  have := h.eq x
  have := k.eq x
  omega
end PX
namespace PX
theorem IsPut.len {ps ts : List (Int × Int)} {dg dg' : Int} (h : IsPut ps dg ts dg') : ts.length ≤ ps.length := by
  have h1 : (ts.map fun t => t.1 / 2).Nodup := h.ok.asc.imp fun hlt => by omega
  have := List.Nodup.length_le_of_subset (l₂ := ps.map fun p => p.1 / 2) h1 fun v hv => by
    obtain ⟨t, ht, rfl⟩ := List.mem_map.mp hv
    obtain ⟨p, hp, _, e⟩ := h.from t ht
    exact List.mem_map.mpr ⟨p, hp, e⟩
  simpa using this
end PX

/-! PX24: what all laws share, without their defs. -/
namespace PX
mutual
/-- made of tuples, ints, truths, texts, None -/
def D.plain : D → Bool
  | .non => true | .bl _ => true | .int _ => true | .str _ => true
  | .tup xs => D.plains xs
  | _ => false
def D.plains : List D → Bool
  | [] => true
  | x :: xs => D.plain x && D.plains xs
end
theorem plains_iff : ∀ {xs : List D}, D.plains xs = true ↔ ∀ x ∈ xs, D.plain x = true
  | [] => by simp [D.plains]
  | x :: xs => by simp [D.plains, plains_iff (xs := xs)]
mutual
theorem D.plain.free : ∀ {d : D}, d.plain = true → d.free = true
  | .non, _ => by simp
  | .bl _, _ => by simp
  | .int _, _ => by simp
  | .str _, _ => by simp
  | .tup xs, h => by rw [fr_tup]; exact D.plains.free (by simpa [D.plain] using h)
  | .lst _, h => by simp [D.plain] at h
  | .scr _, h => by simp [D.plain] at h
  | .kup _, h => by simp [D.plain] at h
  | .adr _, h => by simp [D.plain] at h
theorem D.plains.free : ∀ {xs : List D}, D.plains xs = true → D.frees xs = true
  | [], _ => by simp
  | x :: xs, h => by
    simp only [D.plains, Bool.and_eq_true] at h
    rw [frs_cons, D.plain.free h.1, D.plains.free h.2]; rfl
end
mutual
theorem eqv_self : ∀ {d : D}, d.plain = true → D.eqv d d = true
  | .non, _ => by simp [D.eqv]
  | .bl _, _ => by simp [D.eqv]
  | .int _, _ => by simp [D.eqv]
  | .str _, _ => by simp [D.eqv]
  | .tup xs, h => by simp only [D.eqv]; exact eqvs_self (by simpa [D.plain] using h)
  | .lst _, h => by simp [D.plain] at h
  | .scr _, h => by simp [D.plain] at h
  | .kup _, h => by simp [D.plain] at h
  | .adr _, h => by simp [D.plain] at h
theorem eqvs_self : ∀ {xs : List D}, D.plains xs = true → D.eqvs xs xs = true
  | [], _ => by simp [D.eqvs]
  | x :: xs, h => by
    simp only [D.plains, Bool.and_eq_true] at h
    simp only [D.eqvs, eqv_self h.1, eqvs_self h.2, Bool.and_self]
end
theorem szs_append (xs ys : List D) : D.szs (xs ++ ys) = D.szs xs + D.szs ys := by
  induction xs with
  | nil => simp [D.szs]
  | cons x xs ih => simp [D.szs, ih]; omega
theorem eqvs_nil (xs : List D) : D.eqvs xs [] = xs.isEmpty := by cases xs <;> simp [D.eqvs]
def twin (x : D) : D := .tup [x, x]
end PX
namespace PX
theorem kindW {ws : List D} (m : ME) (h : m.ofDict = false) : mkind m [.lst ws] (.adr 0) = true := by
  unfold mkind
  rw [h]
  rfl
theorem depth_str (z : PySem.Str) : (D.str z).depth = 0 := by simp [D.depth]
theorem ne_self {S : Store} {x : D} (h : x.plain = true) (hd : x.depth ≤ 64) : eqR true S x x = .ok (.bl false) S := by
  have hs : snap S x = some x := by
    cases x <;> simp [D.plain] at h <;> simp [snap]
    exact D.plains.free h
  unfold eqR
  rw [hs]
  dsimp only
  rw [decide_eq_true hd, eqv_self h]
  rfl
theorem depths_le {xs : List D} {k : Nat} (h : ∀ x ∈ xs, x.depth ≤ k) : D.depths xs ≤ k := by
  induction xs with
  | nil => simp [D.depths]
  | cons x xs ih =>
    have h1 := h x List.mem_cons_self
    have h2 := ih fun y hy => h y (List.mem_cons_of_mem _ hy)
    simp only [D.depths]
    omega
theorem depth_of_mem {xs : List D} {x : D} (h : x ∈ xs) : x.depth ≤ D.depths xs := by
  induction xs with
  | nil => cases h
  | cons y ys ih =>
    simp only [D.depths]
    rcases List.mem_cons.mp h with e | h
    · subst e; omega
    · have := ih h; omega
theorem twin_frees {ws : List D} (h : D.plains ws = true) : D.frees (ws.map twin) = true := by
  rw [D.frees_iff]
  intro x hx
  obtain ⟨w, hw, rfl⟩ := List.mem_map.mp hx
  have := D.plain.free (plains_iff.mp h w hw)
  simp [twin, this]
theorem wait_ne {ws : List D} (h : D.plains ws = true) (hd : ∀ w ∈ ws, w.depth ≤ 60) : eqR true [.lst (ws.map twin)] (.adr 0) (.lst []) = .ok (.bl (!ws.isEmpty)) [.lst (ws.map twin)] := by
  have h1 : snap [.lst (ws.map twin)] (.adr 0) = some (.lst (ws.map twin)) := by simp [snap, twin_frees h]
  have h2 : (D.lst (ws.map twin)).depth ≤ 64 := by
    have : D.depths (ws.map twin) ≤ 61 := depths_le fun x hx => by
      obtain ⟨w, hw, rfl⟩ := List.mem_map.mp hx
      have := hd w hw
      simp only [twin, D.depth, D.depths]
      omega
    simp only [D.depth]; omega
  have h3 : (D.lst []).depth ≤ 64 := by simp [D.depth, D.depths]
  unfold eqR
  rw [h1]
  simp only [snap, fr_lst, frs_nil, if_true]
  rw [decide_eq_true h2, decide_eq_true h3]
  simp [D.eqv, eqvs_nil]
theorem len_szs : ∀ ys : List D, ys.length ≤ D.szs ys
  | [] => by simp
  | y :: ys => by
    have : 1 ≤ D.sz y := by cases y <;> simp [D.sz]
    have := len_szs ys
    simp only [D.szs, List.length_cons]; omega
theorem twin_rng (ys : List D) : (List.range ys.length).map (fun i => twin ((ys[i]?).getD .non)) = ys.map twin := by
  apply List.ext_getElem?
  intro i
  by_cases h : i < ys.length
  · simp [h]
  · simp [h]
theorem ev_rng1_ok {a : E} {ρ : Env} {S S1 : Store} {j : Int} (h : evE a ρ S = .ok (.int j) S1) (hr : rngOk j = true) : evI (.rng1 a) ρ S = .ok ⟨rngL 0 j.toNat, []⟩ S1 := by
  rw [ev_rng1, h]
  show guardR (rngOk j) _ = _
  rw [hr]
  rfl
/-! ### the deck -/
structure Deck (S : Store) (n m : Nat) : Prop where
  ex : ∃ (cs : List Int) (a b : Int), S[n]? = some (.lst [.adr m, .int a, .int b]) ∧ S[m]? = some (.lst (cs.map D.int))
  ne : n ≠ m
/-- but for the deck's two cells the store stays -/
structure Stay (n m : Nat) (S S' : Store) : Prop where
  len : S.length ≤ S'.length
  old : ∀ i, i ≠ n → i ≠ m → i < S.length → S'[i]? = S[i]?
theorem Stay.refl {n m : Nat} {S : Store} : Stay n m S S := ⟨Nat.le_refl _, fun _ _ _ _ => rfl⟩
theorem Stay.trans {n m : Nat} {S S1 S2 : Store} (x : Stay n m S S1) (y : Stay n m S1 S2) : Stay n m S S2 := ⟨Nat.le_trans x.len y.len, fun i h1 h2 h3 => by rw [y.old i h1 h2 (Nat.lt_of_lt_of_le h3 x.len), x.old i h1 h2 h3]⟩
theorem depths_ints : ∀ cs : List Int, D.depths (cs.map D.int) = 0
  | [] => by simp [D.depths]
  | c :: cs => by simp [D.depths, D.depth, depths_ints cs]
theorem p6 : powOk 10 6 = true := by decide +kernel
theorem p18 : powOk 10 18 = true := by decide +kernel
theorem p40 : powOk 10 40 = true := by decide +kernel
theorem m1 (i : Int) : mulOk i 69621 = true := by simp [mulOk, small64]
theorem m2 (i : Int) : mulOk i 40014 = true := by simp [mulOk, small64]
theorem m3 (i : Int) : mulOk i 48271 = true := by simp [mulOk, small64]
theorem m4 (i : Int) : mulOk 2 i = true := by simp [mulOk, small64]
theorem m5 (i : Int) : mulOk i 2 = true := by simp [mulOk, small64]
theorem d53 : divOk 53 = true := by decide +kernel
/-- ints of the deck's list, the first one popped -/
theorem ne_nil {S : Store} {m : Nat} {cs : List Int} (h : S[m]? = some (.lst (cs.map D.int))) : eqR true S (.adr m) (.lst []) = .ok (.bl (!cs.isEmpty)) S := by
  unfold eqR snap
  simp only [h, frees_ints, if_true, frs_nil, fr_lst]
  have e1 : (D.lst (cs.map D.int)).depth = 1 := by simp [D.depth, depths_ints]
  have e2 : (D.lst []).depth = 1 := by simp [D.depth, D.depths]
  rw [e1, e2]
  simp [D.eqv, eqvs_nil]
theorem pop0 {S : Store} {m : Nat} {c : Int} {cs : List Int} (h : S[m]? = some (.lst ((c :: cs).map D.int))) : guardR (mkind .popAt S (.adr m)) (methV .popAt S (.adr m) [.int 0]) = .ok (.int c) (S.set m (.lst (cs.map D.int))) := by
  have e1 : mkind .popAt S (.adr m) = true := by simp [mkind, ME.ofDict, asLstW, h]
  rw [e1, guardR_true]
  unfold methV
  simp [h]
  have : L2.ixN (cs.length + 1) 0 = some 0 := by
    unfold L2.ixN
    rw [if_pos (by omega), if_pos (by omega)]
    rfl
  rw [this]
  simp
theorem set_cell {S : Store} {n : Nat} {xs : List D} {i : Int} {k : Nat} {v : D} (h : S[n]? = some (.lst xs)) (hi : i = (k : Int)) (hk : k < xs.length) : setV S (.adr n) (.int i) v = .ok () (S.set n (.lst (xs.set k v))) := by
  unfold setV
  simp only [h]
  have : L2.ixN xs.length i = some k := by
    unfold L2.ixN
    rw [if_pos (by omega), if_pos (by omega), hi, Int.toNat_natCast]
  rw [this]
theorem ix_cell {S : Store} {n : Nat} {xs : List D} (i : Int) (h : S[n]? = some (.lst xs)) : ixV S (.adr n) (.int i) = optR (L2.atI xs i) S := by
  unfold ixV
  simp [asLst, h]
theorem kind_cell {S : Store} {t : Nat} {xs : List D} (m : ME) (hm : m.ofDict = false) (h : S[t]? = some (.lst xs)) : mkind m S (.adr t) = true := by
  unfold mkind
  rw [hm]
  simp [asLstW, h]
theorem app_cell {S : Store} {t : Nat} {xs : List D} {v : D} (h : S[t]? = some (.lst xs)) (hl : xs.length < PySem.sizeLine) : methV .append S (.adr t) [v] = .ok .non (S.set t (.lst (xs ++ [v]))) := by
  unfold methV
  simp [h, hl]
theorem tup_cell {S : Store} {t : Nat} {xs : List D} (h : S[t]? = some (.lst xs)) : biV .tuple S [.adr t] = .ok (.tup xs) S := by
  unfold biV
  simp [asLst, h]
theorem Deck.lt {S : Store} {n m : Nat} (h : Deck S n m) : n < S.length ∧ m < S.length := by
  obtain ⟨⟨cs, a, b, h1, h2⟩, _⟩ := h
  exact ⟨(List.getElem?_eq_some_iff.mp h1).1, (List.getElem?_eq_some_iff.mp h2).1⟩
/-- another cell is written -/
theorem Deck.put {S : Store} {n m t : Nat} (h : Deck S n m) (hn : t ≠ n) (hm : t ≠ m) (c : Cell) : Deck (S.set t c) n m := by
  obtain ⟨⟨cs, a, b, h1, h2⟩, ne⟩ := h
  exact ⟨⟨cs, a, b, by rw [List.getElem?_set_ne hn]; exact h1, by rw [List.getElem?_set_ne hm]; exact h2⟩, ne⟩
theorem Deck.app {S : Store} {n m : Nat} (h : Deck S n m) (c : Cell) : Deck (S ++ [c]) n m := by
  obtain ⟨h3, h4⟩ := h.lt
  obtain ⟨⟨cs, a, b, h1, h2⟩, ne⟩ := h
  exact ⟨⟨cs, a, b, by rw [List.getElem?_append_left h3]; exact h1, by rw [List.getElem?_append_left h4]; exact h2⟩, ne⟩
theorem Stay.app {n m : Nat} {S S' : Store} (h : Stay n m S S') (c : Cell) : Stay n m S (S' ++ [c]) :=
  ⟨by simp; have := h.len; omega, fun i h1 h2 h3 => by rw [List.getElem?_append_left (Nat.lt_of_lt_of_le h3 h.len)]; exact h.old i h1 h2 h3⟩
theorem Stay.put {n m t : Nat} {S S' : Store} (h : Stay n m S S') (ht : S.length ≤ t) (c : Cell) : Stay n m S (S'.set t c) :=
  ⟨by simpa using h.len, fun i h1 h2 h3 => by rw [List.getElem?_set_ne (by omega)]; exact h.old i h1 h2 h3⟩
end PX
namespace PX
open PySem
theorem sz100000 {n : Nat} (h : n ≤ 100000) : n ≤ PySem.sizeLine := Nat.le_trans h (by decide)
theorem xor1 (l : Int) : PySem.Builtin.bitXor l 1 = flipI l := by rw [PyProof.Rows.bitXor_and, PyProof.Rows.bitAnd_m1]; rfl
theorem and1 (l : Int) : PySem.Builtin.bitAnd l 1 = l % 2 := PyProof.Rows.bitAnd_m1 l
def sumD (ts : List (Int × Int)) (dg : Int) : D := .tup [.tup (ts.map pairD), .int dg]
@[simp] theorem free_sum (ts : List (Int × Int)) (dg : Int) : (sumD ts dg).free = true := by simp [sumD, frees_pairs]
theorem plains_pairs (ts : List (Int × Int)) : D.plains (ts.map pairD) = true := by
  induction ts with
  | nil => rfl
  | cons t ts ih => simp [D.plains, D.plain, pairD, ih]
theorem plain_sum (ts : List (Int × Int)) (dg : Int) : (sumD ts dg).plain = true := by simp [sumD, D.plain, D.plains, plains_pairs]
theorem depths_pairs : ∀ ts : List (Int × Int), D.depths (ts.map pairD) ≤ 1
  | [] => by simp [D.depths]
  | t :: ts => by
    have := depths_pairs ts
    simp only [List.map_cons, D.depths, pairD, D.depth]
    omega
theorem depth_sum (ts : List (Int × Int)) (dg : Int) : (sumD ts dg).depth ≤ 3 := by
  have := depths_pairs ts
  simp only [sumD, D.depth, D.depths]; omega
theorem szs_pairs : ∀ ts : List (Int × Int), D.szs (ts.map pairD) = 3 * ts.length
  | [] => rfl
  | t :: ts => by
    have := szs_pairs ts
    simp only [List.map_cons, D.szs, pairD, D.sz, List.length_cons, this]; omega
theorem sz_sum (ts : List (Int × Int)) (dg : Int) : D.sz (sumD ts dg) = 3 * ts.length + 3 := by
  simp only [sumD, D.sz, D.szs, szs_pairs]
theorem ix0_sum {ts : List (Int × Int)} {dg : Int} {S : Store} : ixV S (sumD ts dg) (.int 0) = .ok (.tup (ts.map pairD)) S := by simp [sumD]
theorem ix1_sum {ts : List (Int × Int)} {dg : Int} {S : Store} : ixV S (sumD ts dg) (.int 1) = .ok (.int dg) S := by simp [sumD]
theorem sum_inj {ts us : List (Int × Int)} {a b : Int} (h : sumD ts a = sumD us b) : ts = us ∧ a = b := by
  simp only [sumD, D.tup.injEq, List.cons.injEq, D.int.injEq, and_true] at h
  refine ⟨?_, h.2⟩
  have h2 := congrArg asPairs h.1
  rw [asPairs_map, asPairs_map] at h2
  exact Option.some.inj h2
/-! ### any object -/
mutual
/-- made of None, truths, ints, texts, tuples, lists of at most 100,000 entries -/
def D.good : D → Bool
  | .non => true | .bl _ => true | .int _ => true | .str _ => true
  | .tup xs => decide (xs.length ≤ 100000) && D.goods xs
  | .lst xs => decide (xs.length ≤ 100000) && D.goods xs
  | _ => false
def D.goods : List D → Bool
  | [] => true
  | x :: xs => D.good x && D.goods xs
end
theorem goods_iff : ∀ {xs : List D}, D.goods xs = true ↔ ∀ x ∈ xs, D.good x = true
  | [] => by simp [D.goods]
  | x :: xs => by simp [D.goods, goods_iff (xs := xs)]
mutual
theorem D.good.free : ∀ {d : D}, d.good = true → d.free = true
  | .non, _ => by simp
  | .bl _, _ => by simp
  | .int _, _ => by simp
  | .str _, _ => by simp
  | .tup xs, h => by rw [fr_tup]; exact D.goods.free (by simp only [D.good, Bool.and_eq_true] at h; exact h.2)
  | .lst xs, h => by rw [fr_lst]; exact D.goods.free (by simp only [D.good, Bool.and_eq_true] at h; exact h.2)
  | .scr _, h => by simp [D.good] at h
  | .kup _, h => by simp [D.good] at h
  | .adr _, h => by simp [D.good] at h
theorem D.goods.free : ∀ {xs : List D}, D.goods xs = true → D.frees xs = true
  | [], _ => by simp
  | x :: xs, h => by
    simp only [D.goods, Bool.and_eq_true] at h
    rw [frs_cons, D.good.free h.1, D.goods.free h.2]; rfl
end
theorem goods_pairs (ts : List (Int × Int)) : D.goods (ts.map pairD) = true := by
  induction ts with
  | nil => rfl
  | cons t ts ih => simp [D.goods, D.good, pairD, ih]
theorem goods_append (xs ys : List D) : D.goods (xs ++ ys) = (D.goods xs && D.goods ys) := by
  induction xs with
  | nil => simp [D.goods]
  | cons x xs ih => simp [D.goods, ih, Bool.and_assoc]
theorem good_tup {xs : List D} (h : (D.tup xs).good = true) : xs.length ≤ 100000 ∧ D.goods xs = true := by
  simp only [D.good, Bool.and_eq_true, decide_eq_true_eq] at h; exact h
theorem good_sum {ts : List (Int × Int)} {dg : Int} (h : ts.length ≤ 100000) : (sumD ts dg).good = true := by
  simp [sumD, D.good, D.goods, goods_pairs, h]
/-- a tuple of so many entries -/
def rowB (d : D) (lo hi : Int) : Bool := match d with
  | .tup xs => decide (lo ≤ xs.length) && decide ((xs.length : Int) ≤ hi)
  | .kup xs => decide (lo ≤ xs.length) && decide ((xs.length : Int) ≤ hi)
  | _ => false
/-- an int from so much on -/
def fromB (k : Int) (d : D) : Bool := match d with
  | .int i => decide (k ≤ i)
  | _ => false
def withinB (d : D) (lo hi : Int) : Bool := match d with
  | .int i => decide (lo ≤ i) && decide (i ≤ hi)
  | _ => false
def termB (t : Int × Int) : Bool := decide (0 ≤ t.1) && decide (1 ≤ t.2)
def termD (d : D) : Bool := match d with
  | .tup [a, b] => fromB 0 a && fromB 1 b
  | _ => false
theorem termD_pair (t : Int × Int) : termD (pairD t) = termB t := rfl
theorem termD_inv {d : D} (h : termD d = true) : ∃ t, d = pairD t ∧ termB t = true := by
  unfold termD at h
  split at h
  · rename_i a b
    rw [Bool.and_eq_true] at h
    cases a <;> simp [fromB] at h
    rename_i i
    cases b <;> simp [fromB] at h
    rename_i j
    exact ⟨(i, j), rfl, by simp [termB, h.1, h.2]⟩
  · cases h
theorem terms_inv : ∀ {xs : List D}, xs.all termD = true → ∃ ts : List (Int × Int), xs = ts.map pairD ∧ ts.all termB = true
  | [], _ => ⟨[], rfl, rfl⟩
  | x :: xs, h => by
    rw [List.all_cons, Bool.and_eq_true] at h
    obtain ⟨t, rfl, h1⟩ := termD_inv h.1
    obtain ⟨ts, rfl, h2⟩ := terms_inv h.2
    exact ⟨t :: ts, rfl, by rw [List.all_cons, h1, h2]; rfl⟩
theorem terms_all (ts : List (Int × Int)) : (ts.map pairD).all termD = ts.all termB := by rw [List.all_map]; rfl
/-- ascending -/
def ascB (vs : List Int) : Bool := (vs.zip (vs.drop 1)).all fun p => decide (p.1 < p.2)
theorem asc_cons (x y : Int) (r : List Int) : ascB (x :: y :: r) = (decide (x < y) && ascB (y :: r)) := rfl
theorem asc_iff : ∀ {vs : List Int}, ascB vs = true ↔ vs.Pairwise (· < ·)
  | [] => by simp [ascB]
  | [x] => by simp [ascB]
  | x :: y :: r => by
    have ih := asc_iff (vs := y :: r)
    rw [asc_cons, Bool.and_eq_true, ih, decide_eq_true_eq, List.pairwise_cons (a := x)]
    constructor
    · intro ⟨h1, h2⟩
      refine ⟨fun z hz => ?_, h2⟩
      rcases List.mem_cons.mp hz with e | hz
      · subst e; exact h1
      · exact Int.lt_trans h1 ((List.pairwise_cons.mp h2).1 z hz)
    · intro ⟨h1, h2⟩
      exact ⟨h1 y List.mem_cons_self, h2⟩
def termsD (d : D) : Bool := match d with
  | .tup xs => match asPairs xs with
    | some ts => ts.all termB && ascB (ts.map fun t => t.1 / 2)
    | none => false
  | _ => false
theorem termsD_pairs (ts : List (Int × Int)) : termsD (.tup (ts.map pairD)) = (ts.all termB && ascB (ts.map fun t => t.1 / 2)) := by
  unfold termsD
  dsimp only
  rw [asPairs_map]
theorem termsD_not {xs : List D} (h : xs.all termD = false) : termsD (.tup xs) = false := by
  unfold termsD
  dsimp only
  split
  · rename_i ts e
    have e2 := asPairs_eq e
    subst e2
    rw [terms_all] at h
    rw [h]; rfl
  · rfl
def sumB (d : D) : Bool := match d with
  | .tup [a, b] => termsD a && b.isI
  | _ => false
theorem SumOk.all {ts : List (Int × Int)} (h : SumOk ts) : ts.all termB = true := by
  rw [List.all_eq_true]
  intro t ht
  obtain ⟨h1, h2⟩ := h.tm t ht
  simp [termB, h1, h2]
theorem SumOk.terms {ts : List (Int × Int)} (h : SumOk ts) : termsD (.tup (ts.map pairD)) = true := by
  rw [termsD_pairs, h.all, asc_iff.mpr h.asc]; rfl
theorem SumOk.sumB {ts : List (Int × Int)} (h : SumOk ts) (dg : Int) : sumB (sumD ts dg) = true := by
  unfold sumD PX.sumB
  simp [h.terms]
theorem terms_ok {ts : List (Int × Int)} (h : termsD (.tup (ts.map pairD)) = true) (hl : ts.length ≤ 100000) : SumOk ts := by
  rw [termsD_pairs, Bool.and_eq_true] at h
  refine ⟨fun t ht => ?_, asc_iff.mp h.2, hl⟩
  have := List.all_eq_true.mp h.1 t ht
  simpa [termB] using this
theorem termsD_inv {d : D} (h : termsD d = true) : ∃ ts : List (Int × Int), d = .tup (ts.map pairD) := by
  unfold termsD at h
  split at h
  · split at h
    · rename_i e
      exact ⟨_, by rw [asPairs_eq e]⟩
    · cases h
  · cases h
theorem sumB_inv {d : D} (h : sumB d = true) : ∃ ts dg, d = sumD ts dg ∧ termsD (.tup (ts.map pairD)) = true := by
  unfold sumB at h
  split at h
  · rename_i a b
    rw [Bool.and_eq_true] at h
    obtain ⟨ts, rfl⟩ := termsD_inv h.1
    have hb := h.2
    cases b <;> simp [D.isI] at hb
    exact ⟨ts, _, rfl, h.1⟩
  · cases h
/-! ### outcomes by what is asked of them -/
def R.wp {α : Type} (r : R α) (Q : α → Store → Prop) : Prop := match r with
  | .ok a S => Q a S
  | _ => False
def RS.wp (r : RS) (Q : Fl → Env → Store → Prop) : Prop := match r with
  | .fl f ρ S => Q f ρ S
  | _ => False
@[simp] theorem wp_ok {α : Type} (a : α) (S : Store) (Q : α → Store → Prop) : (R.ok a S).wp Q = Q a S := rfl
@[simp] theorem wp_exc {α : Type} (c : PySem.Str) (S : Store) (Q : α → Store → Prop) : (R.exc c S).wp Q = False := rfl
@[simp] theorem wp_stuck {α : Type} (Q : α → Store → Prop) : (R.stuck : R α).wp Q = False := rfl
@[simp] theorem wps_fl (f : Fl) (ρ : Env) (S : Store) (Q : Fl → Env → Store → Prop) : (RS.fl f ρ S).wp Q = Q f ρ S := rfl
@[simp] theorem wps_exc (c : PySem.Str) (ρ : Env) (S : Store) (Q : Fl → Env → Store → Prop) : (RS.exc c ρ S).wp Q = False := rfl
@[simp] theorem wps_stuck (Q : Fl → Env → Store → Prop) : RS.stuck.wp Q = False := rfl
@[simp] theorem wp_bind {α β : Type} (r : R α) (f : α → Store → R β) (Q : β → Store → Prop) : (r.bind f).wp Q = r.wp fun a S => (f a S).wp Q := by cases r <;> rfl
@[simp] theorem wp_then {α : Type} (r : R α) (ρ : Env) (f : α → Store → RS) (Q : Fl → Env → Store → Prop) : (r.then ρ f).wp Q = r.wp fun a S => (f a S).wp Q := by cases r <;> rfl
theorem R.wp.imp {α : Type} {r : R α} {P Q : α → Store → Prop} (h : r.wp P) (k : ∀ a S, P a S → Q a S) : r.wp Q := by
  cases r <;> first | exact k _ _ h | exact h
theorem RS.wp.imp {r : RS} {P Q : Fl → Env → Store → Prop} (h : r.wp P) (k : ∀ f ρ S, P f ρ S → Q f ρ S) : r.wp Q := by
  cases r <;> first | exact k _ _ _ h | exact h
theorem R.wp.ex {α : Type} {r : R α} {Q : α → Store → Prop} (h : r.wp Q) : ∃ a S, r = .ok a S ∧ Q a S := by
  cases r <;> first | exact ⟨_, _, rfl, h⟩ | exact h.elim
theorem RS.wp.ex {r : RS} {Q : Fl → Env → Store → Prop} (h : r.wp Q) : ∃ f ρ S, r = .fl f ρ S ∧ Q f ρ S := by
  cases r <;> first | exact ⟨_, _, _, rfl, h⟩ | exact h.elim
/-- what comes behind a statement -/
def thenB (n : Nat) (r : B) (Q : Fl → Env → Store → Prop) (f : Fl) (ρ : Env) (S : Store) : Prop := match f with
  | .next => (evB n r ρ S).wp Q
  | .ret d => Q (.ret d) ρ S
  | .brk => Q .brk ρ S
  | .cont => Q .cont ρ S
@[simp] theorem then_next (n : Nat) (r : B) (Q : Fl → Env → Store → Prop) (ρ : Env) (S : Store) : thenB n r Q .next ρ S = (evB n r ρ S).wp Q := rfl
@[simp] theorem then_ret (n : Nat) (r : B) (Q : Fl → Env → Store → Prop) (d : D) (ρ : Env) (S : Store) : thenB n r Q (.ret d) ρ S = Q (.ret d) ρ S := rfl
@[simp] theorem then_brk (n : Nat) (r : B) (Q : Fl → Env → Store → Prop) (ρ : Env) (S : Store) : thenB n r Q .brk ρ S = Q .brk ρ S := rfl
@[simp] theorem then_cont (n : Nat) (r : B) (Q : Fl → Env → Store → Prop) (ρ : Env) (S : Store) : thenB n r Q .cont ρ S = Q .cont ρ S := rfl
@[simp] theorem wpB_nil {n : Nat} {ρ : Env} {S : Store} {Q : Fl → Env → Store → Prop} : (evB n .nil ρ S).wp Q = Q .next ρ S := rfl
@[simp] theorem wpB_cons {n : Nat} {s : PX.S} {r : B} {ρ : Env} {S : Store} {Q : Fl → Env → Store → Prop} : (evB n (.cons s r) ρ S).wp Q = (evS n s ρ S).wp (thenB n r Q) := by
  rw [eb_cons]
  cases evS n s ρ S with
  | fl f ρ' S' => cases f <;> rfl
  | exc c ρ' S' => rfl
  | stuck => rfl
/-- how a def ends -/
def endQ (Q : D → Store → Prop) (f : Fl) (_ : Env) (S : Store) : Prop := match f with
  | .next => Q .non S
  | .ret d => Q d S
  | _ => False
@[simp] theorem end_next (Q : D → Store → Prop) (ρ : Env) (S : Store) : endQ Q .next ρ S = Q .non S := rfl
@[simp] theorem end_ret (Q : D → Store → Prop) (d : D) (ρ : Env) (S : Store) : endQ Q (.ret d) ρ S = Q d S := rfl
theorem wp_run {n m : Nat} {b : B} {S : Store} {ds : List D} {Q : D → Store → Prop} : (runB n m b S ds).wp Q = (evB n b (ds.map some ++ List.replicate (m - ds.length) none) S).wp (endQ Q) := by
  unfold runB
  cases evB n b (ds.map some ++ List.replicate (m - ds.length) none) S with
  | fl f ρ' S' => cases f <;> rfl
  | exc c ρ' S' => rfl
  | stuck => rfl
theorem wp_callT {f : FnI} {ds : List D} {S : Store} {Q : D → Store → Prop} (h : (f.sem S ds).wp Q) (hl : ds.length = f.ps.length) : (callV true f ds S).wp Q := by
  unfold callV
  rw [decide_eq_true hl, guardR_true]
  exact h
/-- a call apart, its value told -/
theorem call_wp {f : FnI} {ds : List D} {d : D} (S : Store) (h : (f.sem [] ds).wp fun x _ => x = d) (hl : ds.length = f.ps.length) (hf : D.frees ds = true) (hd : d.free = true) : callV false f ds S = .ok d S := by
  obtain ⟨x, S0, e, rfl⟩ := h.ex
  exact callV_ok S e hl hf hd
theorem wp_callF {f : FnI} {ds : List D} {S : Store} {Q : D → Store → Prop} (h : (f.sem [] ds).wp fun x _ => x.free = true ∧ Q x S) (hl : ds.length = f.ps.length) (hf : D.frees ds = true) : (callV false f ds S).wp Q := by
  obtain ⟨x, S0, e, h1, h2⟩ := h.ex
  rw [callV_ok S e hl hf h1]
  exact h2
/-- a turn of a walk -/
def turnQ (P : Env → Store → Prop) (Q : Fl → Env → Store → Prop) (f : Fl) (ρ : Env) (S : Store) : Prop := match f with
  | .next => P ρ S
  | .cont => P ρ S
  | .brk => Q .next ρ S
  | .ret d => Q (.ret d) ρ S
@[simp] theorem turn_next (P : Env → Store → Prop) (Q : Fl → Env → Store → Prop) (ρ : Env) (S : Store) : turnQ P Q .next ρ S = P ρ S := rfl
@[simp] theorem turn_cont (P : Env → Store → Prop) (Q : Fl → Env → Store → Prop) (ρ : Env) (S : Store) : turnQ P Q .cont ρ S = P ρ S := rfl
@[simp] theorem turn_brk (P : Env → Store → Prop) (Q : Fl → Env → Store → Prop) (ρ : Env) (S : Store) : turnQ P Q .brk ρ S = Q .next ρ S := rfl
@[simp] theorem turn_ret (P : Env → Store → Prop) (Q : Fl → Env → Store → Prop) (d : D) (ρ : Env) (S : Store) : turnQ P Q (.ret d) ρ S = Q (.ret d) ρ S := rfl
theorem wp_for {w : Ws} {t : T} {body : Env → Store → RS} {ρ : Env} {S : Store} {Q : Fl → Env → Store → Prop} (P : Nat → Env → Store → Prop) (h0 : P 0 ρ S) (hok : ∀ i ρ S, P i ρ S → w.ok S = true)
    (hstep : ∀ i d ρ S, w.ds[i]? = some d → P i ρ S → ∃ ρ1, asgT t d ρ = some ρ1 ∧ (body ρ1 S).wp (turnQ (P (i + 1)) Q)) (hend : ∀ ρ S, P w.ds.length ρ S → Q .next ρ S) : (forLoop w t body w.ds ρ S).wp Q := by
  suffices h : ∀ (k i : Nat) (ρ : Env) (S : Store), i + k = w.ds.length → P i ρ S → (forLoop w t body (w.ds.drop i) ρ S).wp Q by
    simpa using h w.ds.length 0 ρ S (by omega) h0
  intro k
  induction k with
  | zero =>
    intro i ρ S hi hp
    have : i = w.ds.length := by omega
    subst this
    rw [List.drop_length]
    unfold forLoop
    rw [hok _ _ _ hp]
    exact hend _ _ hp
  | succ k ih =>
    intro i ρ S hi hp
    have hlt : i < w.ds.length := by omega
    rw [List.drop_eq_getElem_cons hlt]
    obtain ⟨ρ1, e1, e2⟩ := hstep i _ ρ S (List.getElem?_eq_getElem hlt) hp
    unfold forLoop
    rw [hok _ _ _ hp]
    dsimp only
    rw [e1]
    dsimp only
    obtain ⟨f, ρ2, S2, e3, e4⟩ := e2.ex
    rw [e3]
    cases f with
    | next => exact ih (i + 1) ρ2 S2 (by omega) e4
    | cont => exact ih (i + 1) ρ2 S2 (by omega) e4
    | brk => exact e4
    | ret d => exact e4
theorem wp_while {c : Env → Store → R D} {body : Env → Store → RS} {ρ : Env} {S : Store} {Q : Fl → Env → Store → Prop} (P : Nat → Env → Store → Prop) {n : Nat} (h0 : P n ρ S)
    (hstep : ∀ i ρ S, P i ρ S → (c ρ S).wp fun d S1 => ∃ b, truthy S1 d = some b ∧ match b with
      | true => ∃ j, i = j + 1 ∧ (body ρ S1).wp (turnQ (P j) Q)
      | false => Q .next ρ S1) : (whileLoop c body (n + 1) ρ S).wp Q := by
  induction n generalizing ρ S with
  | zero =>
    unfold whileLoop
    obtain ⟨d, S1, e, b, h1, h2⟩ := (hstep 0 ρ S h0).ex
    rw [e, R.then_ok, h1]
    cases b with
    | true => obtain ⟨j, hj, _⟩ := h2; omega
    | false => exact h2
  | succ n ih =>
    unfold whileLoop
    obtain ⟨d, S1, e, b, h1, h2⟩ := (hstep (n + 1) ρ S h0).ex
    rw [e, R.then_ok, h1]
    cases b with
    | true =>
      obtain ⟨j, hj, h3⟩ := h2
      have hj : j = n := by omega
      subst hj
      obtain ⟨f, ρ2, S2, e3, e4⟩ := h3.ex
      dsimp only
      rw [e3]
      cases f with
      | next => exact ih e4
      | cont => exact ih e4
      | brk => exact e4
      | ret d => exact e4
    | false => exact h2
/-- a comprehension -/
theorem wp_lc {vs : List Nat} {mu : Bool} {t : T} {it : I} {c : O} {e : E} {ρ : Env} {S S1 : Store} {w : Ws} {Q : D → Store → Prop} (P : Nat → List D → Store → Prop) (hi : evI it ρ S = .ok w S1) (h0 : P 0 [] S1) (hl : w.ds.length ≤ PySem.sizeLine) (hok : ∀ i acc S, P i acc S → w.ok S = true)
    (hstep : ∀ i d acc S, w.ds[i]? = some d → P i acc S → ∃ ρ1, asgT t d (wipeE ρ vs) = some ρ1 ∧ (evC c ρ1 S).wp fun b S => match b with
      | true => (evE e ρ1 S).wp fun y S => P (i + 1) (acc ++ [y]) S
      | false => P (i + 1) acc S) (hend : ∀ acc S, P w.ds.length acc S → acc.length ≤ w.ds.length → (endL mu acc S).wp Q) : (evE (.lc vs mu t it c e) ρ S).wp Q := by
  obtain ⟨acc, S', e1, h2, h3⟩ := lc_inv (w := w) (turn := turnE t vs (evC c) (evE e) ρ) (P := fun i acc S => P i acc S ∧ acc.length ≤ i) (fun i acc S h => hok i acc S h.1) (fun i d acc S hd ⟨hp, hle⟩ => by
    obtain ⟨ρ1, h1, h2⟩ := hstep i d acc S hd hp
    unfold turnE
    rw [h1]
    dsimp only
    obtain ⟨b, S2, e2, h3⟩ := h2.ex
    rw [e2, R.bind_ok]
    cases b with
    | false => exact ⟨acc, S2, rfl, h3, by omega⟩
    | true =>
      obtain ⟨y, S3, e3, h4⟩ := R.wp.ex h3
      have hlt : i < w.ds.length := (List.getElem?_eq_some_iff.mp hd).1
      have : acc.length < PySem.sizeLine := by omega
      refine ⟨acc ++ [y], S3, ?_, h4, by simp; omega⟩
      dsimp only
      rw [e3, R.bind_ok, decide_eq_true this]
      rfl) (acc := []) (S := S1) ⟨h0, by simp⟩
  show ((evI it ρ S).bind (fun w S => (lcLoop w (turnE t vs (evC c) (evE e) ρ) w.ds [] S).bind fun acc S => endL mu acc S)).wp Q
  rw [hi, R.bind_ok, e1, R.bind_ok]
  exact hend acc S' h2 h3
@[simp] theorem endL_false (acc : List D) (S : Store) : endL false acc S = .ok (.lst acc) S := rfl
@[simp] theorem endL_true (acc : List D) (S : Store) : endL true acc S = .ok (.adr S.length) (S ++ [.lst acc]) := rfl
@[simp] theorem wp_for_ {n : Nat} {t : T} {it : I} {b : B} {ρ : Env} {S : Store} {Q : Fl → Env → Store → Prop} : (evS n (.for_ t it b) ρ S).wp Q = (evI it ρ S).wp fun w S => (forLoop w t (evB n b) w.ds ρ S).wp Q := by
  rw [es_for, wp_then]
theorem lg {k : Int} (h : 0 ≤ k) (h2 : k < 2 ^ 9000) : k.natAbs.log2 < 9000 := by
  have h3 : k.natAbs < 2 ^ 9000 := by
    have : ((2 ^ 9000 : Nat) : Int) = (2 : Int) ^ 9000 := by norm_cast
    omega
  by_cases h0 : k.natAbs = 0
  · rw [h0]; decide
  · exact (Nat.log2_lt h0).mpr h3
end PX
namespace PX
/-! ### a dict of ints by ints, as a cell -/
def encN (net : List (Int × Int)) : List (L2.Key × D) := net.map fun q => (Sum.inl q.1, D.int q.2)
theorem valD_enc (v : Int) : ∀ net : List (Int × Int), ((valD (encN net) (Sum.inl v)).getD (.int 0)) = .int (getN net v)
  | [] => rfl
  | (k, b) :: r => by
    have ih := valD_enc v r
    unfold valD encN at ih ⊢
    rw [List.map_cons, List.find?_cons]
    by_cases h : k = v
    · simp [h, getN]
    · simp only [Sum.inl.injEq, h, decide_false, getN, if_false]
      exact ih
theorem valD_has {v : Int} : ∀ {net : List (Int × Int)}, hasN net v = true → valD (encN net) (Sum.inl v) = some (.int (getN net v))
  | [], h => by simp [hasN] at h
  | (k, b) :: r, h => by
    unfold valD encN
    rw [List.map_cons, List.find?_cons]
    by_cases e : k = v
    · simp [e, getN]
    · have h2 : hasN r v = true := by simpa [hasN, e] using h
      have ih := valD_has h2
      unfold valD encN at ih
      simp only [Sum.inl.injEq, e, decide_false, getN, if_false]
      exact ih
theorem any_enc (v : Int) (net : List (Int × Int)) : ((encN net).any fun kv => decide (kv.1 = Sum.inl v)) = hasN net v := by
  induction net with
  | nil => rfl
  | cons q r ih =>
    simp only [encN, List.map_cons, List.any_cons, hasN] at ih ⊢
    rw [ih]
    simp
theorem putN_not {v a : Int} : ∀ {net : List (Int × Int)}, hasN net v = false → putN net v a = net ++ [(v, a)]
  | [], _ => rfl
  | (k, b) :: r, h => by
    simp only [hasN, Bool.or_eq_false_iff, decide_eq_false_iff_not] at h
    simp only [putN, h.1, if_false, List.cons_append, putN_not h.2]
theorem putN_has {v a : Int} : ∀ {net : List (Int × Int)}, (keysN net).Nodup → hasN net v = true → putN net v a = net.map fun q => if q.1 = v then (q.1, a) else q
  | [], _, h => by simp [hasN] at h
  | (k, b) :: r, hn, h => by
    have hn2 := List.nodup_cons.mp (show (k :: keysN r).Nodup from hn)
    unfold putN
    by_cases e : k = v
    · subst e
      have : r.map (fun q => if q.1 = k then (q.1, a) else q) = r := by
        conv => rhs; rw [← List.map_id r]
        apply List.map_congr_left
        intro q hq
        have : ¬ q.1 = k := fun e => hn2.1 (e ▸ List.mem_map.mpr ⟨q, hq, rfl⟩)
        simp [this]
      simp [this]
    · have h2 : hasN r v = true := by simpa [hasN, e] using h
      simp only [e, if_false, List.map_cons, putN_has hn2.2 h2]
theorem putD_enc {v a : Int} {net : List (Int × Int)} (hn : (keysN net).Nodup) : putD (encN net) (Sum.inl v) (.int a) = encN (putN net v a) := by
  unfold putD
  rw [any_enc]
  cases h : hasN net v with
  | true =>
    rw [if_pos rfl, putN_has hn h]
    unfold encN
    rw [List.map_map, List.map_map]
    apply List.map_congr_left
    intro q _
    by_cases e : q.1 = v <;> simp [e]
  | false =>
    rw [if_neg (by simp), putN_not h]
    simp [encN]
theorem keyInts_enc : ∀ net : List (Int × Int), keyInts (encN net) = some (keysN net)
  | [] => rfl
  | q :: r => by
    have ih := keyInts_enc r
    simp only [encN, keysN, List.map_cons, keyInts] at ih ⊢
    rw [ih]; rfl
theorem sortI_perm (ns : List Int) : (sortI ns).Perm ns := List.mergeSort_perm ns _
theorem sortI_asc (ns : List Int) : (sortI ns).Pairwise (· ≤ ·) := by
  have := List.pairwise_mergeSort (le := fun a b : Int => decide (a ≤ b)) (fun a b c h1 h2 => by simp at h1 h2 ⊢; omega) (fun a b => by simp; omega) ns
  unfold sortI
  exact this.imp fun h => by simpa using h
theorem sortI_lt {ns : List Int} (h : ns.Nodup) : (sortI ns).Pairwise (· < ·) := by
  have h1 := sortI_asc ns
  have h2 : (sortI ns).Nodup := (sortI_perm ns).nodup_iff.mpr h
  have := h1.and h2
  exact this.imp fun {a b} ⟨p, q⟩ => by have : a ≠ b := q; omega
theorem map_sum_perm (f : Int → Int) {xs ys : List Int} (h : xs.Perm ys) : (xs.map f).sum = (ys.map f).sum := by
  induction h with
  | nil => rfl
  | cons a _ ih => simp [ih]
  | swap a b l => simp; omega
  | trans _ _ h1 h2 => rw [h1, h2]
end PX
namespace PX
theorem add_tup {S : Store} {xs ys : List D} (h : xs.length + ys.length ≤ 1000000) : binV .add S (D.tup xs) (D.tup ys) = R.ok (D.tup (xs ++ ys)) S := by
  show guardR (decide (xs.length + ys.length ≤ PySem.sizeLine)) (R.ok (D.tup (xs ++ ys)) S) = _
  rw [decide_eq_true (Nat.le_trans h (by decide)), guardR_true]
/-- a weighted literal -/
def wghtD (d : D) : Bool := match d with
  | .tup [a, b] => fromB (-2) a && b.isI
  | _ => false
theorem wghtD_pair (p : Int × Int) : wghtD (pairD p) = decide (-2 ≤ p.1) := by simp [wghtD, pairD, fromB]
def pairsD (d : D) : Bool := match d with
  | .tup xs => decide (xs.length ≤ 1000) && xs.all wghtD
  | _ => false
theorem pairsD_ok {ps : List (Int × Int)} (hl : ps.length ≤ 1000) (h : ∀ p ∈ ps, -2 ≤ p.1) : pairsD (.tup (ps.map pairD)) = true := by
  simp only [pairsD, List.length_map, Bool.and_eq_true, decide_eq_true_eq, List.all_map, List.all_eq_true, Function.comp]
  exact ⟨hl, fun p hp => by rw [wghtD_pair]; exact decide_eq_true (h p hp)⟩
def notI (ts : List (Int × Int)) : List (Int × Int) := ts.map fun t => (flipI t.1, t.2)
theorem SumOk.not {ts : List (Int × Int)} (s : SumOk ts) : SumOk (notI ts) := s.flip
theorem valX_not (x : Int → Int) {ts : List (Int × Int)} (s : SumOk ts) : valX x (notI ts) = totI ts - valX x ts := valX_flip x fun t ht => (s.tm t ht).1
theorem sortP_id {ps : List (Int × Int)} (h : ps.Pairwise fun p q => p.1 < q.1) : sortP ps = ps := by
  unfold sortP
  refine List.mergeSort_of_pairwise ?_
  refine h.imp fun {p q} hpq => ?_
  unfold leP
  cases e : SrtO.lexB q p with
  | false => rfl
  | true =>
    rcases SrtO.lexB_iff.mp e with h | ⟨h, _⟩ <;> omega
theorem not_asc {ts : List (Int × Int)} (s : SumOk ts) : (notI ts).Pairwise fun p q => p.1 < q.1 := by
  unfold notI
  rw [List.pairwise_map]
  have := s.asc
  rw [List.pairwise_map] at this
  refine this.imp fun {p q} h => ?_
  unfold flipI
  omega
theorem notI_len (ts : List (Int × Int)) : (notI ts).length = ts.length := by simp [notI]
end PX
namespace PX
abbrev N60 : Int := 1000000000000000000000000000000000000000000000000000000000000
theorem p60 : powOk 10 60 = true := by decide +kernel
/-- how the laws look at terms -/
def ckT : Int → List D → Bool
  | _, [] => true
  | last, .tup [a, b] :: r => withinB a 0 N60 && withinB b 1 N60 && (match a with
    | .int l => decide (last < l / 2) && ckT (l / 2) r
    | _ => false)
  | _, _ :: _ => false
def lawSumB (d : D) : Bool := match d with
  | .tup [.tup xs, b] => withinB b (-N60) N60 && ckT (-1) xs
  | _ => false
mutual
/-- all ints within are at most 10 ** 60 far from 0 -/
def D.low : D → Bool
  | .int i => decide (-N60 ≤ i) && decide (i ≤ N60)
  | .tup xs => D.lows xs
  | .lst xs => D.lows xs
  | _ => true
def D.lows : List D → Bool
  | [] => true
  | x :: xs => D.low x && D.lows xs
end
theorem lows_append (xs ys : List D) : D.lows (xs ++ ys) = (D.lows xs && D.lows ys) := by
  induction xs with
  | nil => simp [D.lows]
  | cons x xs ih => simp [D.lows, ih, Bool.and_assoc]
theorem N60_pos : (0 : Int) < N60 := by decide
theorem ck_eq : ∀ {ts : List (Int × Int)} {last : Int}, D.lows (ts.map pairD) = true → ckT last (ts.map pairD) = (ts.all termB && ascB (last :: ts.map fun t => t.1 / 2)) ∨ last < -1
  | [], last, _ => .inl rfl
  | (l, w) :: ts, last, h => by
    simp only [List.map_cons, D.lows, pairD, D.low, Bool.and_eq_true, decide_eq_true_eq, Bool.and_true, and_true] at h
    by_cases q : last < -1
    · exact .inr q
    refine .inl ?_
    simp only [List.map_cons, pairD, ckT, withinB, List.all_cons, termB, asc_cons]
    rw [decide_eq_true h.1.1.2, decide_eq_true h.1.2.2]
    by_cases h0 : 0 ≤ l
    · have h1 : ¬ l / 2 < -1 := by omega
      rcases ck_eq (ts := ts) (last := l / 2) h.2 with e | e
      · rw [e]
        simp only [decide_eq_true h0, Bool.true_and, Bool.and_true]
        cases decide (1 ≤ w) <;> cases decide (last < l / 2) <;> cases ts.all termB <;> simp
      · exact absurd e h1
    · simp [h0]
theorem sum_law {d : D} (h : d.low = true) : sumB d = lawSumB d := by
  cases d with
  | tup xs =>
    rcases xs with _ | ⟨a, _ | ⟨b, _ | ⟨c, r⟩⟩⟩
    · rfl
    · cases a <;> rfl
    · simp only [D.low, D.lows, Bool.and_true, Bool.and_eq_true] at h
      cases a with
      | tup ys =>
        have hb : b.isI = withinB b (-N60) N60 := by
          cases b with
          | int i => simp only [D.low, Bool.and_eq_true] at h; simp [D.isI, withinB, h.2.1, h.2.2]
          | _ => rfl
        simp only [sumB, lawSumB, ← hb]
        have key : termsD (.tup ys) = ckT (-1) ys := by
          cases hy : ys.all termD with
          | true =>
            obtain ⟨ts, rfl, ht⟩ := terms_inv hy
            have hl := h.1
            simp only [D.low] at hl
            rcases ck_eq (last := -1) hl with e | e
            · rw [termsD_pairs, e, ht, Bool.true_and, Bool.true_and]
              cases ts with
              | nil => rfl
              | cons t ts =>
                rw [List.map_cons, asc_cons]
                have : 0 ≤ t.1 := by
                  rw [List.all_cons, Bool.and_eq_true] at ht
                  have := ht.1
                  simp only [termB, Bool.and_eq_true, decide_eq_true_eq] at this
                  exact this.1
                rw [decide_eq_true (show (-1 : Int) < t.1 / 2 by omega), Bool.true_and]
            · omega
          | false =>
            rw [termsD_not hy]
            symm
            have go : ∀ (zs : List D) (last : Int), zs.all termD = false → ckT last zs = false := by
              intro zs
              induction zs with
              | nil => intro last h; cases h
              | cons z zs ih =>
                intro last hz
                rw [List.all_cons] at hz
                cases hc : ckT last (z :: zs) with
                | false => rfl
                | true =>
                  exfalso
                  unfold ckT at hc
                  split at hc
                  · rename_i e; cases e
                  · rename_i a b r e
                    cases e
                    simp only [Bool.and_eq_true] at hc
                    split at hc
                    · rename_i l
                      have h1 := hc.1.1
                      have h2 := hc.1.2
                      have h3 := hc.2
                      simp only [Bool.and_eq_true] at h3
                      have : termD (.tup [.int l, b]) = true := by
                        cases b <;> simp [withinB] at h1 h2
                        simp [termD, fromB, h1.1, h2.1]
                      rw [this, Bool.true_and] at hz
                      have := ih (l / 2) hz
                      rw [this] at h3
                      exact Bool.noConfusion h3.2
                    · exact Bool.noConfusion hc.2
                  · cases hc
            exact go ys (-1) hy
        rw [key, Bool.and_comm]
      | _ => simp [sumB, termsD, lawSumB]
    · cases a <;> rfl
  | _ => rfl
end PX
namespace PX
/-- a list that is read: one that stays, or a cell -/
def IsL (S : Store) (d : D) (xs : List D) : Prop := d = .lst xs ∨ ∃ a, d = .adr a ∧ S[a]? = some (.lst xs)
section
variable {S : Store} {d : D} {xs : List D}
theorem IsL.seq (h : IsL S d xs) : ∃ g, seqW S d = some ⟨xs, g⟩ ∧ Ws.ok ⟨xs, g⟩ S = true := by
  rcases h with rfl | ⟨a, rfl, h⟩
  · exact ⟨[], rfl, rfl⟩
  · exact ⟨[(a, .lst xs)], by simp [seqW, tupW, lstW, h], by simp [Ws.ok, h]⟩
theorem IsL.read (h : IsL S d xs) : asLst S d = some xs := by
  rcases h with rfl | ⟨a, rfl, h⟩
  · rfl
  · simp [asLst, h]
theorem IsL.tuple (h : IsL S d xs) : biV .tuple S [d] = .ok (.tup xs) S := by
  rcases h with rfl | ⟨a, rfl, h⟩
  · rfl
  · exact tup_cell h
theorem IsL.len (h : IsL S d xs) : biV .len S [d] = .ok (.int xs.length) S := by
  rcases h with rfl | ⟨a, rfl, h⟩
  · rfl
  · unfold biV; simp [asLst, h]
theorem IsL.back (h : IsL S d xs) : backV S d = .ok (.lst xs.reverse) S := by
  rcases h with rfl | ⟨a, rfl, h⟩
  · rfl
  · simp [backV, tupW, asLst, h]
theorem IsL.slice (h : IsL S d xs) (lo hi : Option Int) : slV S d lo hi = .ok (.lst (cutG xs lo hi)) S := by
  rcases h with rfl | ⟨a, rfl, h⟩
  · rfl
  · simp [slV, asLst, h]
theorem IsL.stay {S' : Store} {n m : Nat} (h : IsL S d xs) (y : Stay n m S S') (k : ∀ a, d = .adr a → a ≠ n ∧ a ≠ m) : IsL S' d xs := by
  rcases h with rfl | ⟨a, rfl, h⟩
  · exact .inl rfl
  · obtain ⟨k1, k2⟩ := k a rfl
    exact .inr ⟨a, rfl, by rw [y.old a k1 k2 (List.getElem?_eq_some_iff.mp h).1]; exact h⟩
end
theorem Stay.get {n m a : Nat} {S S' : Store} {c : Cell} (y : Stay n m S S') (h1 : a ≠ n) (h2 : a ≠ m) (h : S[a]? = some c) : S'[a]? = some c := by
  rw [y.old a h1 h2 (List.getElem?_eq_some_iff.mp h).1]; exact h
theorem Deck.off {S : Store} {n m a : Nat} (h : Deck S n m) (ha : S.length ≤ a) : a ≠ n ∧ a ≠ m := by
  have := h.lt; omega
theorem app_at {S : Store} (c : Cell) : (S ++ [c])[S.length]? = some c := by simp
theorem set_at {S : Store} {a : Nat} {c c' : Cell} (h : S[a]? = some c) : (S.set a c')[a]? = some c' := List.getElem?_set_self (List.getElem?_eq_some_iff.mp h).1
theorem atI_lt {xs : List D} {i : Int} (h0 : 0 ≤ i) (h : i < xs.length) : ∃ d, L2.atI xs i = some d ∧ d ∈ xs := by
  have hn : i.toNat < xs.length := by omega
  refine ⟨xs[i.toNat], ?_, List.getElem_mem hn⟩
  have := L2.atI_nat (xs := xs) (j := i.toNat) (v := xs[i.toNat]) (List.getElem?_eq_getElem hn)
  rwa [show ((i.toNat : Nat) : Int) = i by omega] at this
theorem lg60 {k : Int} (h : 0 ≤ k) (h2 : k ≤ N60) : k.natAbs.log2 < 9000 := lg h (Int.lt_of_le_of_lt h2 (by decide +kernel))
end PX
namespace PX
theorem pick3 {x y z : Int} {p : Int} (h0 : 0 ≤ p) (h1 : p < 3) : ∃ v, L2.atI [D.int x, D.int y, D.int z] p = some (.int v) ∧ (v = x ∨ v = y ∨ v = z) := by
  have : p = 0 ∨ p = 1 ∨ p = 2 := by omega
  rcases this with rfl | rfl | rfl
  · exact ⟨x, by simp, .inl rfl⟩
  · exact ⟨y, by simp, .inr (.inl rfl)⟩
  · exact ⟨z, by simp, .inr (.inr rfl)⟩
theorem atI_ints {ns : List Int} {p : Int} (h0 : 0 ≤ p) (h1 : p < ns.length) : ∃ v, v ∈ ns ∧ L2.atI (ns.map D.int) p = some (.int v) := by
  have hn : p.toNat < ns.length := by omega
  refine ⟨ns[p.toNat], List.getElem_mem hn, ?_⟩
  have := L2.atI_nat (xs := ns.map D.int) (j := p.toNat) (v := .int ns[p.toNat]) (by simp [hn])
  rwa [show ((p.toNat : Nat) : Int) = p by omega] at this
end PX
namespace PX
theorem ne_nil0 {S : Store} : eqR true S (.lst []) (.lst []) = .ok (.bl false) S := by
  simp [eqR, snap, D.depth, D.depths, D.eqv, D.eqvs]
theorem eq_nil0 {S : Store} : eqR false S (.lst []) (.lst []) = .ok (.bl true) S := by
  simp [eqR, snap, D.depth, D.depths, D.eqv, D.eqvs]
theorem is_tt {S : Store} (n : Bool) (a b : Bool) : isR n S (.bl a) (.bl b) = .ok (.bl (if n then !decide (a = b) else decide (a = b))) S := rfl
theorem shl1 {S : Store} {k : Nat} (h : k ≤ 60) : binV .shl S (.int 1) (.int (k : Int)) = .ok (.int (2 ^ k)) S := by
  have : powOk 1 (k : Int) = true := by unfold powOk; simp; omega
  simp [this]
theorem pow_le {k j : Nat} (h : k ≤ j) : (2 : Int) ^ k ≤ 2 ^ j := by
  have := Nat.pow_le_pow_right (n := 2) (by decide) h
  exact_mod_cast this
theorem pow_pos2 (k : Nat) : (0 : Int) < 2 ^ k := by
  have := Nat.two_pow_pos k
  exact_mod_cast this
theorem rngL_map (n : Nat) : rngL 0 n = (List.range n).map fun i : Nat => D.int (0 + (i : Int)) := rfl
theorem slV_L {S : Store} {xs : List D} (k : Nat) : cutG xs none (some (k : Int)) = xs.take k := cut_to xs k
theorem low_pairs {c : Int} (hc : c ≤ N60) : ∀ {ts : List (Int × Int)}, (∀ t ∈ ts, -c ≤ t.1 ∧ t.1 ≤ c ∧ -c ≤ t.2 ∧ t.2 ≤ c) → D.lows (ts.map pairD) = true
  | [], _ => rfl
  | t :: ts, h => by
    have h1 := h t List.mem_cons_self
    have h2 := low_pairs hc (ts := ts) fun u hu => h u (List.mem_cons_of_mem _ hu)
    simp only [List.map_cons, D.lows, pairD, D.low, h2, Bool.and_true, Bool.and_eq_true, decide_eq_true_eq]
    unfold N60 at *
    omega
theorem low_sum {ts : List (Int × Int)} {dg : Int} (h : D.lows (ts.map pairD) = true) (h1 : -N60 ≤ dg) (h2 : dg ≤ N60) : (sumD ts dg).low = true := by
  simp only [sumD, D.low, D.lows, h, Bool.true_and, Bool.and_true, Bool.and_eq_true, decide_eq_true_eq]
  exact ⟨h1, h2⟩
end PX
namespace PX
theorem depth_str0 (z : PySem.Str) : (D.str z).depth = 0 := by simp [D.depth]
theorem eq_str {S : Store} (n : Bool) (x y : PySem.Str) : eqR n S (.str x) (.str y) = .ok (.bl (if n then !(x == y) else x == y)) S := by
  unfold eqR
  simp [snap, depth_str0, D.eqv]
theorem ne_strs1 {S : Store} (a : PySem.Str) : eqR true S (.lst [.str a]) (.lst [.str a]) = .ok (.bl false) S := by
  simp [eqR, snap, D.depth, D.depths, D.eqv, D.eqvs]
theorem ne_strs2 {S : Store} (a b : PySem.Str) : eqR true S (.lst [.str a, .str b]) (.lst [.str a, .str b]) = .ok (.bl false) S := by
  simp [eqR, snap, D.depth, D.depths, D.eqv, D.eqvs]
theorem ne_strs3 {S : Store} (a b c : PySem.Str) : eqR true S (.lst [.str a, .str b, .str c]) (.lst [.str a, .str b, .str c]) = .ok (.bl false) S := by
  simp [eqR, snap, D.depth, D.depths, D.eqv, D.eqvs]
end PX

/-! the written forms of the defs of law_k00_a_thousand_weighted_literals, printed by gen.py -/
namespace LW
open PySem L2 PX
def top (i : Nat) : Stmt := PySem.Challenge.pw_sumsworn_k00_a_thousand_weighted_literal.main.body.getD i (.Pass ⟨0, 0, 0, 0⟩)
def c_ALWAYS : D := .int (-1)
def c_NEVER : D := .int (-2)
def c_MOST_PAIRS : D := .int 1000
/-- is_int -/
def N_is_int : List Str := ["thing"]
def b_is_int : PX.B := .cons (.ret (.and (.cons (.isi (.var 0) .int) (.cons (.not (.isi (.var 0) .bool)) .nil)))) .nil
def m_is_int (S : Store) (ds : List D) : R D := runB (0) 1 b_is_int S ds
def f_is_int : FnI := ⟨"is_int", ["thing"], [], m_is_int⟩
/-- is_row -/
def N_is_row : List Str := ["thing", "low", "high"]
def b_is_row : PX.B := .cons (.ret (.and (.cons (.isi (.var 0) .tuple) (.cons (.chain .le .le (.var 1) (.bi .len (.cons (.var 0) .nil)) (.var 2)) .nil)))) .nil
def m_is_row (S : Store) (ds : List D) : R D := runB (0) 3 b_is_row S ds
def f_is_row : FnI := ⟨"is_row", ["thing", "low", "high"], [], m_is_row⟩
/-- is_index -/
def N_is_index : List Str := ["thing"]
def b_is_index : PX.B := .cons (.ret (.and (.cons (.call false f_is_int (.cons (.var 0) .nil)) (.cons (.cmp .ge (.var 0) (.int 0)) .nil)))) .nil
def m_is_index (S : Store) (ds : List D) : R D := runB (0) 1 b_is_index S ds
def f_is_index : FnI := ⟨"is_index", ["thing"], [], m_is_index⟩
/-- is_term -/
def N_is_term : List Str := ["thing"]
def b_is_term : PX.B := .cons (.ret (.and (.cons (.call false f_is_row (.cons (.var 0) (.cons (.int 2) (.cons (.int 2) .nil)))) (.cons (.call false f_is_index (.cons (.ix (.var 0) (.int 0)) .nil)) (.cons (.call false f_is_int (.cons (.ix (.var 0) (.int 1)) .nil)) (.cons (.cmp .ge (.ix (.var 0) (.int 1)) (.int 1)) .nil)))))) .nil
def m_is_term (S : Store) (ds : List D) : R D := runB (0) 1 b_is_term S ds
def f_is_term : FnI := ⟨"is_term", ["thing"], [], m_is_term⟩
/-- are_terms -/
def N_are_terms : List Str := ["thing", "variables", "literal", "weight", "one", "other", "entry"]
def e_are_terms_0 : E := .lc [6] false (.name 6) (.seq (.var 0)) .none (.call false f_is_term (.cons (.var 6) .nil))
def u_are_terms_1 : PX.B := .cons (.ret (.bl false)) .nil
def e_are_terms_2 : E := .lc [2, 3] false (.tup [2, 3]) (.seq (.var 0)) .none (.bin .fdiv (.var 2) (.int 2))
def e_are_terms_3 : E := .lc [4, 5] false (.tup [4, 5]) (.zip (.var 1) (.sl (.var 1) (.some (.int 1)) .none)) .none (.cmp .lt (.var 4) (.var 5))
def t_are_terms_4 : PX.S := .ite (.or (.cons (.not (.isi (.var 0) .tuple)) (.cons (.not (.bi .all (.cons (e_are_terms_0) .nil))) .nil))) (u_are_terms_1) (.nil)
def t_are_terms_5 : PX.S := .asg (.name 1) (e_are_terms_2)
def t_are_terms_6 : PX.S := .ret (.bi .all (.cons (e_are_terms_3) .nil))
def b_are_terms : PX.B := .cons (t_are_terms_4) (.cons (t_are_terms_5) (.cons (t_are_terms_6) .nil))
def m_are_terms (S : Store) (ds : List D) : R D := runB (0) 7 b_are_terms S ds
def f_are_terms : FnI := ⟨"are_terms", ["thing"], [], m_are_terms⟩
/-- is_sum -/
def N_is_sum : List Str := ["thing"]
def b_is_sum : PX.B := .cons (.ret (.and (.cons (.call false f_is_row (.cons (.var 0) (.cons (.int 2) (.cons (.int 2) .nil)))) (.cons (.call false f_are_terms (.cons (.ix (.var 0) (.int 0)) .nil)) (.cons (.call false f_is_int (.cons (.ix (.var 0) (.int 1)) .nil)) .nil))))) .nil
def m_is_sum (S : Store) (ds : List D) : R D := runB (0) 1 b_is_sum S ds
def f_is_sum : FnI := ⟨"is_sum", ["thing"], [(0, ["thing"])], m_is_sum⟩
/-- put_together -/
def N_put_together : List Str := ["pairs", "degree", "net", "rest", "literal", "weight", "terms", "variable", "amount"]
def u_put_together_0 : PX.B := .cons (.aug 3 .sub (.var 5)) .nil
def u_put_together_1 : PX.B := .cons (.set (.var 2) (.var 7) (.bin .add (.meth .get2 (.var 2) (.cons (.var 7) (.cons (.int 0) .nil))) (.bin .mul (.bin .sub (.int 1) (.bin .mul (.int 2) (.bin .and (.var 4) (.int 1)))) (.var 5)))) .nil
def u_put_together_2 : PX.B := .cons (.asg (.name 7) (.bin .fdiv (.var 4) (.int 2))) (.cons (.ite (.or (.cons (.cmp .eq (.var 4) (.glob "ALWAYS" c_ALWAYS)) (.cons (.and (.cons (.cmp .ge (.var 7) (.int 0)) (.cons (.cmp .eq (.bin .and (.var 4) (.int 1)) (.int 1)) .nil))) .nil))) (u_put_together_0) (.nil)) (.cons (.ite (.cmp .ge (.var 7) (.int 0)) (u_put_together_1) (.nil)) .nil))
def u_put_together_3 : PX.B := .cons (.expr (.meth .append (.var 6) (.cons (.tup (.cons (.bin .mul (.int 2) (.var 7)) (.cons (.var 8) .nil))) .nil))) .nil
def u_put_together_4 : PX.B := .cons (.expr (.meth .append (.var 6) (.cons (.tup (.cons (.bin .add (.bin .mul (.int 2) (.var 7)) (.int 1)) (.cons (.neg (.var 8)) .nil))) .nil))) (.cons (.aug 3 .sub (.var 8)) .nil)
def u_put_together_5 : PX.B := .cons (.ite (.cmp .lt (.var 8) (.int 0)) (u_put_together_4) (.nil)) .nil
def u_put_together_6 : PX.B := .cons (.asg (.name 8) (.ix (.var 2) (.var 7))) (.cons (.ite (.cmp .gt (.var 8) (.int 0)) (u_put_together_3) (u_put_together_5)) .nil)
def t_put_together_7 : PX.S := .par2 2 3 (.dic) (.var 1)
def t_put_together_8 : PX.S := .for_ (.tup [4, 5]) (.seq (.var 0)) (u_put_together_2)
def t_put_together_9 : PX.S := .asg (.name 6) (.new (.nil))
def t_put_together_10 : PX.S := .for_ (.name 7) (.seq (.bi .sorted (.cons (.var 2) .nil))) (u_put_together_6)
def t_put_together_11 : PX.S := .ret (.tup (.cons (.bi .tuple (.cons (.var 6) .nil)) (.cons (.var 3) .nil)))
def b_put_together : PX.B := .cons (t_put_together_7) (.cons (t_put_together_8) (.cons (t_put_together_9) (.cons (t_put_together_10) (.cons (t_put_together_11) .nil))))
def m_put_together (S : Store) (ds : List D) : R D := runB (0) 9 b_put_together S ds
def f_put_together : FnI := ⟨"put_together", ["pairs", "degree"], [], m_put_together⟩
/-- is_weighted -/
def N_is_weighted : List Str := ["thing"]
def b_is_weighted : PX.B := .cons (.ret (.and (.cons (.call false f_is_row (.cons (.var 0) (.cons (.int 2) (.cons (.int 2) .nil)))) (.cons (.call false f_is_int (.cons (.ix (.var 0) (.int 0)) .nil)) (.cons (.cmp .ge (.ix (.var 0) (.int 0)) (.glob "NEVER" c_NEVER)) (.cons (.call false f_is_int (.cons (.ix (.var 0) (.int 1)) .nil)) .nil)))))) .nil
def m_is_weighted (S : Store) (ds : List D) : R D := runB (0) 1 b_is_weighted S ds
def f_is_weighted : FnI := ⟨"is_weighted", ["thing"], [], m_is_weighted⟩
/-- sum_of -/
def N_sum_of : List Str := ["pairs", "degree", "pair"]
def e_sum_of_0 : E := .lc [2] false (.name 2) (.seq (.var 0)) .none (.call false f_is_weighted (.cons (.var 2) .nil))
def u_sum_of_1 : PX.B := .cons (.raise "BadPairs" "these are no weighted literals") .nil
def u_sum_of_2 : PX.B := .cons (.raise "BadDegree" "this is no degree") .nil
def t_sum_of_3 : PX.S := .ite (.or (.cons (.not (.call false f_is_row (.cons (.var 0) (.cons (.int 0) (.cons (.glob "MOST_PAIRS" c_MOST_PAIRS) .nil))))) (.cons (.not (.bi .all (.cons (e_sum_of_0) .nil))) .nil))) (u_sum_of_1) (.nil)
def t_sum_of_4 : PX.S := .ite (.not (.call false f_is_int (.cons (.var 1) .nil))) (u_sum_of_2) (.nil)
def t_sum_of_5 : PX.S := .ret (.call false f_put_together (.cons (.var 0) (.cons (.var 1) .nil)))
def b_sum_of : PX.B := .cons (t_sum_of_3) (.cons (t_sum_of_4) (.cons (t_sum_of_5) .nil))
def m_sum_of (S : Store) (ds : List D) : R D := runB (0) 3 b_sum_of S ds
def f_sum_of : FnI := ⟨"sum_of", ["pairs", "degree"], [(0, ["degree", "pairs"])], m_sum_of⟩
/-- _law_deck -/
def N__law_deck : List Str := ["script", "cell"]
def e__law_deck_0 : E := .lc [1] true (.name 1) (.seq (.sl (.var 0) .none (.some (.int 63)))) .none (.bin .mod (.bi .int (.cons (.var 1) .nil)) (.bin .pow (.int 10) (.int 60)))
def t__law_deck_1 : PX.S := .ret (.new (.cons (e__law_deck_0) (.cons (.int 0) (.cons (.int 6151) .nil))))
def b__law_deck : PX.B := .cons (t__law_deck_1) .nil
def m__law_deck (S : Store) (ds : List D) : R D := runB (0) 2 b__law_deck S ds
def f__law_deck : FnI := ⟨"_law_deck", ["script"], [], m__law_deck⟩
/-- _law_pick -/
def N__law_pick : List Str := ["deck", "many", "cells", "cell", "found"]
def b__law_pick : PX.B := .cons (.asg (.name 2) (.ix (.var 0) (.int 0))) (.cons (.ite (.and (.cons (.cmp .lt (.ix (.var 0) (.int 1)) (.bin .pow (.int 10) (.int 6))) (.cons (.cmp .ne (.var 2) (.lst (.nil))) .nil))) (.cons (.asg (.name 3) (.meth .popAt (.var 2) (.cons (.int 0) .nil))) (.cons (.ite (.cmp .ge (.var 3) (.bin .pow (.int 10) (.int 18))) (.cons (.set (.var 0) (.int 1) (.var 3)) .nil) (.cons (.set (.var 0) (.int 2) (.bin .mod (.bi .int (.cons (.bin .add (.bin .add (.bin .mul (.ix (.var 0) (.int 2)) (.int 69621)) (.bin .mul (.bin .mod (.bi .int (.cons (.var 3) .nil)) (.int 2147483563)) (.int 40014))) (.int 3)) .nil)) (.int 2147483563))) .nil)) .nil)) (.nil)) (.cons (.ite (.cmp .ge (.ix (.var 0) (.int 1)) (.bin .pow (.int 10) (.int 6))) (.cons (.asg (.name 4) (.bin .mod (.bi .int (.cons (.ix (.var 0) (.int 1)) .nil)) (.var 1))) (.cons (.set (.var 0) (.int 1) (.bin .fdiv (.ix (.var 0) (.int 1)) (.var 1))) (.cons (.ret (.var 4)) .nil))) (.nil)) (.cons (.set (.var 0) (.int 2) (.bin .mod (.bi .int (.cons (.bin .add (.bin .mul (.ix (.var 0) (.int 2)) (.int 48271)) (.int 11)) .nil)) (.int 2147483647))) (.cons (.ret (.bin .mod (.bi .int (.cons (.bin .fdiv (.ix (.var 0) (.int 2)) (.int 53)) .nil)) (.var 1))) .nil))))
def m__law_pick (S : Store) (ds : List D) : R D := runB (0) 5 b__law_pick S ds
def f__law_pick : FnI := ⟨"_law_pick", ["deck", "many"], [], m__law_pick⟩
/-- _law_same -/
def N__law_same : List Str := ["told", "due", "waiting", "one", "two", "k"]
def u__law_same_0 : PX.B := .cons (.ret (.bl false)) .nil
def e__law_same_1 : E := .lc [5] false (.name 5) (.rng1 (.bi .len (.cons (.var 4) .nil))) .none (.tup (.cons (.ix (.var 3) (.var 5)) (.cons (.ix (.var 4) (.var 5)) .nil)))
def u__law_same_2 : PX.B := .cons (.ite (.or (.cons (.not (.isi (.var 3) .tuple)) (.cons (.cmp .ne (.bi .len (.cons (.var 3) .nil)) (.bi .len (.cons (.var 4) .nil))) .nil))) (u__law_same_0) (.nil)) (.cons (.expr (.meth .extend (.var 2) (.cons (e__law_same_1) .nil))) .nil)
def u__law_same_3 : PX.B := .cons (.ret (.bl false)) .nil
def u__law_same_4 : PX.B := .cons (.ite (.cmp .isNot (.var 3) (.non)) (u__law_same_3) (.nil)) .nil
def u__law_same_5 : PX.B := .cons (.ret (.bl false)) .nil
def u__law_same_6 : PX.B := .cons (.ite (.or (.cons (.not (.isi (.var 3) .bool)) (.cons (.cmp .ne (.var 3) (.var 4)) .nil))) (u__law_same_5) (.nil)) .nil
def u__law_same_7 : PX.B := .cons (.ret (.bl false)) .nil
def u__law_same_8 : PX.B := .cons (.ite (.or (.cons (.not (.isi (.var 3) .str)) (.cons (.cmp .ne (.var 3) (.var 4)) .nil))) (u__law_same_7) (.nil)) .nil
def u__law_same_9 : PX.B := .cons (.ret (.bl false)) .nil
def u__law_same_10 : PX.B := .cons (.ite (.or (.cons (.not (.isi (.var 3) .int)) (.cons (.isi (.var 3) .bool) (.cons (.cmp .ne (.var 3) (.var 4)) .nil)))) (u__law_same_9) (.nil)) .nil
def u__law_same_11 : PX.B := .cons (.ite (.isi (.var 4) .str) (u__law_same_8) (u__law_same_10)) .nil
def u__law_same_12 : PX.B := .cons (.ite (.isi (.var 4) .bool) (u__law_same_6) (u__law_same_11)) .nil
def u__law_same_13 : PX.B := .cons (.ite (.cmp .is (.var 4) (.non)) (u__law_same_4) (u__law_same_12)) .nil
def u__law_same_14 : PX.B := .cons (.asg (.tup [3, 4]) (.meth .pop (.var 2) (.nil))) (.cons (.ite (.isi (.var 4) .tuple) (u__law_same_2) (u__law_same_13)) .nil)
def t__law_same_15 : PX.S := .asg (.name 2) (.new (.cons (.tup (.cons (.var 0) (.cons (.var 1) .nil))) .nil))
def t__law_same_16 : PX.S := .while_ (.cmp .ne (.var 2) (.lst (.nil))) (u__law_same_14)
def t__law_same_17 : PX.S := .ret (.bl true)
def b__law_same : PX.B := .cons (t__law_same_15) (.cons (t__law_same_16) (.cons (t__law_same_17) .nil))
def m__law_same (S : Store) (ds : List D) : R D := runB (fuelOf ds) 6 b__law_same S ds
def f__law_same : FnI := ⟨"_law_same", ["told", "due"], [], m__law_same⟩
/-- _law_int -/
def N__law_int : List Str := ["thing", "low", "high"]
def b__law_int : PX.B := .cons (.ret (.and (.cons (.isi (.var 0) .int) (.cons (.not (.isi (.var 0) .bool)) (.cons (.chain .le .le (.var 1) (.var 0) (.var 2)) .nil))))) .nil
def m__law_int (S : Store) (ds : List D) : R D := runB (0) 3 b__law_int S ds
def f__law_int : FnI := ⟨"_law_int", ["thing", "low", "high"], [], m__law_int⟩
/-- _law_is_sum -/
def N__law_is_sum : List Str := ["thing", "last", "term"]
def u__law_is_sum_0 : PX.B := .cons (.ret (.bl false)) .nil
def u__law_is_sum_1 : PX.B := .cons (.ret (.bl false)) .nil
def u__law_is_sum_2 : PX.B := .cons (.ite (.or (.cons (.not (.isi (.var 2) .tuple)) (.cons (.cmp .ne (.bi .len (.cons (.var 2) .nil)) (.int 2)) (.cons (.not (.call false f__law_int (.cons (.ix (.var 2) (.int 0)) (.cons (.int 0) (.cons (.bin .pow (.int 10) (.int 60)) .nil))))) (.cons (.not (.call false f__law_int (.cons (.ix (.var 2) (.int 1)) (.cons (.int 1) (.cons (.bin .pow (.int 10) (.int 60)) .nil))))) (.cons (.cmp .le (.bin .fdiv (.ix (.var 2) (.int 0)) (.int 2)) (.var 1)) .nil)))))) (u__law_is_sum_1) (.nil)) (.cons (.asg (.name 1) (.bin .fdiv (.ix (.var 2) (.int 0)) (.int 2))) .nil)
def t__law_is_sum_3 : PX.S := .ite (.or (.cons (.not (.isi (.var 0) .tuple)) (.cons (.cmp .ne (.bi .len (.cons (.var 0) .nil)) (.int 2)) (.cons (.not (.isi (.ix (.var 0) (.int 0)) .tuple)) (.cons (.not (.call false f__law_int (.cons (.ix (.var 0) (.int 1)) (.cons (.neg (.bin .pow (.int 10) (.int 60))) (.cons (.bin .pow (.int 10) (.int 60)) .nil))))) .nil))))) (u__law_is_sum_0) (.nil)
def t__law_is_sum_4 : PX.S := .asg (.name 1) (.neg (.int 1))
def t__law_is_sum_5 : PX.S := .for_ (.name 2) (.seq (.ix (.var 0) (.int 0))) (u__law_is_sum_2)
def t__law_is_sum_6 : PX.S := .ret (.bl true)
def b__law_is_sum : PX.B := .cons (t__law_is_sum_3) (.cons (t__law_is_sum_4) (.cons (t__law_is_sum_5) (.cons (t__law_is_sum_6) .nil)))
def m__law_is_sum (S : Store) (ds : List D) : R D := runB (0) 3 b__law_is_sum S ds
def f__law_is_sum : FnI := ⟨"_law_is_sum", ["thing"], [], m__law_is_sum⟩
/-- _law_pairs -/
def N__law_pairs : List Str := ["deck", "many", "count", "found", "most", "few", "k", "other"]
def e__law_pairs_0 : E := .lc [6] false (.name 6) (.rng1 (.bi .min2 (.cons (.var 2) (.cons (.int 12) .nil)))) .none (.tup (.cons (.bin .sub (.call true f__law_pick (.cons (.var 0) (.cons (.bin .add (.bin .mul (.int 2) (.var 1)) (.int 2)) .nil))) (.int 2)) (.cons (.bin .sub (.call true f__law_pick (.cons (.var 0) (.cons (.bin .add (.bin .mul (.int 2) (.var 4)) (.int 1)) .nil))) (.var 4)) .nil)))
def u__law_pairs_1 : PX.B := .cons (.asg (.name 7) (.tup (.cons (.bin .sub (.call true f__law_pick (.cons (.var 0) (.cons (.bin .add (.bin .mul (.int 2) (.var 1)) (.int 2)) .nil))) (.int 2)) (.cons (.ix (.lst (.cons (.int 0) (.cons (.int 1) (.cons (.neg (.int 1)) (.cons (.var 4) (.cons (.neg (.var 4)) .nil)))))) (.call true f__law_pick (.cons (.var 0) (.cons (.int 5) .nil)))) .nil)))) (.cons (.expr (.meth .append (.var 3) (.cons (.ite (.cmp .gt (.call true f__law_pick (.cons (.var 0) (.cons (.int 3) .nil))) (.int 0)) (.ix (.var 5) (.call true f__law_pick (.cons (.var 0) (.cons (.bi .len (.cons (.var 5) .nil)) .nil)))) (.var 7)) .nil))) .nil)
def t__law_pairs_2 : PX.S := .asg (.tup [3, 4]) (.tup (.cons (.new (.nil)) (.cons (.ix (.lst (.cons (.int 3) (.cons (.int 1000) (.cons (.bin .pow (.int 10) (.int 40)) .nil)))) (.call true f__law_pick (.cons (.var 0) (.cons (.int 3) .nil)))) .nil)))
def t__law_pairs_3 : PX.S := .asg (.name 5) (e__law_pairs_0)
def t__law_pairs_4 : PX.S := .for_ (.name 6) (.rng1 (.var 2)) (u__law_pairs_1)
def t__law_pairs_5 : PX.S := .ret (.var 3)
def b__law_pairs : PX.B := .cons (t__law_pairs_2) (.cons (t__law_pairs_3) (.cons (t__law_pairs_4) (.cons (t__law_pairs_5) .nil)))
def m__law_pairs (S : Store) (ds : List D) : R D := runB (0) 8 b__law_pairs S ds
def f__law_pairs : FnI := ⟨"_law_pairs", ["deck", "many", "count"], [], m__law_pairs⟩
/-- _law_near -/
def N__law_near : List Str := ["one", "terms", "degree", "found", "far", "term"]
def u__law_near_0 : PX.B := .cons (.expr (.meth .append (.var 3) (.cons (.tup (.cons (.bin .add (.var 1) (.tup (.cons (.var 5) .nil))) (.cons (.var 2) .nil))) .nil))) .nil
def u__law_near_1 : PX.B := .cons (.expr (.meth .extend (.var 3) (.cons (.lst (.cons (.tup (.cons (.bin .add (.var 1) (.tup (.cons (.tup (.cons (.bin .add (.bin .mul (.bin .fdiv (.ix (.ix (.var 1) (.neg (.int 1))) (.int 0)) (.int 2)) (.int 2)) (.int 1)) (.cons (.int 1) .nil))) .nil))) (.cons (.var 2) .nil))) (.cons (.tup (.cons (.bin .add (.sl (.var 1) .none (.some (.neg (.int 1)))) (.tup (.cons (.tup (.cons (.ix (.ix (.var 1) (.neg (.int 1))) (.int 0)) (.cons (.int 0) .nil))) .nil))) (.cons (.var 2) .nil))) .nil))) .nil))) .nil
def t__law_near_2 : PX.S := .asg (.tup [1, 2]) (.var 0)
def t__law_near_3 : PX.S := .asg (.name 3) (.new (.cons (.var 0) (.cons (.non) (.cons (.bi .list (.cons (.var 0) .nil)) (.cons (.tup (.cons (.var 1) .nil)) (.cons (.tup (.cons (.var 1) (.cons (.var 2) (.cons (.int 0) .nil)))) (.cons (.tup (.cons (.bi .list (.cons (.var 1) .nil)) (.cons (.var 2) .nil))) (.cons (.tup (.cons (.var 1) (.cons (.bl true) .nil))) (.cons (.tup (.cons (.var 1) (.cons (.non) .nil))) (.cons (.tup (.cons (.var 1) (.cons (.bi .str (.cons (.var 2) .nil)) .nil))) .nil))))))))))
def t__law_near_4 : PX.S := .expr (.meth .extend (.var 3) (.cons (.lst (.cons (.tup (.cons (.bin .add (.var 1) (.sl (.var 1) (.some (.neg (.int 1))) .none)) (.cons (.var 2) .nil))) (.cons (.tup (.cons (.rev (.var 1)) (.cons (.var 2) .nil))) .nil))) .nil))
def t__law_near_5 : PX.S := .asg (.name 4) (.ite (.cmp .ne (.var 1) (.tup (.nil))) (.bin .add (.ix (.ix (.var 1) (.neg (.int 1))) (.int 0)) (.int 2)) (.int 0))
def t__law_near_6 : PX.S := .for_ (.name 5) (.seq (.lst (.cons (.tup (.cons (.var 4) (.cons (.int 0) .nil))) (.cons (.tup (.cons (.var 4) (.cons (.neg (.int 1)) .nil))) (.cons (.tup (.cons (.var 4) (.cons (.bl true) .nil))) (.cons (.tup (.cons (.var 4) .nil)) (.cons (.tup (.cons (.var 4) (.cons (.int 1) (.cons (.int 1) .nil)))) (.cons (.lst (.cons (.var 4) (.cons (.int 1) .nil))) (.cons (.tup (.cons (.neg (.int 1)) (.cons (.int 1) .nil))) (.cons (.tup (.cons (.var 4) (.cons (.int 1) .nil))) (.cons (.tup (.cons (.bin .add (.var 4) (.int 1)) (.cons (.int 1) .nil))) (.cons (.tup (.cons (.bl true) (.cons (.int 1) .nil))) (.cons (.tup (.cons (.str "0") (.cons (.int 1) .nil))) .nil))))))))))))) (u__law_near_0)
def t__law_near_7 : PX.S := .ite (.cmp .ne (.var 1) (.tup (.nil))) (u__law_near_1) (.nil)
def t__law_near_8 : PX.S := .ret (.var 3)
def b__law_near : PX.B := .cons (t__law_near_2) (.cons (t__law_near_3) (.cons (t__law_near_4) (.cons (t__law_near_5) (.cons (t__law_near_6) (.cons (t__law_near_7) (.cons (t__law_near_8) .nil))))))
def m__law_near (S : Store) (ds : List D) : R D := runB (0) 6 b__law_near S ds
def f__law_near : FnI := ⟨"_law_near", ["one"], [], m__law_near⟩
/-- added -/
def N_added : List Str := ["one", "other"]
def b_added : PX.B := .cons (.ret (.call false f_put_together (.cons (.bin .add (.ix (.var 0) (.int 0)) (.ix (.var 1) (.int 0))) (.cons (.bin .add (.ix (.var 0) (.int 1)) (.ix (.var 1) (.int 1))) .nil)))) .nil
def m_added (S : Store) (ds : List D) : R D := runB (0) 2 b_added S ds
def f_added : FnI := ⟨"added", ["one", "other"], [], m_added⟩
/-- need_sum -/
def N_need_sum : List Str := ["one"]
def b_need_sum : PX.B := .cons (.ite (.not (.call false f_is_sum (.cons (.var 0) .nil))) (.cons (.raise "BadSum" "this is no sum") .nil) (.nil)) .nil
def m_need_sum (S : Store) (ds : List D) : R D := runB (0) 1 b_need_sum S ds
def f_need_sum : FnI := ⟨"need_sum", ["one"], [], m_need_sum⟩
/-- add -/
def N_add : List Str := ["one", "other"]
def b_add : PX.B := .cons (.expr (.call false f_need_sum (.cons (.var 0) .nil))) (.cons (.ite (.not (.call false f_is_sum (.cons (.var 1) .nil))) (.cons (.raise "BadOther" "the other one is no sum") .nil) (.nil)) (.cons (.ret (.call false f_added (.cons (.var 0) (.cons (.var 1) .nil)))) .nil))
def m_add (S : Store) (ds : List D) : R D := runB (0) 2 b_add S ds
def f_add : FnI := ⟨"add", ["one", "other"], [(0, ["other", "one"])], m_add⟩
/-- total -/
def N_total : List Str := ["one", "literal", "weight"]
def e_total_0 : E := .lc [1, 2] false (.tup [1, 2]) (.seq (.ix (.var 0) (.int 0))) .none (.var 2)
def t_total_1 : PX.S := .ret (.bi .sum (.cons (e_total_0) .nil))
def b_total : PX.B := .cons (t_total_1) .nil
def m_total (S : Store) (ds : List D) : R D := runB (0) 3 b_total S ds
def f_total : FnI := ⟨"total", ["one"], [], m_total⟩
/-- negated -/
def N_negated : List Str := ["one", "terms", "literal", "weight"]
def e_negated_0 : E := .lc [2, 3] false (.tup [2, 3]) (.seq (.ix (.var 0) (.int 0))) .none (.tup (.cons (.bin .xor (.var 2) (.int 1)) (.cons (.var 3) .nil)))
def t_negated_1 : PX.S := .asg (.name 1) (.bi .tuple (.cons (.bi .sortedP (.cons (e_negated_0) .nil)) .nil))
def t_negated_2 : PX.S := .ret (.tup (.cons (.var 1) (.cons (.bin .add (.bin .sub (.call false f_total (.cons (.var 0) .nil)) (.ix (.var 0) (.int 1))) (.int 1)) .nil)))
def b_negated : PX.B := .cons (t_negated_1) (.cons (t_negated_2) .nil)
def m_negated (S : Store) (ds : List D) : R D := runB (0) 4 b_negated S ds
def f_negated : FnI := ⟨"negated", ["one"], [], m_negated⟩
/-- not_of -/
def N_not_of : List Str := ["one"]
def b_not_of : PX.B := .cons (.expr (.call false f_need_sum (.cons (.var 0) .nil))) (.cons (.ret (.call false f_negated (.cons (.var 0) .nil))) .nil)
def m_not_of (S : Store) (ds : List D) : R D := runB (0) 1 b_not_of S ds
def f_not_of : FnI := ⟨"not_of", ["one"], [(0, ["one"])], m_not_of⟩
/-- _law_true -/
def N__law_true : List Str := ["literal", "row"]
def b__law_true : PX.B := .cons (.ite (.cmp .lt (.var 0) (.int 0)) (.cons (.ret (.cmp .eq (.var 0) (.neg (.int 1)))) .nil) (.nil)) (.cons (.ret (.cmp .eq (.bin .mod (.bin .shr (.bi .int (.cons (.var 1) .nil)) (.bin .fdiv (.var 0) (.int 2))) (.int 2)) (.bin .sub (.int 1) (.bin .mod (.bi .int (.cons (.var 0) .nil)) (.int 2))))) .nil)
def m__law_true (S : Store) (ds : List D) : R D := runB (0) 2 b__law_true S ds
def f__law_true : FnI := ⟨"_law_true", ["literal", "row"], [], m__law_true⟩
/-- _law_gap -/
def N__law_gap : List Str := ["one", "row", "literal", "weight"]
def e__law_gap_0 : E := .lc [2, 3] false (.tup [2, 3]) (.seq (.ix (.var 0) (.int 0))) (.some (.call false f__law_true (.cons (.var 2) (.cons (.var 1) .nil)))) (.var 3)
def t__law_gap_1 : PX.S := .ret (.bin .sub (.bi .sum (.cons (e__law_gap_0) .nil)) (.ix (.var 0) (.int 1)))
def b__law_gap : PX.B := .cons (t__law_gap_1) .nil
def m__law_gap (S : Store) (ds : List D) : R D := runB (0) 4 b__law_gap S ds
def f__law_gap : FnI := ⟨"_law_gap", ["one", "row"], [], m__law_gap⟩
/-- _law_comes_to -/
def N__law_comes_to : List Str := ["pairs", "row", "literal", "weight"]
def e__law_comes_to_0 : E := .lc [2, 3] false (.tup [2, 3]) (.seq (.var 0)) (.some (.call false f__law_true (.cons (.var 2) (.cons (.var 1) .nil)))) (.var 3)
def t__law_comes_to_1 : PX.S := .ret (.bi .sum (.cons (e__law_comes_to_0) .nil))
def b__law_comes_to : PX.B := .cons (t__law_comes_to_1) .nil
def m__law_comes_to (S : Store) (ds : List D) : R D := runB (0) 4 b__law_comes_to S ds
def f__law_comes_to : FnI := ⟨"_law_comes_to", ["pairs", "row"], [], m__law_comes_to⟩
/-- _law_right -/
def N__law_right : List Str := ["deck", "many", "pairs", "degree", "told", "cut", "mixed", "one", "two", "far", "row", "literal", "weight"]
def e__law_right_0 : E := .lc [11, 12] false (.tup [11, 12]) (.seq (.ix (.var 4) (.int 0))) (.some (.cmp .ge (.var 11) (.bin .mul (.int 2) (.var 1)))) (.var 11)
def u__law_right_1 : PX.B := .cons (.ret (.bl false)) .nil
def e__law_right_2 : E := .lc [10] false (.name 10) (.rng1 (.bin .shl (.int 1) (.bi .min2 (.cons (.var 1) (.cons (.int 8) .nil))))) (.some (.cmp .ne (.call false f__law_gap (.cons (.var 4) (.cons (.var 10) .nil))) (.bin .sub (.call true f__law_comes_to (.cons (.var 2) (.cons (.var 10) .nil))) (.var 3)))) (.var 10)
def u__law_right_3 : PX.B := .cons (.ret (.bl false)) .nil
def u__law_right_4 : PX.B := .cons (.ret (.bl false)) .nil
def u__law_right_5 : PX.B := .cons (.ret (.bl false)) .nil
def e__law_right_6 : E := .lc [11, 12] false (.tup [11, 12]) (.seq (.var 2)) .none (.tup (.cons (.var 11) (.cons (.neg (.var 12)) .nil)))
def t__law_right_7 : PX.S := .asg (.name 4) (.callk false f_sum_of (.nil) ["degree", "pairs"] (.cons (.var 3) (.cons (.bi .tuple (.cons (.var 2) .nil)) .nil)))
def t__law_right_8 : PX.S := .ite (.or (.cons (.not (.call false f__law_is_sum (.cons (.var 4) .nil))) (.cons (.cmp .isNot (.callk false f_is_sum (.nil) ["thing"] (.cons (.var 4) .nil)) (.bl true)) (.cons (.cmp .ne (e__law_right_0) (.lst (.nil))) .nil)))) (u__law_right_1) (.nil)
def t__law_right_9 : PX.S := .ite (.cmp .ne (e__law_right_2) (.lst (.nil))) (u__law_right_3) (.nil)
def t__law_right_10 : PX.S := .par2 5 6 (.call true f__law_pick (.cons (.var 0) (.cons (.bin .add (.bi .len (.cons (.var 2) .nil)) (.int 1)) .nil))) (.rev (.var 2))
def t__law_right_11 : PX.S := .ite (.not (.call false f__law_same (.cons (.call false f_sum_of (.cons (.bi .tuple (.cons (.var 6) .nil)) (.cons (.var 3) .nil))) (.cons (.var 4) .nil)))) (u__law_right_4) (.nil)
def t__law_right_12 : PX.S := .par2 7 8 (.call false f_sum_of (.cons (.bi .tuple (.cons (.sl (.var 2) .none (.some (.var 5))) .nil)) (.cons (.var 3) .nil))) (.call false f_sum_of (.cons (.bi .tuple (.cons (.sl (.var 2) (.some (.var 5)) .none) .nil)) (.cons (.int 0) .nil)))
def t__law_right_13 : PX.S := .ite (.not (.call false f__law_same (.cons (.callk false f_add (.nil) ["other", "one"] (.cons (.var 8) (.cons (.var 7) .nil))) (.cons (.var 4) .nil)))) (u__law_right_5) (.nil)
def t__law_right_14 : PX.S := .asg (.name 9) (.call false f_sum_of (.cons (.bi .tuple (.cons (e__law_right_6) .nil)) (.cons (.bin .sub (.int 1) (.var 3)) .nil)))
def t__law_right_15 : PX.S := .ret (.call false f__law_same (.cons (.callk false f_not_of (.nil) ["one"] (.cons (.var 4) .nil)) (.cons (.var 9) .nil)))
def b__law_right : PX.B := .cons (t__law_right_7) (.cons (t__law_right_8) (.cons (t__law_right_9) (.cons (t__law_right_10) (.cons (t__law_right_11) (.cons (t__law_right_12) (.cons (t__law_right_13) (.cons (t__law_right_14) (.cons (t__law_right_15) .nil))))))))
def m__law_right (S : Store) (ds : List D) : R D := runB (0) 13 b__law_right S ds
def f__law_right : FnI := ⟨"_law_right", ["deck", "many", "pairs", "degree"], [], m__law_right⟩
/-- _law_refused -/
def N__law_refused : List Str := ["pairs", "degree", "word", "told"]
def u__law_refused_0 : PX.B := .cons (.asg (.name 3) (.callk false f_sum_of (.nil) ["degree", "pairs"] (.cons (.var 1) (.cons (.var 0) .nil)))) .nil
def t__law_refused_1 : PX.S := .asg (.name 2) (.str "told")
def t__law_refused_2 : PX.S := .try_ (u__law_refused_0) ["BadPairs", "BadDegree"] [("BadPairs", ["BadPairs"], 2, "pairs"), ("BadDegree", ["BadDegree"], 2, "degree")]
def t__law_refused_3 : PX.S := .ret (.var 2)
def b__law_refused : PX.B := .cons (t__law_refused_1) (.cons (t__law_refused_2) (.cons (t__law_refused_3) .nil))
def m__law_refused (S : Store) (ds : List D) : R D := runB (0) 4 b__law_refused S ds
def f__law_refused : FnI := ⟨"_law_refused", ["pairs", "degree"], [], m__law_refused⟩
/-- law -/
def N_law : List Str := ["script", "deck", "turn", "many", "pairs", "count", "degree", "one", "thing", "odd"]
def u_law_0 : PX.B := .cons (.ret (.bl false)) .nil
def u_law_1 : PX.B := .cons (.ret (.bl false)) .nil
def u_law_2 : PX.B := .cons (.ite (.not (.call false f__law_same (.cons (.callk false f_is_sum (.nil) ["thing"] (.cons (.var 8) .nil)) (.cons (.call false f__law_is_sum (.cons (.var 8) .nil)) .nil)))) (u_law_1) (.nil)) .nil
def u_law_3 : PX.B := .cons (.ret (.bl false)) .nil
def u_law_4 : PX.B := .cons (.par2 3 5 (.bin .add (.int 1) (.call true f__law_pick (.cons (.var 1) (.cons (.int 7) .nil)))) (.ix (.lst (.cons (.int 0) (.cons (.int 1) (.cons (.int 5) (.cons (.int 30) (.cons (.int 30) (.cons (.int 200) .nil))))))) (.call true f__law_pick (.cons (.var 1) (.cons (.int 6) .nil))))) (.cons (.asg (.name 4) (.ite (.cmp .gt (.var 5) (.int 0)) (.call true f__law_pairs (.cons (.var 1) (.cons (.var 3) (.cons (.var 5) .nil)))) (.lst (.nil)))) (.cons (.asg (.name 6) (.bin .sub (.call true f__law_pick (.cons (.var 1) (.cons (.int 41) .nil))) (.int 20))) (.cons (.ite (.not (.call true f__law_right (.cons (.var 1) (.cons (.var 3) (.cons (.var 4) (.cons (.var 6) .nil)))))) (u_law_0) (.nil)) (.cons (.asg (.name 7) (.call false f_sum_of (.cons (.bi .tuple (.cons (.var 4) .nil)) (.cons (.var 6) .nil)))) (.cons (.for_ (.name 8) (.seq (.call true f__law_near (.cons (.var 7) .nil))) (u_law_2)) (.cons (.asg (.name 9) (.ix (.lst (.cons (.non) (.cons (.lst (.nil)) (.cons (.tup (.cons (.tup (.cons (.int 0) .nil)) .nil)) (.cons (.tup (.cons (.tup (.cons (.int 0) (.cons (.int 1) (.cons (.int 1) .nil)))) .nil)) (.cons (.tup (.cons (.lst (.cons (.int 0) (.cons (.int 1) .nil))) .nil)) (.cons (.tup (.cons (.tup (.cons (.neg (.int 3)) (.cons (.int 1) .nil))) .nil)) (.cons (.tup (.cons (.tup (.cons (.int 0) (.cons (.non) .nil))) .nil)) (.cons (.tup (.cons (.tup (.cons (.int 0) (.cons (.bl true) .nil))) .nil)) (.cons (.tup (.cons (.tup (.cons (.bl true) (.cons (.int 1) .nil))) .nil)) (.cons (.tup (.cons (.non) .nil)) .nil))))))))))) (.call true f__law_pick (.cons (.var 1) (.cons (.int 10) .nil))))) (.cons (.ite (.cmp .ne (.lst (.cons (.call false f__law_refused (.cons (.var 9) (.cons (.non) .nil))) (.cons (.call false f__law_refused (.cons (.bi .tuple (.cons (.var 4) .nil)) (.cons (.ix (.lst (.cons (.non) (.cons (.bl true) (.cons (.str "1") .nil)))) (.call true f__law_pick (.cons (.var 1) (.cons (.int 3) .nil)))) .nil))) (.cons (.call false f__law_refused (.cons (.var 9) (.cons (.int 1) .nil))) .nil)))) (.lst (.cons (.str "pairs") (.cons (.str "degree") (.cons (.str "pairs") .nil))))) (u_law_3) (.nil)) .nil)))))))
def t_law_5 : PX.S := .asg (.name 1) (.call true f__law_deck (.cons (.var 0) .nil))
def t_law_6 : PX.S := .for_ (.name 2) (.rng1 (.bin .add (.int 2) (.bi .min2 (.cons (.bi .len (.cons (.var 0) .nil)) (.cons (.int 3) .nil))))) (u_law_4)
def t_law_7 : PX.S := .asg (.name 3) (.bin .add (.int 1) (.call true f__law_pick (.cons (.var 1) (.cons (.int 3) .nil))))
def t_law_8 : PX.S := .asg (.name 4) (.call true f__law_pairs (.cons (.var 1) (.cons (.var 3) (.cons (.int 1000) .nil))))
def t_law_9 : PX.S := .ret (.and (.cons (.call true f__law_right (.cons (.var 1) (.cons (.var 3) (.cons (.var 4) (.cons (.int 7) .nil))))) (.cons (.cmp .eq (.call false f__law_refused (.cons (.bin .add (.bi .tuple (.cons (.var 4) .nil)) (.tup (.cons (.tup (.cons (.int 0) (.cons (.int 1) .nil))) .nil))) (.cons (.int 7) .nil))) (.str "pairs")) .nil)))
def b_law : PX.B := .cons (t_law_5) (.cons (t_law_6) (.cons (t_law_7) (.cons (t_law_8) (.cons (t_law_9) .nil))))
def m_law (S : Store) (ds : List D) : R D := runB (0) 10 b_law S ds
def f_law : FnI := ⟨"law", ["script"], [], m_law⟩
end LW

/-! the checks, printed by gen.py -/
namespace LW
open PySem L2 PX
abbrev s_is_int : Stmt := top 7
theorem sc_is_int : FnScope N_is_int f_is_int.ps (defScope s_is_int) := ⟨rfl, rfl, rfl, by decide +kernel, rfl, by decide +kernel, by decide +kernel⟩
theorem ck_is_int : chkB ⟨N_is_int, defScope s_is_int, fun _ => true⟩ b_is_int (defBody s_is_int) = true := by decide +kernel
abbrev s_is_row : Stmt := top 9
theorem sc_is_row : FnScope N_is_row f_is_row.ps (defScope s_is_row) := ⟨rfl, rfl, rfl, by decide +kernel, rfl, by decide +kernel, by decide +kernel⟩
theorem ck_is_row : chkB ⟨N_is_row, defScope s_is_row, fun _ => true⟩ b_is_row (defBody s_is_row) = true := by decide +kernel
abbrev s_is_index : Stmt := top 8
theorem sc_is_index : FnScope N_is_index f_is_index.ps (defScope s_is_index) := ⟨rfl, rfl, rfl, by decide +kernel, rfl, by decide +kernel, by decide +kernel⟩
theorem ck_is_index : chkB ⟨N_is_index, defScope s_is_index, fun _ => true⟩ b_is_index (defBody s_is_index) = true := by decide +kernel
abbrev s_is_term : Stmt := top 13
theorem sc_is_term : FnScope N_is_term f_is_term.ps (defScope s_is_term) := ⟨rfl, rfl, rfl, by decide +kernel, rfl, by decide +kernel, by decide +kernel⟩
theorem ck_is_term : chkB ⟨N_is_term, defScope s_is_term, fun _ => true⟩ b_is_term (defBody s_is_term) = true := by decide +kernel
abbrev s_are_terms : Stmt := top 14
theorem sc_are_terms : FnScope N_are_terms f_are_terms.ps (defScope s_are_terms) := ⟨rfl, rfl, rfl, by decide +kernel, rfl, by decide +kernel, by decide +kernel⟩
theorem ck_are_terms : chkB ⟨N_are_terms, defScope s_are_terms, fun _ => true⟩ b_are_terms (defBody s_are_terms) = true := by decide +kernel
abbrev s_is_sum : Stmt := top 15
theorem sc_is_sum : FnScope N_is_sum f_is_sum.ps (defScope s_is_sum) := ⟨rfl, rfl, rfl, by decide +kernel, rfl, by decide +kernel, by decide +kernel⟩
theorem ck_is_sum : chkB ⟨N_is_sum, defScope s_is_sum, fun _ => true⟩ b_is_sum (defBody s_is_sum) = true := by decide +kernel
abbrev s_put_together : Stmt := top 16
theorem sc_put_together : FnScope N_put_together f_put_together.ps (defScope s_put_together) := ⟨rfl, rfl, rfl, by decide +kernel, rfl, by decide +kernel, by decide +kernel⟩
theorem ck_put_together : chkB ⟨N_put_together, defScope s_put_together, fun _ => true⟩ b_put_together (defBody s_put_together) = true := by decide +kernel
abbrev s_is_weighted : Stmt := top 23
theorem sc_is_weighted : FnScope N_is_weighted f_is_weighted.ps (defScope s_is_weighted) := ⟨rfl, rfl, rfl, by decide +kernel, rfl, by decide +kernel, by decide +kernel⟩
theorem ck_is_weighted : chkB ⟨N_is_weighted, defScope s_is_weighted, fun _ => true⟩ b_is_weighted (defBody s_is_weighted) = true := by decide +kernel
abbrev s_sum_of : Stmt := top 24
theorem sc_sum_of : FnScope N_sum_of f_sum_of.ps (defScope s_sum_of) := ⟨rfl, rfl, rfl, by decide +kernel, rfl, by decide +kernel, by decide +kernel⟩
theorem ck_sum_of : chkB ⟨N_sum_of, defScope s_sum_of, fun _ => true⟩ b_sum_of (defBody s_sum_of) = true := by decide +kernel
abbrev s__law_deck : Stmt := top 28
theorem sc__law_deck : FnScope N__law_deck f__law_deck.ps (defScope s__law_deck) := ⟨rfl, rfl, rfl, by decide +kernel, rfl, by decide +kernel, by decide +kernel⟩
theorem ck__law_deck : chkB ⟨N__law_deck, defScope s__law_deck, fun _ => true⟩ b__law_deck (defBody s__law_deck) = true := by decide +kernel
abbrev s__law_pick : Stmt := top 29
theorem sc__law_pick : FnScope N__law_pick f__law_pick.ps (defScope s__law_pick) := ⟨rfl, rfl, rfl, by decide +kernel, rfl, by decide +kernel, by decide +kernel⟩
theorem ck__law_pick : chkB ⟨N__law_pick, defScope s__law_pick, fun _ => true⟩ b__law_pick (defBody s__law_pick) = true := by decide +kernel
abbrev s__law_same : Stmt := top 30
theorem sc__law_same : FnScope N__law_same f__law_same.ps (defScope s__law_same) := ⟨rfl, rfl, rfl, by decide +kernel, rfl, by decide +kernel, by decide +kernel⟩
theorem ck__law_same : chkB ⟨N__law_same, defScope s__law_same, fun _ => true⟩ b__law_same (defBody s__law_same) = true := by decide +kernel
abbrev s__law_int : Stmt := top 33
theorem sc__law_int : FnScope N__law_int f__law_int.ps (defScope s__law_int) := ⟨rfl, rfl, rfl, by decide +kernel, rfl, by decide +kernel, by decide +kernel⟩
theorem ck__law_int : chkB ⟨N__law_int, defScope s__law_int, fun _ => true⟩ b__law_int (defBody s__law_int) = true := by decide +kernel
abbrev s__law_is_sum : Stmt := top 34
theorem sc__law_is_sum : FnScope N__law_is_sum f__law_is_sum.ps (defScope s__law_is_sum) := ⟨rfl, rfl, rfl, by decide +kernel, rfl, by decide +kernel, by decide +kernel⟩
theorem ck__law_is_sum : chkB ⟨N__law_is_sum, defScope s__law_is_sum, fun _ => true⟩ b__law_is_sum (defBody s__law_is_sum) = true := by decide +kernel
abbrev s__law_pairs : Stmt := top 35
theorem sc__law_pairs : FnScope N__law_pairs f__law_pairs.ps (defScope s__law_pairs) := ⟨rfl, rfl, rfl, by decide +kernel, rfl, by decide +kernel, by decide +kernel⟩
theorem ck__law_pairs : chkB ⟨N__law_pairs, defScope s__law_pairs, fun _ => true⟩ b__law_pairs (defBody s__law_pairs) = true := by decide +kernel
abbrev s__law_near : Stmt := top 37
theorem sc__law_near : FnScope N__law_near f__law_near.ps (defScope s__law_near) := ⟨rfl, rfl, rfl, by decide +kernel, rfl, by decide +kernel, by decide +kernel⟩
theorem ck__law_near : chkB ⟨N__law_near, defScope s__law_near, fun _ => true⟩ b__law_near (defBody s__law_near) = true := by decide +kernel
abbrev s_added : Stmt := top 18
theorem sc_added : FnScope N_added f_added.ps (defScope s_added) := ⟨rfl, rfl, rfl, by decide +kernel, rfl, by decide +kernel, by decide +kernel⟩
theorem ck_added : chkB ⟨N_added, defScope s_added, fun _ => true⟩ b_added (defBody s_added) = true := by decide +kernel
abbrev s_need_sum : Stmt := top 22
theorem sc_need_sum : FnScope N_need_sum f_need_sum.ps (defScope s_need_sum) := ⟨rfl, rfl, rfl, by decide +kernel, rfl, by decide +kernel, by decide +kernel⟩
theorem ck_need_sum : chkB ⟨N_need_sum, defScope s_need_sum, fun _ => true⟩ b_need_sum (defBody s_need_sum) = true := by decide +kernel
abbrev s_add : Stmt := top 25
theorem sc_add : FnScope N_add f_add.ps (defScope s_add) := ⟨rfl, rfl, rfl, by decide +kernel, rfl, by decide +kernel, by decide +kernel⟩
theorem ck_add : chkB ⟨N_add, defScope s_add, fun _ => true⟩ b_add (defBody s_add) = true := by decide +kernel
abbrev s_total : Stmt := top 17
theorem sc_total : FnScope N_total f_total.ps (defScope s_total) := ⟨rfl, rfl, rfl, by decide +kernel, rfl, by decide +kernel, by decide +kernel⟩
theorem ck_total : chkB ⟨N_total, defScope s_total, fun _ => true⟩ b_total (defBody s_total) = true := by decide +kernel
abbrev s_negated : Stmt := top 19
theorem sc_negated : FnScope N_negated f_negated.ps (defScope s_negated) := ⟨rfl, rfl, rfl, by decide +kernel, rfl, by decide +kernel, by decide +kernel⟩
theorem ck_negated : chkB ⟨N_negated, defScope s_negated, fun _ => true⟩ b_negated (defBody s_negated) = true := by decide +kernel
abbrev s_not_of : Stmt := top 26
theorem sc_not_of : FnScope N_not_of f_not_of.ps (defScope s_not_of) := ⟨rfl, rfl, rfl, by decide +kernel, rfl, by decide +kernel, by decide +kernel⟩
theorem ck_not_of : chkB ⟨N_not_of, defScope s_not_of, fun _ => true⟩ b_not_of (defBody s_not_of) = true := by decide +kernel
abbrev s__law_true : Stmt := top 31
theorem sc__law_true : FnScope N__law_true f__law_true.ps (defScope s__law_true) := ⟨rfl, rfl, rfl, by decide +kernel, rfl, by decide +kernel, by decide +kernel⟩
theorem ck__law_true : chkB ⟨N__law_true, defScope s__law_true, fun _ => true⟩ b__law_true (defBody s__law_true) = true := by decide +kernel
abbrev s__law_gap : Stmt := top 32
theorem sc__law_gap : FnScope N__law_gap f__law_gap.ps (defScope s__law_gap) := ⟨rfl, rfl, rfl, by decide +kernel, rfl, by decide +kernel, by decide +kernel⟩
theorem ck__law_gap : chkB ⟨N__law_gap, defScope s__law_gap, fun _ => true⟩ b__law_gap (defBody s__law_gap) = true := by decide +kernel
abbrev s__law_comes_to : Stmt := top 36
theorem sc__law_comes_to : FnScope N__law_comes_to f__law_comes_to.ps (defScope s__law_comes_to) := ⟨rfl, rfl, rfl, by decide +kernel, rfl, by decide +kernel, by decide +kernel⟩
theorem ck__law_comes_to : chkB ⟨N__law_comes_to, defScope s__law_comes_to, fun _ => true⟩ b__law_comes_to (defBody s__law_comes_to) = true := by decide +kernel
abbrev s__law_right : Stmt := top 38
theorem sc__law_right : FnScope N__law_right f__law_right.ps (defScope s__law_right) := ⟨rfl, rfl, rfl, by decide +kernel, rfl, by decide +kernel, by decide +kernel⟩
theorem ck__law_right : chkB ⟨N__law_right, defScope s__law_right, fun _ => true⟩ b__law_right (defBody s__law_right) = true := by decide +kernel
abbrev s__law_refused : Stmt := top 39
theorem sc__law_refused : FnScope N__law_refused f__law_refused.ps (defScope s__law_refused) := ⟨rfl, rfl, rfl, by decide +kernel, rfl, by decide +kernel, by decide +kernel⟩
theorem ck__law_refused : chkB ⟨N__law_refused, defScope s__law_refused, fun _ => true⟩ b__law_refused (defBody s__law_refused) = true := by decide +kernel
abbrev s_law : Stmt := top 40
theorem sc_law : FnScope N_law f_law.ps (defScope s_law) := ⟨rfl, rfl, rfl, by decide +kernel, rfl, by decide +kernel, by decide +kernel⟩
theorem ck_law : chkB ⟨N_law, defScope s_law, fun _ => true⟩ b_law (defBody s_law) = true := by decide +kernel
end LW

namespace LW
open PX
variable {S : Store}
@[simp] theorem c_is_int (d : D) (hd : d.free = true) (S : Store) : callV false f_is_int [d] S = .ok (.bl d.isI) S :=
  callV_ok S (S0 := []) (by cases d <;> first | rfl | simp at hd) rfl (by simp [hd]) rfl

theorem c_is_row (d : D) (hd : d.free = true) (lo hi : Int) (S : Store) : callV false f_is_row [d, .int lo, .int hi] S = .ok (.bl (rowB d lo hi)) S := by
  refine callV_ok S (S0 := []) ?_ rfl (by simp [hd]) rfl
  show m_is_row [] _ = _
  cases d with
  | tup xs =>
    unfold m_is_row runB b_is_row
    simp [eb_cons, ev_v, rowB]
    by_cases h1 : lo ≤ xs.length <;> by_cases h2 : (xs.length : Int) ≤ hi <;> simp [h1, h2]
  | kup xs =>
    unfold m_is_row runB b_is_row
    simp [eb_cons, ev_v, rowB]
    by_cases h1 : lo ≤ xs.length <;> by_cases h2 : (xs.length : Int) ≤ hi <;> simp [h1, h2]
  | adr => simp at hd
  | _ => rfl

theorem c_is_index (d : D) (hd : d.free = true) (S : Store) : callV false f_is_index [d] S = .ok (.bl (fromB 0 d)) S := by
  refine callV_ok S (S0 := []) ?_ rfl (by simp [hd]) rfl
  show m_is_index [] _ = _
  unfold m_is_index runB b_is_index
  cases d <;> simp [eb_cons, ev_v, D.isI, fromB] at hd ⊢ <;> simp [hd, D.isI]

theorem c_is_term (d : D) (hg : d.good = true) (S : Store) : callV false f_is_term [d] S = .ok (.bl (termD d)) S := by
  have hd := D.good.free hg
  refine callV_ok S (S0 := []) ?_ rfl (by simp [hd]) rfl
  show m_is_term [] _ = _
  unfold m_is_term runB b_is_term
  have hr := fun S => c_is_row d hd 2 2 S
  cases d with
  | tup xs =>
    rcases xs with _ | ⟨a, _ | ⟨b, _ | ⟨c, r⟩⟩⟩
    · simp [eb_cons, ev_v, hr, rowB, termD]
    · simp [eb_cons, ev_v, hr, rowB, termD]
    · simp at hd
      simp only [rowB, List.length_cons, List.length_nil] at hr
      simp [eb_cons, ev_v, hr, c_is_index _ hd.1, hd.1, hd.2, termD]
      cases h1 : fromB 0 a with
      | false => simp
      | true => cases b <;> simp [D.isI, fromB] at hd ⊢
    · have : rowB (.tup (a :: b :: c :: r)) 2 2 = false := by simp [rowB]; omega
      simp [eb_cons, ev_v, hr, this, termD]
  | kup xs => simp [D.good] at hg
  | adr => simp at hd
  | _ => simp [eb_cons, ev_v, hr, rowB, termD]

theorem c_are_terms (d : D) (hg : d.good = true) (S : Store) : callV false f_are_terms [d] S = .ok (.bl (termsD d)) S := by
  have hd := D.good.free hg
  refine callV_ok S (S0 := []) ?_ rfl (by simp [hd]) rfl
  show m_are_terms [] _ = _
  unfold m_are_terms runB b_are_terms
  cases d with
  | tup xs =>
    obtain ⟨hl, hgs⟩ := good_tup hg
    have e1 : evE e_are_terms_0 [some (D.tup xs), none, none, none, none, none, none] [] = .ok (.lst (xs.map fun d => D.bl (termD d))) [] := by
      unfold e_are_terms_0
      exact ev_lcA (enc := id) (g := []) (by simp [eb_cons, ev_v]) rfl (sz100000 hl) fun x hx => ⟨_, rfl, by simp [eb_cons, ev_v, c_is_term _ (goods_iff.mp hgs x hx)]⟩
    have a1 : (xs.map termD).all id = xs.all termD := by rw [List.all_map]; rfl
    unfold t_are_terms_4 u_are_terms_1 t_are_terms_5 t_are_terms_6
    cases ht : xs.all termD with
    | false => simp [eb_cons, ev_v, e1, all_lst (asBls_map' _ _), a1, ht, -List.all_map, -List.all_eq_true, termsD_not ht]
    | true =>
      obtain ⟨ts, rfl, ht2⟩ := terms_inv ht
      have hm : (ts.map fun t => D.int (t.1 / 2)) = (ts.map fun t => t.1 / 2).map D.int := by simp
      have hz := hl
      rw [List.length_map] at hz
      have e2 : evE e_are_terms_2 [some (D.tup (ts.map pairD)), none, none, none, none, none, none] [] = .ok (.lst ((ts.map fun t => t.1 / 2).map D.int)) [] := by
        unfold e_are_terms_2
        rw [← hm]
        exact ev_lcA (enc := pairD) (g := []) (by simp [eb_cons, ev_v]) rfl (sz100000 hz) fun x hx => ⟨_, rfl, by simp [eb_cons, ev_v, pairD, d2]⟩
      have e3 : evE e_are_terms_3 [some (D.tup (ts.map pairD)), some (.lst ((ts.map fun t => t.1 / 2).map D.int)), none, none, none, none, none] [] = .ok (.lst ((((ts.map fun t => t.1 / 2).zip ((ts.map fun t => t.1 / 2).drop 1))).map fun p => D.bl (decide (p.1 < p.2)))) [] := by
        unfold e_are_terms_3
        refine ev_lcA (enc := pairD) (g := []) ?_ rfl (sz100000 (by simp; omega)) fun x hx => ⟨_, rfl, by simp [eb_cons, ev_v, pairD]⟩
        have h1 : cutG ((ts.map fun t => t.1 / 2).map D.int) (some 1) none = ((ts.map fun t => t.1 / 2).drop 1).map D.int := by rw [List.map_drop]; exact cut_from _ 1
        simp [eb_cons, ev_v, slV_lst, zipV_lst, h1, zip_ints, -List.map_map, -List.map_drop, -List.drop_one]
      have a3 : (((ts.map fun t => t.1 / 2).zip ((ts.map fun t => t.1 / 2).drop 1)).map fun p => decide (p.1 < p.2)).all id = ascB (ts.map fun t => t.1 / 2) := by rw [List.all_map]; rfl
      simp [eb_cons, ev_v, e1, e2, e3, all_lst (asBls_map' _ _), a1, a3, ht, ht2, termsD_pairs, -List.all_map, -List.all_eq_true, -List.map_map, -List.map_drop, -List.drop_one]
  | kup xs => simp [D.good] at hg
  | adr => simp at hd
  | _ => unfold t_are_terms_4 u_are_terms_1; simp [eb_cons, ev_v, termsD]
theorem c_are_terms_ok {ts : List (Int × Int)} (s : SumOk ts) (S : Store) : callV false f_are_terms [.tup (ts.map pairD)] S = .ok (.bl true) S := by
  rw [c_are_terms _ (by simp [D.good, goods_pairs, s.len]), s.terms]

theorem c_is_sum (d : D) (hg : d.good = true) (S : Store) : callV false f_is_sum [d] S = .ok (.bl (sumB d)) S := by
  have hd := D.good.free hg
  refine callV_ok S (S0 := []) ?_ rfl (by simp [hd]) rfl
  show m_is_sum [] _ = _
  unfold m_is_sum runB b_is_sum
  have hr := fun S => c_is_row d hd 2 2 S
  cases d with
  | tup xs =>
    rcases xs with _ | ⟨a, _ | ⟨b, _ | ⟨c, r⟩⟩⟩
    · simp [eb_cons, ev_v, hr, rowB, sumB]
    · simp [eb_cons, ev_v, hr, rowB, sumB]
    · simp at hd
      simp only [rowB, List.length_cons, List.length_nil] at hr
      have ha : a.good = true := by simp [D.good, D.goods] at hg; exact hg.1
      simp [eb_cons, ev_v, hr, c_are_terms _ ha, hd.1, hd.2, sumB]
      cases h1 : termsD a <;> simp
    · have : rowB (.tup (a :: b :: c :: r)) 2 2 = false := by simp [rowB]; omega
      simp [eb_cons, ev_v, hr, this, sumB]
  | kup xs => simp [D.good] at hg
  | adr => simp at hd
  | _ => simp [eb_cons, ev_v, hr, rowB, sumB]
theorem c_is_sum_ok {ts : List (Int × Int)} (s : SumOk ts) (dg : Int) (S : Store) : callV false f_is_sum [sumD ts dg] S = .ok (.bl true) S := by
  rw [c_is_sum _ (good_sum s.len), s.sumB]

theorem c_need_sum {ts : List (Int × Int)} (h : SumOk ts) (dg : Int) (S : Store) : callV false f_need_sum [sumD ts dg] S = .ok .non S := by
  refine callV_ok S (S0 := []) ?_ rfl (by simp) rfl
  show m_need_sum [] _ = _
  unfold m_need_sum runB b_need_sum
  simp [eb_cons, ev_v, c_is_sum_ok h]
theorem n_need_sum {d : D} (hd : d.good = true) (h : sumB d = false) (S : Store) : callV false f_need_sum [d] S = .exc "BadSum" S := by
  refine callV_exc S (S0 := []) ?_ rfl (by simp [D.good.free hd])
  show m_need_sum [] _ = _
  unfold m_need_sum runB b_need_sum
  simp [eb_cons, ev_v, c_is_sum _ hd, h]

theorem w_put_together {ps : List (Int × Int)} {dg : Int} (hl : ps.length ≤ 100000) {d : D} (hd : d = .tup (ps.map pairD) ∨ d = .lst (ps.map pairD)) {Q : D → Store → Prop} (hQ : ∀ ts dg' S', IsPut ps dg ts dg' → Q (sumD ts dg') S') : (m_put_together [] [d, .int dg]).wp Q := by
  have hw : ∀ S, seqW S d = some ⟨ps.map pairD, []⟩ := fun S => by rcases hd with rfl | rfl <;> rfl
  unfold m_put_together
  rw [wp_run]
  unfold b_put_together
  rw [wpB_cons]
  unfold t_put_together_7
  simp [ev_v]
  unfold t_put_together_8
  simp only [wp_for_, ev_seq, ev_v, List.getElem?_cons_zero, R.bind_ok, hw, optR_some, wp_ok]
  obtain ⟨P, hP⟩ : ∃ P : Nat → Env → Store → Prop, P = fun i ρ S => ∃ net rest a4 a5 a7, ρ = [some d, some (.int dg), some (.adr 0), some (.int rest), a4, a5, none, a7, none] ∧ S = [.dic (encN net)] ∧ (keysN net).Nodup ∧ (∀ k ∈ keysN net, 0 ≤ k) ∧ net.length ≤ i ∧ ∀ x, netX x net - rest = valX x (ps.take i) - dg := ⟨_, rfl⟩
  refine wp_for (w := ⟨ps.map pairD, []⟩) P (by rw [hP]; exact ⟨[], dg, none, none, none, rfl, rfl, by simp [keysN], by simp [keysN], by simp, by simp⟩) (fun _ _ _ _ => rfl) ?_ ?_
  · intro i x ρ S hx hp
    rw [hP] at hp
    obtain ⟨net, rest, a4, a5, a7, hρ, hS, hn, hk, hle, he⟩ := hp
    subst hρ hS
    rw [List.getElem?_map] at hx
    cases hp : ps[i]? with
    | none => rw [hp] at hx; cases hx
    | some p =>
      obtain ⟨l, w⟩ := p
      rw [hp] at hx
      cases hx
      have hi : i < ps.length := (List.getElem?_eq_some_iff.mp hp).1
      have htk : ps.take (i + 1) = ps.take i ++ [(l, w)] := by rw [List.take_add_one, hp]; rfl
      refine ⟨_, rfl, ?_⟩
      have hz : net.length < PySem.sizeLine := Nat.lt_of_lt_of_le (show net.length < 100000 by omega) (sz100000 (Nat.le_refl _))
      have hlen : (encN net).length < PySem.sizeLine := by simpa [encN] using hz
      have asg : ∀ a : Int, setV [.dic (encN net)] (.adr 0) (.int (l / 2)) (.int a) = .ok () [.dic (encN (putN net (l / 2) a))] := fun a => by
        unfold setV
        simp [asKey, hlen, putD_enc hn]
      have get : guardR (mkind .get2 [.dic (encN net)] (.adr 0)) (methV .get2 [.dic (encN net)] (.adr 0) [.int (l / 2), .int 0]) = .ok (.int (getN net (l / 2))) [.dic (encN net)] := by
        simp [mkind, ME.ofDict, asDic, methV, asKey, valD_enc]
      have mo : mulOk (1 - 2 * (l % 2)) w = true := by
        have : small64 (1 - 2 * (l % 2)) = true := by simp [small64]; omega
        simp [mulOk, this]
      have m2 : mulOk 2 (l % 2) = true := by simp [mulOk, small64]
      have rcd : ∀ (rest' : Int) (a4 a5 a7 : Option D) (net' : List (Int × Int)), ((keysN net').Nodup ∧ (∀ k ∈ keysN net', 0 ≤ k) ∧ net'.length ≤ i + 1 ∧ ∀ x, netX x net' - rest' = netX x net - rest + w * litX x l) → P (i + 1) [some d, some (.int dg), some (.adr 0), some (.int rest'), a4, a5, none, a7, none] [.dic (encN net')] := fun rest' a4 a5 a7 net' ⟨h1, h2, h3, h4⟩ => by
        rw [hP]
        exact ⟨net', rest', a4, a5, a7, rfl, rfl, h1, h2, h3, fun x => by
          rw [h4 x, htk, valX_append, valX_cons, valX_nil]; dsimp only; have := he x; omega⟩
      have same : (keysN net).Nodup ∧ (∀ k ∈ keysN net, 0 ≤ k) ∧ net.length ≤ i + 1 := ⟨hn, hk, by omega⟩
      have more : 0 ≤ l → ∀ a, (keysN (putN net (l / 2) a)).Nodup ∧ (∀ k ∈ keysN (putN net (l / 2) a), 0 ≤ k) ∧ (putN net (l / 2) a).length ≤ i + 1 := fun h0 a => ⟨nodup_put hn, fun k hk2 => by
        rcases mem_put hk2 with h | h
        · exact hk k h
        · omega, Nat.le_trans (len_put _ _ _) (by omega)⟩
      unfold u_put_together_2 u_put_together_0 u_put_together_1
      by_cases h0 : 0 ≤ l
      · have h1 : 0 ≤ l / 2 := by omega
        have h2 : (l == -1) = false := by rw [beq_eq_false_iff_ne]; omega
        by_cases hb : l % 2 = 1
        · simp [ev_v, d2, c_ALWAYS, h1, h2, and1, hb, get, asg, mulOk, small64]
          refine rcd _ _ _ _ _ ?_; exact ⟨(more h0 _).1, (more h0 _).2.1, (more h0 _).2.2, fun x => by
            have := netX_put x (l / 2) (-w) net
            rw [this]
            unfold litX
            rw [if_neg (by omega), if_neg (by omega), Int.mul_sub, Int.mul_one, Int.neg_mul]; omega⟩
        · have hb0 : l % 2 = 0 := by omega
          simp [ev_v, d2, c_ALWAYS, h1, h2, and1, hb0, get, asg, mulOk, small64]
          refine rcd _ _ _ _ _ ?_; exact ⟨(more h0 _).1, (more h0 _).2.1, (more h0 _).2.2, fun x => by
            have := netX_put x (l / 2) w net
            rw [this]
            unfold litX
            rw [if_neg (by omega), if_pos hb0]; omega⟩
      · have h1 : ¬ 0 ≤ l / 2 := by omega
        by_cases hm : l = -1
        · subst hm
          simp [ev_v, d2, c_ALWAYS]
          refine rcd _ _ _ _ _ ?_; exact ⟨same.1, same.2.1, same.2.2, fun x => by
            have : litX x (-1) = 1 := rfl
            rw [this]; omega⟩
        · have h2 : (l == -1) = false := by rw [beq_eq_false_iff_ne]; exact hm
          simp [ev_v, d2, c_ALWAYS, h1, h2]
          refine rcd _ _ _ _ _ ?_; exact ⟨same.1, same.2.1, same.2.2, fun x => by
            have : litX x l = 0 := by unfold litX; rw [if_pos (by omega), if_neg hm]
            rw [this]; omega⟩
  · intro ρ S hp
    rw [hP] at hp
    obtain ⟨net, rest, a4, a5, a7, hρ, hS, hn, hk, hle, he⟩ := hp
    subst hρ hS
    simp only [List.length_map, List.take_length] at hle he
    rw [then_next, wpB_cons]
    unfold t_put_together_9
    simp [ev_v]
    unfold t_put_together_10
    have srt : biV .sorted [.dic (encN net), .lst []] [.adr 0] = .ok (.lst ((sortI (keysN net)).map D.int)) [.dic (encN net), .lst []] := by
      unfold biV
      simp [asLst, asDic, keyInts_enc]
    simp [ev_v, srt]
    have hlen : (sortI (keysN net)).length ≤ 100000 := by rw [(sortI_perm _).length_eq]; simp [keysN]; omega
    obtain ⟨P2, hP2⟩ : ∃ P : Nat → Env → Store → Prop, P = fun i ρ S => ∃ ts rest' a7 a8, ρ = [some d, some (.int dg), some (.adr 0), some (.int rest'), a4, a5, some (.adr 1), a7, a8] ∧ S = [.dic (encN net), .lst (ts.map pairD)] ∧ (∀ t ∈ ts, 0 ≤ t.1 ∧ 1 ≤ t.2) ∧ (ts.map fun t => t.1 / 2).Pairwise (· < ·) ∧ (∀ t ∈ ts, t.1 / 2 ∈ (sortI (keysN net)).take i) ∧ ts.length ≤ i ∧ ∀ x, valX x ts - rest' = (((sortI (keysN net)).take i).map fun k => getN net k * x k).sum - rest := ⟨_, rfl⟩
    refine wp_for (w := ⟨(sortI (keysN net)).map D.int, []⟩) P2 (by rw [hP2]; exact ⟨[], rest, a7, none, rfl, rfl, by simp, by simp, by simp, by simp, by simp⟩) (fun _ _ _ _ => rfl) ?_ ?_
    · intro i x ρ S hx hp
      rw [hP2] at hp
      obtain ⟨ts, rest', a7, a8, hρ, hS, htm, hasc, hin, hle2, he2⟩ := hp
      subst hρ hS
      rw [List.getElem?_map] at hx
      cases hp : (sortI (keysN net))[i]? with
      | none => rw [hp] at hx; cases hx
      | some v =>
        rw [hp] at hx
        cases hx
        have hi : i < (sortI (keysN net)).length := (List.getElem?_eq_some_iff.mp hp).1
        have hv : v ∈ keysN net := (sortI_perm _).mem_iff.mp (List.mem_of_getElem? hp)
        have hv0 := hk v hv
        have htk : (sortI (keysN net)).take (i + 1) = (sortI (keysN net)).take i ++ [v] := by rw [List.take_add_one, hp]; rfl
        have hnew : ∀ t ∈ ts, t.1 / 2 < v := fun t ht => by
          have h1 := sortI_lt hn
          have h2 : (sortI (keysN net)).take (i + 1) = (sortI (keysN net)).take i ++ [v] := htk
          have h3 := h1.sublist (List.take_sublist (i + 1) _)
          rw [h2, List.pairwise_append] at h3
          exact h3.2.2 _ (hin t ht) v (by simp)
        refine ⟨_, rfl, ?_⟩
        have get : ∀ S1, ixV (.dic (encN net) :: S1) (.adr 0) (.int v) = .ok (.int (getN net v)) (.dic (encN net) :: S1) := fun S1 => by
          unfold ixV
          simp [asLst, asDic, asKey, valD_has (has_iff.mpr hv)]
        have hsz : (ts.map pairD).length < PySem.sizeLine := by rw [List.length_map]; exact Nat.lt_of_lt_of_le (show ts.length < 100000 by omega) (sz100000 (Nat.le_refl _))
        have app : ∀ y, methV .append [.dic (encN net), .lst (ts.map pairD)] (.adr 1) [y] = .ok .non [.dic (encN net), .lst (ts.map pairD ++ [y])] := fun y => by
          have := app_cell (S := [.dic (encN net), .lst (ts.map pairD)]) (t := 1) (v := y) rfl hsz
          simpa using this
        have kd := kind_cell (S := [.dic (encN net), .lst (ts.map pairD)]) (t := 1) .append rfl rfl
        have step : ∀ (t : Int × Int) (rest2 : Int) (a7 a8 : Option D), t.1 / 2 = v → 0 ≤ t.1 → 1 ≤ t.2 → (∀ x, t.2 * litX x t.1 - rest2 = getN net v * x v - rest') → P2 (i + 1) [some d, some (.int dg), some (.adr 0), some (.int rest2), a4, a5, some (.adr 1), a7, a8] [.dic (encN net), .lst (ts.map pairD ++ [.tup [.int t.1, .int t.2]])] := fun t rest2 a7 a8 h1 h2 h3 h4 => by
          rw [hP2]
          exact ⟨ts ++ [t], rest2, a7, a8, rfl, by simp [pairD], fun u hu => by
            rcases List.mem_append.mp hu with h | h
            · exact htm u h
            · rw [List.mem_singleton.mp h]; exact ⟨h2, h3⟩, by
            rw [List.map_append, List.pairwise_append]
            refine ⟨hasc, by simp, fun a ha b hb => ?_⟩
            obtain ⟨u, hu, rfl⟩ := List.mem_map.mp ha
            have hb : b = t.1 / 2 := by simpa using hb
            rw [hb, h1]; exact hnew u hu, fun u hu => by
            rw [htk]
            rcases List.mem_append.mp hu with h | h
            · exact List.mem_append_left _ (hin u h)
            · rw [List.mem_singleton.mp h, h1]; simp, by simp; omega, fun x => by
            rw [valX_append, valX_cons, valX_nil, htk, List.map_append, List.sum_append]
            have := he2 x
            have := h4 x
            simp only [List.map_cons, List.map_nil, List.sum_cons, List.sum_nil]
            omega⟩
        unfold u_put_together_6 u_put_together_3 u_put_together_5 u_put_together_4
        have m2 : mulOk 2 v = true := by simp [mulOk, small64]
        rcases Int.lt_trichotomy 0 (getN net v) with h | h | h
        · simp [ev_v, get, h, m2, kd, app]
          exact step (2 * v, getN net v) rest' _ _ (by show 2 * v / 2 = v; omega) (by show 0 ≤ 2 * v; omega) h fun x => by
            show getN net v * litX x (2 * v) - rest' = _
            unfold litX
            rw [if_neg (by omega), if_pos (by omega), show 2 * v / 2 = v by omega]
        · have h1 : ¬ 0 < getN net v := by omega
          have h2 : ¬ getN net v < 0 := by omega
          simp [ev_v, get, h1, h2]
          rw [hP2]
          exact ⟨ts, rest', _, _, rfl, rfl, htm, hasc, fun t ht => by rw [htk]; exact List.mem_append_left _ (hin t ht), by omega, fun x => by
            rw [htk, List.map_append, List.sum_append, he2 x]
            simp only [List.map_cons, List.map_nil, List.sum_cons, List.sum_nil, ← h, Int.zero_mul, Int.add_zero]⟩
        · have h1 : ¬ 0 < getN net v := by omega
          simp [ev_v, get, h, h1, m2, kd, app]
          exact step (2 * v + 1, -getN net v) (rest' - getN net v) _ _ (by show (2 * v + 1) / 2 = v; omega) (by show 0 ≤ 2 * v + 1; omega) (by show 1 ≤ -getN net v; omega) fun x => by
            show -getN net v * litX x (2 * v + 1) - (rest' - getN net v) = _
            unfold litX
            rw [if_neg (by omega), if_neg (by omega), show (2 * v + 1) / 2 = v by omega, Int.mul_sub, Int.mul_one, Int.neg_mul]; omega
    · intro ρ S hp
      rw [hP2] at hp
      obtain ⟨ts, rest', a7, a8, hρ, hS, htm, hasc, hin, hle2, he2⟩ := hp
      subst hρ hS
      simp only [List.length_map, List.take_length] at hle2 he2
      rw [then_next, wpB_cons]
      unfold t_put_together_11
      have tup : biV .tuple [.dic (encN net), .lst (ts.map pairD)] [.adr 1] = .ok (.tup (ts.map pairD)) [.dic (encN net), .lst (ts.map pairD)] := tup_cell rfl
      simp [ev_v, tup]
      refine hQ ts rest' _ ⟨⟨htm, hasc, by omega⟩, fun x => ?_⟩
      rw [he2 x, map_sum_perm _ (sortI_perm _), ← netX_keys x hn, he x]
theorem c_put_together {ps : List (Int × Int)} (dg : Int) (hl : ps.length ≤ 100000) {d : D} (hd : d = .tup (ps.map pairD) ∨ d = .lst (ps.map pairD)) : ∃ ts dg', IsPut ps dg ts dg' ∧ ∀ S, callV false f_put_together [d, .int dg] S = .ok (sumD ts dg') S := by
  obtain ⟨x, S0, e, ts, dg', h, rfl⟩ := (w_put_together (dg := dg) hl hd (Q := fun x _ => ∃ ts dg', IsPut ps dg ts dg' ∧ x = sumD ts dg') fun ts dg' _ h => ⟨ts, dg', h, rfl⟩).ex
  refine ⟨ts, dg', h, fun S => callV_ok S e rfl ?_ (by simp)⟩
  rcases hd with rfl | rfl <;> simp [frees_pairs]

theorem c_is_weighted (d : D) (hg : d.good = true) (S : Store) : callV false f_is_weighted [d] S = .ok (.bl (wghtD d)) S := by
  have hd := D.good.free hg
  refine callV_ok S (S0 := []) ?_ rfl (by simp [hd]) rfl
  show m_is_weighted [] _ = _
  unfold m_is_weighted runB b_is_weighted
  have hr := fun S => c_is_row d hd 2 2 S
  cases d with
  | tup xs =>
    rcases xs with _ | ⟨a, _ | ⟨b, _ | ⟨c, r⟩⟩⟩
    · simp [eb_cons, ev_v, hr, rowB, wghtD]
    · simp [eb_cons, ev_v, hr, rowB, wghtD]
    · simp at hd
      simp only [rowB, List.length_cons, List.length_nil] at hr
      cases a with
      | int i => by_cases h : -2 ≤ i <;> simp [eb_cons, ev_v, hr, hd.1, hd.2, wghtD, D.isI, fromB, c_NEVER, h]
      | adr => simp at hd
      | _ => simp at hd; simp [eb_cons, ev_v, hr, hd, wghtD, D.isI, fromB, c_NEVER]
    · have : rowB (.tup (a :: b :: c :: r)) 2 2 = false := by simp [rowB]; omega
      simp [eb_cons, ev_v, hr, this, wghtD]
  | kup xs => simp [D.good] at hg
  | adr => simp at hd
  | _ => simp [eb_cons, ev_v, hr, rowB, wghtD]

theorem x_sum_of0 {xs : List D} {b c : Option D} (hg : (D.tup xs).good = true) (S : Store) : evE e_sum_of_0 [some (.tup xs), b, c] S = .ok (.lst (xs.map fun d => D.bl (wghtD d))) S := by
  unfold e_sum_of_0
  exact ev_lcA (enc := id) (g := []) (by simp [ev_v]) rfl (sz100000 (good_tup hg).1) fun x hx => ⟨_, rfl, by simp [ev_v, c_is_weighted _ (goods_iff.mp (good_tup hg).2 x hx)]⟩
theorem c_sum_of {ps : List (Int × Int)} (dg : Int) (hl : ps.length ≤ 1000) (h : ∀ p ∈ ps, -2 ≤ p.1) : ∃ ts dg', IsPut ps dg ts dg' ∧ ∀ S, callV false f_sum_of [.tup (ps.map pairD), .int dg] S = .ok (sumD ts dg') S := by
  obtain ⟨ts, dg', hp, e⟩ := c_put_together (ps := ps) dg (by omega) (.inl rfl)
  refine ⟨ts, dg', hp, fun S => callV_ok S (S0 := []) ?_ rfl (by simp [frees_pairs]) (by simp)⟩
  show m_sum_of [] _ = _
  unfold m_sum_of runB b_sum_of t_sum_of_3 u_sum_of_1 t_sum_of_4 u_sum_of_2 t_sum_of_5
  have hg : (D.tup (ps.map pairD)).good = true := by simp [D.good, goods_pairs]; omega
  have a1 : ((ps.map pairD).map wghtD).all id = true := by
    have := pairsD_ok hl h
    simp only [pairsD, Bool.and_eq_true] at this
    rw [List.all_map]; exact this.2
  have hr : ∀ S, callV false f_is_row [.tup (ps.map pairD), .int 0, .int 1000] S = .ok (.bl true) S := fun S => by
    rw [c_is_row _ (D.good.free hg)]
    simp [rowB]; omega
  simp [eb_cons, ev_v, x_sum_of0 hg, hr, c_MOST_PAIRS, all_lst (asBls_map' _ _), a1, e, -List.all_map, -List.all_eq_true, -List.map_map]
theorem n_sum_of1 {d e : D} (hd : d.good = true) (he : e.good = true) (h : pairsD d = false) (S : Store) : callV false f_sum_of [d, e] S = .exc "BadPairs" S := by
  have hf := D.good.free hd
  refine callV_exc S (S0 := []) ?_ rfl (by simp [hf, D.good.free he])
  show m_sum_of [] _ = _
  unfold m_sum_of runB b_sum_of t_sum_of_3 u_sum_of_1 t_sum_of_4 u_sum_of_2 t_sum_of_5
  have hr := fun S => c_is_row d hf 0 1000 S
  cases d with
  | tup xs =>
    cases hrow : rowB (.tup xs) 0 1000 with
    | false => simp [eb_cons, ev_v, hr, c_MOST_PAIRS, hrow]
    | true =>
      have hlen : xs.length ≤ 1000 := by simp [rowB] at hrow; omega
      have a1 : (xs.map wghtD).all id = false := by
        rw [List.all_map]
        simp only [pairsD, decide_eq_true hlen, Bool.true_and] at h
        exact h
      simp [eb_cons, ev_v, hr, c_MOST_PAIRS, hrow, x_sum_of0 hd, all_lst (asBls_map' _ _), a1, -List.all_map, -List.all_eq_true, -List.map_map]
  | kup xs => simp [D.good] at hd
  | adr => simp at hf
  | _ => simp [eb_cons, ev_v, hr, c_MOST_PAIRS, rowB]
theorem n_sum_of2 {ps : List (Int × Int)} {e : D} (hl : ps.length ≤ 1000) (h : ∀ p ∈ ps, -2 ≤ p.1) (he : e.good = true) (hi : e.isI = false) (S : Store) : callV false f_sum_of [.tup (ps.map pairD), e] S = .exc "BadDegree" S := by
  refine callV_exc S (S0 := []) ?_ rfl (by simp [frees_pairs, D.good.free he])
  show m_sum_of [] _ = _
  unfold m_sum_of runB b_sum_of t_sum_of_3 u_sum_of_1 t_sum_of_4 u_sum_of_2 t_sum_of_5
  have hg : (D.tup (ps.map pairD)).good = true := by simp [D.good, goods_pairs]; omega
  have a1 : ((ps.map pairD).map wghtD).all id = true := by
    have := pairsD_ok hl h
    simp only [pairsD, Bool.and_eq_true] at this
    rw [List.all_map]; exact this.2
  have hr : ∀ S, callV false f_is_row [.tup (ps.map pairD), .int 0, .int 1000] S = .ok (.bl true) S := fun S => by
    rw [c_is_row _ (D.good.free hg)]
    simp [rowB]; omega
  simp [eb_cons, ev_v, x_sum_of0 hg, hr, c_MOST_PAIRS, all_lst (asBls_map' _ _), a1, hi, D.good.free he, -List.all_map, -List.all_eq_true, -List.map_map]

theorem c_added {ts us : List (Int × Int)} (a b : Int) (s : SumOk ts) (s' : SumOk us) (hl : ts.length + us.length ≤ 100000) : ∃ vs c, IsPut (ts ++ us) (a + b) vs c ∧ ∀ S, callV false f_added [sumD ts a, sumD us b] S = .ok (sumD vs c) S := by
  obtain ⟨vs, c, hp, e⟩ := c_put_together (ps := ts ++ us) (a + b) (by simpa using hl) (.inl rfl)
  refine ⟨vs, c, hp, fun S => callV_ok S (S0 := []) ?_ rfl (by simp) (by simp)⟩
  show m_added [] _ = _
  unfold m_added runB b_added
  have := add_tup (S := []) (xs := ts.map pairD) (ys := us.map pairD) (by simp; omega)
  rw [← List.map_append] at this
  simp [eb_cons, ev_v, ix0_sum, ix1_sum, this, e, -List.map_append]

theorem c_add {ts us : List (Int × Int)} (a b : Int) (s : SumOk ts) (s' : SumOk us) (hl : ts.length + us.length ≤ 100000) : ∃ vs c, IsPut (ts ++ us) (a + b) vs c ∧ ∀ S, callV false f_add [sumD ts a, sumD us b] S = .ok (sumD vs c) S := by
  obtain ⟨vs, c, hp, e⟩ := c_added a b s s' hl
  refine ⟨vs, c, hp, fun S => callV_ok S (S0 := []) ?_ rfl (by simp) (by simp)⟩
  show m_add [] _ = _
  unfold m_add runB b_add
  simp [eb_cons, ev_v, c_need_sum s, c_is_sum_ok s', e]

theorem c_total {ts : List (Int × Int)} {dg : Int} (hl : ts.length ≤ 100000) (S : Store) : callV false f_total [sumD ts dg] S = .ok (.int (totI ts)) S := by
  refine callV_ok S (S0 := []) ?_ rfl (by simp) rfl
  show m_total [] _ = _
  unfold m_total runB b_total t_total_1
  have e1 : evE e_total_0 [some (sumD ts dg), none, none] [] = .ok (.lst (ts.map fun t => D.int t.2)) [] := by
    unfold e_total_0
    exact ev_lcA (enc := pairD) (g := []) (by simp [ev_v, sumD]) rfl (sz100000 hl) fun x hx => ⟨_, rfl, by simp [ev_v, pairD]⟩
  simp [eb_cons, ev_v, e1, sum_lst (asInts_map' _ _), totI]

theorem c_negated {ts : List (Int × Int)} {dg : Int} (s : SumOk ts) (S : Store) : callV false f_negated [sumD ts dg] S = .ok (sumD (notI ts) (totI ts - dg + 1)) S := by
  refine callV_ok S (S0 := []) ?_ rfl (by simp) (by simp)
  show m_negated [] _ = _
  unfold m_negated runB b_negated t_negated_1 t_negated_2
  have e1 : evE e_negated_0 [some (sumD ts dg), none, none, none] [] = .ok (.lst ((notI ts).map pairD)) [] := by
    unfold e_negated_0 notI
    rw [List.map_map]
    exact ev_lcA (enc := pairD) (g := []) (by simp [ev_v, sumD]) rfl (sz100000 s.len) fun x hx => ⟨_, rfl, by simp [ev_v, pairD, xor1]⟩
  have e2 : biV .sortedP [] [.lst ((notI ts).map pairD)] = .ok (.lst ((notI ts).map pairD)) [] := by
    unfold biV
    simp only [asLst, Option.bind_some, asPairs_map, sortP_id (not_asc s)]
  simp [eb_cons, ev_v, e1, e2, c_total s.len, ix1_sum]
  simp [sumD]

theorem c_not_of {ts : List (Int × Int)} {dg : Int} (s : SumOk ts) (S : Store) : callV false f_not_of [sumD ts dg] S = .ok (sumD (notI ts) (totI ts - dg + 1)) S := by
  refine callV_ok S (S0 := []) ?_ rfl (by simp) (by simp)
  show m_not_of [] _ = _
  unfold m_not_of runB b_not_of
  simp [eb_cons, ev_v, c_need_sum s, c_negated s]

end LW

namespace LW
open PX
variable {S : Store}
theorem c_deck (ns : List Int) : ∃ S, callV true f__law_deck [.scr (ns.map D.int)] [] = .ok (.adr 1) S ∧ Deck S 1 0 := by
  have hc : cutG (ns.map D.int) none (some 63) = (ns.take 63).map D.int := by rw [List.map_take]; exact cut_to _ 63
  have e1 := ev_lcM (enc := D.int) (y := fun i => D.int (i % 10 ^ 60)) (vs := [1]) (t := .name 1) (it := .seq (.sl (.var 0) .none (.some (.int 63)))) (e := .bin .mod (.bi .int (.cons (.var 1) .nil)) (.bin .pow (.int 10) (.int 60))) (ρ := [some (.scr (ns.map D.int)), none]) (S := []) (xs := ns.take 63) (g := []) (by simp [ev_v, slV_scr, hc]) rfl (Nat.le_trans (by simp; omega) (show 63 ≤ PySem.sizeLine by decide)) (fun x hx => ⟨_, rfl, by
    simp [ev_v, show powOk 10 60 = true by decide +kernel]⟩)
  refine ⟨[.lst ((ns.take 63).map fun i => D.int (i % 10 ^ 60)), .lst [.adr 0, .int 0, .int 6151]], ?_, ⟨⟨(ns.take 63).map fun i => i % 10 ^ 60, 0, 6151, rfl, by simp; rfl⟩, by decide⟩⟩
  show m__law_deck [] _ = _
  unfold m__law_deck runB b__law_deck t__law_deck_1 e__law_deck_0
  simp [eb_cons, ev_v, e1, -List.map_take]

/-- the second half of a pick -/
theorem pick_end {S : Store} {n m : Nat} {many : Int} (hm : 0 < many) (hg : many.natAbs.log2 < 9000) (hd : Deck S n m) (ρ : Env) (r0 : ρ[0]? = some (some (.adr n))) (r1 : ρ[1]? = some (some (.int many))) (r4 : ρ.length = 5) :
    ∃ v S' ρ', 0 ≤ v ∧ v < many ∧ Deck S' n m ∧ Stay n m S S' ∧ evB 0 (.cons (.ite (.cmp .ge (.ix (.var 0) (.int 1)) (.bin .pow (.int 10) (.int 6))) (.cons (.asg (.name 4) (.bin .mod (.bi .int (.cons (.ix (.var 0) (.int 1)) .nil)) (.var 1))) (.cons (.set (.var 0) (.int 1) (.bin .fdiv (.ix (.var 0) (.int 1)) (.var 1))) (.cons (.ret (.var 4)) .nil))) (.nil)) (.cons (.set (.var 0) (.int 2) (.bin .mod (.bi .int (.cons (.bin .add (.bin .mul (.ix (.var 0) (.int 2)) (.int 48271)) (.int 11)) .nil)) (.int 2147483647))) (.cons (.ret (.bin .mod (.bi .int (.cons (.bin .fdiv (.ix (.var 0) (.int 2)) (.int 53)) .nil)) (.var 1))) .nil))) ρ S = .fl (.ret (.int v)) ρ' S' := by
  obtain ⟨⟨cs, a, b, h1, h2⟩, ne⟩ := hd
  have hdv : divOk many = true := by unfold divOk; simp [hm, hg]
  have hmo : decide (0 < many) = true := decide_eq_true hm
  have hn : n < S.length := (List.getElem?_eq_some_iff.mp h1).1
  have e1 := ix_cell 1 h1
  have e2 := ix_cell 2 h1
  have key : ∀ xs : List D, (∃ x y, xs = [.adr m, .int x, .int y]) → Deck (S.set n (.lst xs)) n m ∧ Stay n m S (S.set n (.lst xs)) := fun xs ⟨x, y, e⟩ =>
    ⟨⟨⟨cs, x, y, by rw [List.getElem?_set_self hn, e], by rw [List.getElem?_set_ne ne]; exact h2⟩, ne⟩, ⟨by simp, fun i q1 _ _ => List.getElem?_set_ne (Ne.symm q1)⟩⟩
  by_cases ha : 1000000 ≤ a
  · obtain ⟨k1, k2⟩ := key [.adr m, .int (a / many), .int b] ⟨_, _, rfl⟩
    have e3 : setV S (.adr n) (.int 1) (.int (a / many)) = .ok () (S.set n (.lst [.adr m, .int (a / many), .int b])) := set_cell (k := 1) h1 rfl (by simp)
    refine ⟨a % many, S.set n (.lst [.adr m, .int (a / many), .int b]), ρ.set 4 (some (.int (a % many))), Int.emod_nonneg _ (by omega), Int.emod_lt_of_pos _ hm, k1, k2, ?_⟩
    have q0 : (ρ.set 4 (some (D.int (a % many))))[0]? = some (some (.adr n)) := by rw [List.getElem?_set_ne (by decide)]; exact r0
    have q1 : (ρ.set 4 (some (D.int (a % many))))[1]? = some (some (.int many)) := by rw [List.getElem?_set_ne (by decide)]; exact r1
    have q4 : (ρ.set 4 (some (D.int (a % many))))[4]? = some (some (.int (a % many))) := List.getElem?_set_self (by omega)
    simp [eb_cons, ev_v, r0, r1, q0, q1, q4, e1, p6, ha, hm, hdv, e3]
  · have hc : ∀ c : Int, setV S (.adr n) (.int 2) (.int c) = .ok () (S.set n (.lst [.adr m, .int a, .int c])) := fun c => set_cell (k := 2) h1 rfl (by simp)
    obtain ⟨k1, k2⟩ := key [.adr m, .int a, .int ((b * 48271 + 11) % 2147483647)] ⟨_, _, rfl⟩
    have hs : (S.set n (.lst [.adr m, .int a, .int ((b * 48271 + 11) % 2147483647)]))[n]? = some (.lst [.adr m, .int a, .int ((b * 48271 + 11) % 2147483647)]) := List.getElem?_set_self hn
    have e4 := ix_cell 2 hs
    refine ⟨(b * 48271 + 11) % 2147483647 / 53 % many, S.set n (.lst [.adr m, .int a, .int ((b * 48271 + 11) % 2147483647)]), ρ, Int.emod_nonneg _ (by omega), Int.emod_lt_of_pos _ hm, k1, k2, ?_⟩
    simp [eb_cons, ev_v, r0, r1, e1, e2, p6, ha, hm, m3, d53, hc, e4]
theorem c_pick {S : Store} {n m : Nat} {many : Int} (hm : 0 < many) (hg : many.natAbs.log2 < 9000) (hd : Deck S n m) : ∃ v S', 0 ≤ v ∧ v < many ∧ Deck S' n m ∧ Stay n m S S' ∧ callV true f__law_pick [.adr n, .int many] S = .ok (.int v) S' := by
  suffices h : ∃ v S' ρ', 0 ≤ v ∧ v < many ∧ Deck S' n m ∧ Stay n m S S' ∧ evB 0 b__law_pick [some (.adr n), some (.int many), none, none, none] S = .fl (.ret (.int v)) ρ' S' by
    obtain ⟨v, S', ρ', h1, h2, h3, h4, h5⟩ := h
    refine ⟨v, S', h1, h2, h3, h4, ?_⟩
    show m__law_pick S [.adr n, .int many] = _
    unfold m__law_pick runB
    simp [h5]
  obtain ⟨⟨cs, a, b, h1, h2⟩, ne⟩ := id hd
  have hn : n < S.length := (List.getElem?_eq_some_iff.mp h1).1
  have hm2 : m < S.length := (List.getElem?_eq_some_iff.mp h2).1
  have e0 := ix_cell 0 h1
  have e1 := ix_cell 1 h1
  unfold b__law_pick
  by_cases ha : a < 1000000
  · cases cs with
    | nil =>
      obtain ⟨v, S', ρ', k1, k2, k3, k4, k5⟩ := pick_end hm hg hd [some (.adr n), some (.int many), some (.adr m), none, none] rfl rfl rfl
      refine ⟨v, S', ρ', k1, k2, k3, k4, ?_⟩
      have e3 := ne_nil h2
      rw [← k5]
      simp [eb_cons, ev_v, e0, e1, p6, ha, e3]
    | cons c cs =>
      have e3 := ne_nil h2
      have e4 := pop0 h2
      have s1 : (S.set m (.lst (cs.map D.int)))[n]? = some (.lst [.adr m, .int a, .int b]) := by rw [List.getElem?_set_ne (Ne.symm ne)]; exact h1
      have s2 : (S.set m (.lst (cs.map D.int)))[m]? = some (.lst (cs.map D.int)) := List.getElem?_set_self hm2
      have key : ∀ xs : List D, (∃ x y, xs = [.adr m, .int x, .int y]) → Deck ((S.set m (.lst (cs.map D.int))).set n (.lst xs)) n m ∧ Stay n m S ((S.set m (.lst (cs.map D.int))).set n (.lst xs)) := fun xs ⟨x, y, e⟩ =>
        ⟨⟨⟨cs, x, y, by rw [List.getElem?_set_self (by simpa using hn), e], by rw [List.getElem?_set_ne ne]; exact s2⟩, ne⟩, ⟨by simp, fun i q1 q2 _ => by rw [List.getElem?_set_ne (Ne.symm q1), List.getElem?_set_ne (Ne.symm q2)]⟩⟩
      by_cases hc : 1000000000000000000 ≤ c
      · have e5 : setV (S.set m (.lst (cs.map D.int))) (.adr n) (.int 1) (.int c) = .ok () ((S.set m (.lst (cs.map D.int))).set n (.lst [.adr m, .int c, .int b])) := set_cell (k := 1) s1 rfl (by simp)
        obtain ⟨y1, y2⟩ := key [.adr m, .int c, .int b] ⟨_, _, rfl⟩
        obtain ⟨v, S', ρ', k1, k2, k3, k4, k5⟩ := pick_end hm hg y1 [some (.adr n), some (.int many), some (.adr m), some (.int c), none] rfl rfl rfl
        refine ⟨v, S', ρ', k1, k2, k3, y2.trans k4, ?_⟩
        rw [← k5]
        simp [eb_cons, ev_v, e0, e1, p6, p18, ha, e3, e4, hc, e5]
      · have e6 := ix_cell 2 s1
        have e5 : ∀ d : Int, setV (S.set m (.lst (cs.map D.int))) (.adr n) (.int 2) (.int d) = .ok () ((S.set m (.lst (cs.map D.int))).set n (.lst [.adr m, .int a, .int d])) := fun d => set_cell (k := 2) s1 rfl (by simp)
        obtain ⟨y1, y2⟩ := key [.adr m, .int a, .int ((b * 69621 + c % 2147483563 * 40014 + 3) % 2147483563)] ⟨_, _, rfl⟩
        obtain ⟨v, S', ρ', k1, k2, k3, k4, k5⟩ := pick_end hm hg y1 [some (.adr n), some (.int many), some (.adr m), some (.int c), none] rfl rfl rfl
        refine ⟨v, S', ρ', k1, k2, k3, y2.trans k4, ?_⟩
        rw [← k5]
        simp [eb_cons, ev_v, e0, e1, p6, p18, ha, e3, e4, hc, e5, e6, m1, m2]
  · obtain ⟨v, S', ρ', k1, k2, k3, k4, k5⟩ := pick_end hm hg hd [some (.adr n), some (.int many), some (.adr m), none, none] rfl rfl rfl
    refine ⟨v, S', ρ', k1, k2, k3, k4, ?_⟩
    rw [← k5]
    simp [eb_cons, ev_v, e0, e1, p6, ha]
theorem wp_pick {S : Store} {n m : Nat} {many : Int} {Q : D → Store → Prop} (hd : Deck S n m) (hm : 0 < many) (hg : many ≤ 1000000000000000000000000000000000000000000000000000000000000) (h : ∀ v S', 0 ≤ v → v < many → Deck S' n m → Stay n m S S' → Q (.int v) S') : (callV true f__law_pick [.adr n, .int many] S).wp Q := by
  obtain ⟨v, S', h1, h2, h3, h4, e⟩ := c_pick hm (lg60 (by omega) hg) hd
  rw [e]
  exact h v S' h1 h2 h3 h4

theorem same_twins {ys : List D} {a b x1 x2 x5 : Option D} {S : Store} (hl : ys.length ≤ PySem.sizeLine) (hr : rngOk (ys.length : Int) = true) :
    evE (.lc [5] false (.name 5) (.rng1 (.bi .len (.cons (.var 4) .nil))) .none (.tup (.cons (.ix (.var 3) (.var 5)) (.cons (.ix (.var 4) (.var 5)) .nil)))) [a, b, x1, some (.tup ys), some (.tup ys), x5] S = .ok (.lst (ys.map twin)) S := by
  rw [← twin_rng]
  refine ev_lcA (enc := fun i : Nat => D.int (0 + (i : Int))) (g := []) ?_ rfl (by rw [List.length_range]; exact hl) fun i hi => ⟨_, rfl, ?_⟩
  · have : evE (.bi .len (.cons (.var 4) .nil)) [a, b, x1, some (.tup ys), some (.tup ys), x5] S = .ok (.int (ys.length : Int)) S := by simp [ev_v]
    rw [ev_rng1_ok this hr, rngL, Int.toNat_natCast]
  · have hi : i < ys.length := by simpa using hi
    have hat : L2.atI ys (i : Int) = some ys[i] := L2.atI_nat (List.getElem?_eq_getElem hi)
    simp [eb_cons, ev_v, hat, twin, hi]
theorem same_tup {m : Nat} {ys : List D} {a b x5 : Option D} {S S' : Store} (h1 : evE e__law_same_1 [a, b, some (.adr 0), some (.tup ys), some (.tup ys), x5] S = .ok (.lst (ys.map twin)) S)
    (hk : mkind .extend S (.adr 0) = true) (h2 : methV .extend S (.adr 0) [.lst (ys.map twin)] = .ok .non S') :
    evB m u__law_same_2 [a, b, some (.adr 0), some (.tup ys), some (.tup ys), x5] S = .fl .next [a, b, some (.adr 0), some (.tup ys), some (.tup ys), x5] S' := by
  have c : evE (.or (.cons (.not (.isi (.var 3) .tuple)) (.cons (.cmp .ne (.bi .len (.cons (.var 3) .nil)) (.bi .len (.cons (.var 4) .nil))) .nil))) [a, b, some (.adr 0), some (.tup ys), some (.tup ys), x5] S = .ok (.bl false) S := by
    have e1 : evE (.not (.isi (.var 3) .tuple)) [a, b, some (.adr 0), some (.tup ys), some (.tup ys), x5] S = .ok (.bl false) S := by simp [ev_v]
    have e2 : evE (.cmp .ne (.bi .len (.cons (.var 3) .nil)) (.bi .len (.cons (.var 4) .nil))) [a, b, some (.adr 0), some (.tup ys), some (.tup ys), x5] S = .ok (.bl false) S := by
      have e3 : evE (.bi .len (.cons (.var 3) .nil)) [a, b, some (.adr 0), some (.tup ys), some (.tup ys), x5] S = .ok (.int (ys.length : Int)) S := by simp [ev_v]
      have e4 : evE (.bi .len (.cons (.var 4) .nil)) [a, b, some (.adr 0), some (.tup ys), some (.tup ys), x5] S = .ok (.int (ys.length : Int)) S := by simp [ev_v]
      rw [ev_cmp, e3, R.bind_ok, e4, R.bind_ok, cmp_ne]
      generalize (ys.length : Int) = z
      simp
    rw [ev_or, ev_or2, e1, R.bind_ok]
    simp only [tr_bl, ev_or1, e2]
  have x : evS m (.expr (.meth .extend (.var 2) (.cons (e__law_same_1) .nil))) [a, b, some (.adr 0), some (.tup ys), some (.tup ys), x5] S = .fl .next [a, b, some (.adr 0), some (.tup ys), some (.tup ys), x5] S' := by
    have e0 : evE (.var 2) [a, b, some (.adr 0), some (.tup ys), some (.tup ys), x5] S = .ok (.adr 0) S := by simp [ev_v]
    rw [es_expr, ev_meth, e0, R.bind_ok, hk, guardR_true, ev_consL, h1, R.bind_ok, ev_nilL, R.bind_ok, R.bind_ok, h2, R.then_ok]
  unfold u__law_same_2
  rw [eb_cons, es_ite, c, R.then_ok]
  simp only [tr_bl, eb_nil]
  rw [eb_cons, x]
  rfl
/-- the pairs that wait -/
theorem same_loop (m : Nat) : ∀ (n : Nat) (ws : List D) (a b x3 x4 x5 : Option D), D.plains ws = true → (∀ w ∈ ws, w.depth ≤ 60) → D.szs ws ≤ 1000000 → D.szs ws + 1 ≤ n →
    ∃ y3 y4 y5, whileLoop (evE (.cmp .ne (.var 2) (.lst .nil))) (evB m u__law_same_14) n [a, b, some (.adr 0), x3, x4, x5] [.lst (ws.map twin)] = .fl .next [a, b, some (.adr 0), y3, y4, y5] [.lst []] := by
  intro n
  induction n with
  | zero => intro ws a b x3 x4 x5 hp hd hl hn; omega
  | succ n ih =>
    intro ws a b x3 x4 x5 hp hd hl hn
    have hw := wait_ne hp hd
    rcases List.eq_nil_or_concat ws with e | ⟨l, x, e⟩
    · subst e
      refine ⟨x3, x4, x5, ?_⟩
      simp only [List.map_nil] at hw
      unfold whileLoop
      simp [eb_cons, ev_v, hw]
    · rw [List.concat_eq_append] at e
      subst e
      have hpl : D.plains l = true := plains_iff.mpr fun y hy => plains_iff.mp hp y (List.mem_append_left _ hy)
      have hpx : x.plain = true := plains_iff.mp hp x (by simp)
      have hdl : ∀ w ∈ l, w.depth ≤ 60 := fun w h => hd w (List.mem_append_left _ h)
      have hdx : x.depth ≤ 60 := hd x (by simp)
      rw [szs_append] at hl hn
      simp only [D.szs] at hl hn
      have hne : (l ++ [x]).isEmpty = false := by cases l <;> rfl
      rw [hne] at hw
      have pop : guardR (mkind .pop [.lst ((l ++ [x]).map twin)] (.adr 0)) (methV .pop [.lst ((l ++ [x]).map twin)] (.adr 0) []) = .ok (twin x) [.lst (l.map twin)] := by
        rw [kindW _ rfl, guardR_true]
        simp [methV]
      have step : ∀ (ws' : List D) (z5 : Option D), D.plains ws' = true → (∀ w ∈ ws', w.depth ≤ 60) → D.szs ws' ≤ 1000000 → D.szs ws' + 1 ≤ n → evB m u__law_same_14 [a, b, some (.adr 0), x3, x4, x5] [.lst ((l ++ [x]).map twin)] = .fl .next [a, b, some (.adr 0), some x, some x, z5] [.lst (ws'.map twin)] →
          ∃ y3 y4 y5, whileLoop (evE (.cmp .ne (.var 2) (.lst .nil))) (evB m u__law_same_14) (n + 1) [a, b, some (.adr 0), x3, x4, x5] [.lst ((l ++ [x]).map twin)] = .fl .next [a, b, some (.adr 0), y3, y4, y5] [.lst []] := fun ws' z5 k1 k2 k3 k4 k5 => by
        obtain ⟨y3, y4, y5, q⟩ := ih ws' a b (some x) (some x) z5 k1 k2 k3 k4
        refine ⟨y3, y4, y5, ?_⟩
        conv => lhs; unfold whileLoop
        simp only [ev_cmp, ev_v, List.getElem?_cons_succ, List.getElem?_cons_zero, R.bind_ok, ev_lst, ev_nilL, cmp_ne, hw, R.then_ok, tr_bl, Bool.not_false, k5]
        exact q
      have leaf : (∀ S, isiV S x .tuple = .ok (.bl false) S) → evB m u__law_same_13 [a, b, some (.adr 0), some x, some x, x5] [.lst (l.map twin)] = .fl .next [a, b, some (.adr 0), some x, some x, x5] [.lst (l.map twin)] →
          ∃ y3 y4 y5, whileLoop (evE (.cmp .ne (.var 2) (.lst .nil))) (evB m u__law_same_14) (n + 1) [a, b, some (.adr 0), x3, x4, x5] [.lst ((l ++ [x]).map twin)] = .fl .next [a, b, some (.adr 0), y3, y4, y5] [.lst []] := fun g1 g2 => by
        refine step l x5 hpl hdl (by omega) (by have : 1 ≤ D.sz x := by cases x <;> simp [D.sz]
                                                omega) ?_
        unfold u__law_same_14
        simp only [eb_cons, es_asg, ev_meth, ev_v, List.getElem?_cons_succ, List.getElem?_cons_zero, R.bind_ok, ev_nilL, pop, R.then_ok, twin, asgT_tup, asgs_cons, asgs_nil, List.set_cons_succ, List.set_cons_zero, es_ite, ev_isi, g1, tr_bl]
        rw [g2]
        rfl
      cases x with
      | tup ys =>
        have hpy : D.plains ys = true := by simpa [D.plain] using hpx
        have hdy : ∀ w ∈ ys, w.depth ≤ 60 := fun w h => by
          have := depth_of_mem h
          simp only [D.depth] at hdx
          omega
        simp only [D.sz] at hl hn
        have hlen := len_szs ys
        have hlenl := len_szs l
        have hz : (1000000 : Nat) ≤ PySem.sizeLine := by rw [PySem.sizeLine_eq]; omega
        have hr : rngOk (ys.length : Int) = true := by
          unfold rngOk
          rw [Bool.and_eq_true, decide_eq_true_eq, decide_eq_true_eq]
          omega
        have e1 := same_twins (a := a) (b := b) (x1 := some (.adr 0)) (x2 := none) (x5 := x5) (S := [.lst (l.map twin)]) (ys := ys) (by omega) hr
        have ext : methV .extend [.lst (l.map twin)] (.adr 0) [.lst (ys.map twin)] = .ok .non [.lst ((l ++ ys).map twin)] := by
          have : l.length + ys.length ≤ PySem.sizeLine := by omega
          simp [methV, asLstW, this]
        refine step (l ++ ys) x5 (plains_iff.mpr fun y hy => (List.mem_append.mp hy).elim (plains_iff.mp hpl y) (plains_iff.mp hpy y)) (fun w hw => (List.mem_append.mp hw).elim (hdl w) (hdy w)) (by rw [szs_append]; omega) (by rw [szs_append]; omega) ?_
        have kx : mkind .extend [.lst (l.map twin)] (.adr 0) = true := kindW _ rfl
        have q := same_tup (m := m) (a := a) (b := b) (x5 := x5) e1 kx ext
        unfold u__law_same_14
        simp only [eb_cons, eb_nil, es_asg, ev_meth, ev_v, List.getElem?_cons_succ, List.getElem?_cons_zero, R.bind_ok, ev_nilL, pop, R.then_ok, twin, asgT_tup, asgs_cons, asgs_nil, List.set_cons_succ, List.set_cons_zero, es_ite, ev_isi, isi_tup, tr_bl]
        rw [q]
        rfl
      | non => exact leaf (fun S => rfl) (by unfold u__law_same_13 u__law_same_4; simp [eb_cons, ev_v, isR])
      | bl i => exact leaf (fun S => by simp) (by unfold u__law_same_13 u__law_same_12 u__law_same_6; simp [eb_cons, ev_v, isR])
      | int i => exact leaf (fun S => by simp) (by unfold u__law_same_13 u__law_same_12 u__law_same_11 u__law_same_10; simp [eb_cons, ev_v, isR])
      | str i =>
        have hs : ∀ S, eqR true S (.str i) (.str i) = .ok (.bl false) S := fun S => ne_self hpx (by rw [depth_str]; decide)
        exact leaf (fun S => by simp) (by unfold u__law_same_13 u__law_same_12 u__law_same_11 u__law_same_8; simp [eb_cons, ev_v, isR, hs])
      | lst _ => simp [D.plain] at hpx
      | scr _ => simp [D.plain] at hpx
      | kup _ => simp [D.plain] at hpx
      | adr _ => simp [D.plain] at hpx
theorem c_same {x : D} (h : x.plain = true) (hd : x.depth ≤ 60) (hz : D.sz x ≤ 900000) (S : Store) : callV false f__law_same [x, x] S = .ok (.bl true) S := by
  have hp : D.plains [x] = true := by simp [D.plains, h]
  refine callV_ok S (S0 := [.lst []]) ?_ rfl (by simp [D.plain.free h]) rfl
  show m__law_same [] _ = _
  obtain ⟨y3, y4, y5, e⟩ := same_loop (fuelOf [x, x]) (fuelOf [x, x]) [x] (some x) (some x) none none none hp (by simpa using hd) (by simp [D.szs]; omega) (by simp [fuelOf, D.szs]; omega)
  simp only [List.map_cons, List.map_nil] at e
  unfold m__law_same runB b__law_same t__law_same_15 t__law_same_16 t__law_same_17
  simp only [eb_cons]
  simp [eb_cons, ev_v, es_while]
  rw [show D.tup [x, x] = twin x from rfl, e]
theorem c_same_sum {ts : List (Int × Int)} {dg : Int} (h : ts.length ≤ 100000) (S : Store) : callV false f__law_same [sumD ts dg, sumD ts dg] S = .ok (.bl true) S :=
  c_same (plain_sum ts dg) (Nat.le_trans (depth_sum ts dg) (by decide)) (by rw [sz_sum]; omega) S
theorem c_same_bl (b : Bool) (S : Store) : callV false f__law_same [.bl b, .bl b] S = .ok (.bl true) S := c_same rfl (by simp [D.depth]) (by simp [D.sz]) S
theorem c_same_int (b : Int) (S : Store) : callV false f__law_same [.int b, .int b] S = .ok (.bl true) S := c_same rfl (by simp [D.depth]) (by simp [D.sz]) S
theorem c_same_non (S : Store) : callV false f__law_same [.non, .non] S = .ok (.bl true) S := c_same rfl (by simp [D.depth]) (by simp [D.sz]) S

theorem c_law_int (d : D) (hd : d.free = true) (lo hi : Int) (S : Store) : callV false f__law_int [d, .int lo, .int hi] S = .ok (.bl (withinB d lo hi)) S := by
  refine callV_ok S (S0 := []) ?_ rfl (by simp [hd]) rfl
  show m__law_int [] _ = _
  unfold m__law_int runB b__law_int
  cases d with
  | int i => by_cases h1 : lo ≤ i <;> by_cases h2 : i ≤ hi <;> simp [eb_cons, ev_v, withinB, h1, h2]
  | adr => simp at hd
  | _ => simp at hd; simp [eb_cons, ev_v, withinB, hd]

theorem chk_loop (w : Ws) (hw : w.g = []) : ∀ (xs : List D), D.goods xs = true → ∀ (thing : D) (last : Int) (t : Option D) (S : Store), ∃ ρ', forLoop w (.name 2) (evB 0 u__law_is_sum_2) xs [some thing, some (.int last), t] S = if ckT last xs = true then .fl .next ρ' S else .fl (.ret (.bl false)) ρ' S
  | [], _, thing, last, t, S => ⟨[some thing, some (.int last), t], by simp [forLoop, Ws.ok, hw, ckT]⟩
  | x :: xs, hg, thing, last, t, S => by
    simp only [D.goods, Bool.and_eq_true] at hg
    obtain ⟨hx, hxs⟩ := hg
    have hf := D.good.free hx
    have hk : w.ok S = true := by simp [Ws.ok, hw]
    conv => rhs; intro ρ'; unfold forLoop
    rw [hk]
    simp only [asgT_name, List.set_cons_succ, List.set_cons_zero]
    have stop : evB 0 u__law_is_sum_2 [some thing, some (.int last), some x] S = .fl (.ret (.bl false)) [some thing, some (.int last), some x] S → ckT last (x :: xs) = false → (∃ ρ', (match evB 0 u__law_is_sum_2 [some thing, some (.int last), some x] S with
        | .fl .next ρ2 S2 => forLoop w (.name 2) (evB 0 u__law_is_sum_2) xs ρ2 S2
        | .fl .cont ρ2 S2 => forLoop w (.name 2) (evB 0 u__law_is_sum_2) xs ρ2 S2
        | .fl .brk ρ2 S2 => .fl .next ρ2 S2
        | r => r) = if ckT last (x :: xs) = true then .fl .next ρ' S else .fl (.ret (.bl false)) ρ' S) := fun e h => ⟨_, by rw [e, h]; simp; rfl⟩
    cases x with
    | tup ys =>
      rcases ys with _ | ⟨a, _ | ⟨b, _ | ⟨c, r⟩⟩⟩
      · exact stop (by unfold u__law_is_sum_2 u__law_is_sum_1; simp [eb_cons, ev_v]) rfl
      · exact stop (by unfold u__law_is_sum_2 u__law_is_sum_1; simp [eb_cons, ev_v]) rfl
      · simp at hf
        have e0 := fun S => c_law_int a hf.1 0 N60 S
        have e1 := fun S => c_law_int b hf.2 1 N60 S
        cases ha : withinB a 0 N60 with
        | false =>
          exact stop (by unfold u__law_is_sum_2 u__law_is_sum_1; simp [eb_cons, ev_v, p60, e0, ha]) (by simp [ckT, ha])
        | true =>
          cases hb : withinB b 1 N60 with
          | false =>
            exact stop (by unfold u__law_is_sum_2 u__law_is_sum_1; simp [eb_cons, ev_v, p60, e0, e1, ha, hb]) (by simp [ckT, hb])
          | true =>
            cases a with
            | int l =>
              by_cases hl : last < l / 2
              · obtain ⟨ρ', ih⟩ := chk_loop w hw xs hxs thing (l / 2) (some (.tup [.int l, b])) S
                have q : ckT last (.tup [.int l, b] :: xs) = ckT (l / 2) xs := by simp [ckT, ha, hb, hl]
                have hl2 : ¬ l / 2 ≤ last := by omega
                have eb : evB 0 u__law_is_sum_2 [some thing, some (.int last), some (.tup [.int l, b])] S = .fl .next [some thing, some (.int (l / 2)), some (.tup [.int l, b])] S := by
                  unfold u__law_is_sum_2 u__law_is_sum_1; simp [eb_cons, ev_v, p60, e0, e1, ha, hb, d2, hl2]
                refine ⟨ρ', ?_⟩
                rw [q, ← ih, eb]
              · have hl2 : l / 2 ≤ last := by omega
                exact stop (by unfold u__law_is_sum_2 u__law_is_sum_1; simp [eb_cons, ev_v, p60, e0, e1, ha, hb, d2, hl2]) (by simp [ckT, hl])
            | _ => simp [withinB] at ha
      · have h2 : ((r.length : Int) + 1 + 1 + 1 == 2) = false := by rw [beq_eq_false_iff_ne]; omega
        exact stop (by unfold u__law_is_sum_2 u__law_is_sum_1; simp [eb_cons, ev_v, h2]) rfl
    | kup ys => simp [D.good] at hx
    | adr => simp at hf
    | _ => exact stop (by unfold u__law_is_sum_2 u__law_is_sum_1; simp [eb_cons, ev_v]) rfl
theorem c_law_is_sum (d : D) (hg : d.good = true) (S : Store) : callV false f__law_is_sum [d] S = .ok (.bl (lawSumB d)) S := by
  have hf := D.good.free hg
  refine callV_ok S (S0 := []) ?_ rfl (by simp [hf]) rfl
  show m__law_is_sum [] _ = _
  unfold m__law_is_sum runB b__law_is_sum
  rw [show ([d].map some ++ List.replicate (3 - [d].length) none : Env) = [some d, none, none] from rfl]
  unfold t__law_is_sum_3 u__law_is_sum_0 t__law_is_sum_4 t__law_is_sum_5 t__law_is_sum_6
  cases d with
  | tup ys =>
    rcases ys with _ | ⟨a, _ | ⟨b, _ | ⟨c, r⟩⟩⟩
    · simp [eb_cons, ev_v, lawSumB]
    · simp [eb_cons, ev_v]
      cases a <;> rfl
    · simp at hf
      cases a with
      | tup xs =>
        have e0 := fun S => c_law_int b hf.2 (-N60) N60 S
        have hgx : D.goods xs = true := by simp only [D.good, D.goods, Bool.and_eq_true] at hg; exact hg.2.1.2
        cases hb : withinB b (-N60) N60 with
        | false =>
          have q : lawSumB (.tup [.tup xs, b]) = false := by simp [lawSumB, hb]
          simp [eb_cons, ev_v, p60, e0, hb, q]
        | true =>
          have q : lawSumB (.tup [.tup xs, b]) = ckT (-1) xs := by simp [lawSumB, hb]
          obtain ⟨ρ', e⟩ := chk_loop ⟨xs, []⟩ rfl xs hgx (.tup [.tup xs, b]) (-1) none []
          cases hc : ckT (-1) xs with
          | true =>
            rw [hc] at e
            simp only [if_true] at e
            simp [eb_cons, ev_v, p60, e0, hb, q, es_for, e, hc]
          | false =>
            rw [hc] at e
            simp only [Bool.false_eq_true, if_false] at e
            simp [eb_cons, ev_v, p60, e0, hb, q, es_for, e, hc]
      | kup xs => simp [D.good, D.goods] at hg
      | adr => simp at hf
      | _ => simp [eb_cons, ev_v, lawSumB]
    · have h2 : ((r.length : Int) + 1 + 1 + 1 == 2) = false := by rw [beq_eq_false_iff_ne]; omega
      simp [eb_cons, ev_v, h2]
      cases a <;> rfl
  | kup ys => simp [D.good] at hg
  | adr => simp at hf
  | _ => simp [eb_cons, ev_v, lawSumB]

/-- the law's look at a literal, by a row's number -/
def trN (row l : Int) : Bool := if l < 0 then l == -1 else row / 2 ^ (l / 2).toNat % 2 == 1 - l % 2
theorem trN_lit (row l : Int) : litX (digX row) l = if trN row l = true then 1 else 0 := by
  unfold litX trN digX
  by_cases h : l < 0
  · simp only [h, if_true]
    by_cases e : l = -1 <;> simp [e]
  · simp only [h, if_false]
    generalize row / 2 ^ (l / 2).toNat = q
    by_cases e : l % 2 = 0
    · rw [if_pos e, e]
      by_cases e2 : q % 2 = 1
      · rw [e2]; rfl
      · have : q % 2 = 0 := by omega
        rw [this]; rfl
    · have : l % 2 = 1 := by omega
      rw [if_neg e, this]
      by_cases e2 : q % 2 = 1
      · rw [e2]; rfl
      · have : q % 2 = 0 := by omega
        rw [this]; rfl
theorem c_law_true {row l : Int} (hr : row < 2 ^ 64) (h0 : 0 ≤ row) (hl : l ≤ 1000000) (S : Store) : callV false f__law_true [.int l, .int row] S = .ok (.bl (trN row l)) S := by
  refine callV_ok S (S0 := []) ?_ rfl rfl rfl
  show m__law_true [] _ = _
  unfold m__law_true runB b__law_true trN
  by_cases h : l < 0
  · simp [eb_cons, ev_v, h]
  · have h2 : (0 : Int) ≤ l / 2 := by omega
    simp [eb_cons, ev_v, h, d2, h2]

theorem c_law_gap {ts : List (Int × Int)} {dg row : Int} (hlen : ts.length ≤ 100000) (hr : row < 2 ^ 64) (h0 : 0 ≤ row) (hl : ∀ t ∈ ts, t.1 ≤ 1000000) (S : Store) : callV false f__law_gap [sumD ts dg, .int row] S = .ok (.int (valX (digX row) ts - dg)) S := by
  refine callV_ok S (S0 := []) ?_ rfl (by simp) rfl
  show m__law_gap [] _ = _
  unfold m__law_gap runB b__law_gap t__law_gap_1
  have e1 : evE e__law_gap_0 [some (sumD ts dg), some (.int row), none, none] [] = .ok (.lst ((ts.filter fun t => trN row t.1).map fun t => D.int t.2)) [] := by
    unfold e__law_gap_0
    exact ev_lc (enc := pairD) (g := []) (by simp [ev_v, sumD]) rfl (sz100000 hlen) fun x hx => ⟨_, rfl, by simp [ev_v, pairD, c_law_true hr h0 (hl x hx)], fun _ => by simp [ev_v, pairD]⟩
  simp [eb_cons, ev_v, e1, sum_lst (asInts_map' _ _), ix1_sum, val_filter fun t _ => trN_lit row t.1]

end LW

namespace LW
open PX
theorem c_comes_to {S : Store} {d : D} {ps : List (Int × Int)} {row : Int} (hL : IsL S d (ps.map pairD)) (hlen : ps.length ≤ 100000) (hr : row < 2 ^ 64) (h0 : 0 ≤ row) (hl : ∀ t ∈ ps, t.1 ≤ 1000000) : callV true f__law_comes_to [d, .int row] S = .ok (.int (valX (digX row) ps)) S := by
  show m__law_comes_to S [d, .int row] = _
  unfold m__law_comes_to runB b__law_comes_to t__law_comes_to_1
  obtain ⟨g, hs, hg⟩ := hL.seq
  have e1 : evE e__law_comes_to_0 [some d, some (.int row), none, none] S = .ok (.lst ((ps.filter fun t => trN row t.1).map fun t => D.int t.2)) S := by
    unfold e__law_comes_to_0
    exact ev_lc (enc := pairD) (g := g) (by simp [ev_v, hs]) hg (sz100000 hlen) fun x hx => ⟨_, rfl, by simp [ev_v, pairD, c_law_true hr h0 (hl x hx)], fun _ => by simp [ev_v, pairD]⟩
  simp [eb_cons, ev_v, e1, sum_lst (asInts_map' _ _), val_filter fun t _ => trN_lit row t.1]
/-- weighted literals over so many variables -/
def PairsOk (many : Int) (ps : List (Int × Int)) : Prop := ∀ p ∈ ps, -2 ≤ p.1 ∧ p.1 < 2 * many ∧ -(10 ^ 40) ≤ p.2 ∧ p.2 ≤ 10 ^ 40
theorem PairsOk.snoc {many : Int} {ps : List (Int × Int)} {p : Int × Int} (h : PairsOk many ps) (k : -2 ≤ p.1 ∧ p.1 < 2 * many ∧ -(10 ^ 40) ≤ p.2 ∧ p.2 ≤ 10 ^ 40) : PairsOk many (ps ++ [p]) := fun q hq => by
  rcases List.mem_append.mp hq with h1 | h1
  · exact h q h1
  · rw [List.mem_singleton.mp h1]; exact k
theorem wp_pairs {S : Store} {n m : Nat} {many count : Int} (hd : Deck S n m) (hm : 1 ≤ many ∧ many ≤ 7) (hc : 1 ≤ count ∧ count ≤ 1000) {Q : D → Store → Prop}
    (hQ : ∀ S' a ps, Deck S' n m → Stay n m S S' → S.length ≤ a → S'[a]? = some (.lst (ps.map pairD)) → (ps.length : Int) = count → PairsOk many ps → Q (.adr a) S') : (callV true f__law_pairs [.adr n, .int many, .int count] S).wp Q := by
  refine wp_callT ?_ rfl
  show (m__law_pairs S [.adr n, .int many, .int count]).wp Q
  unfold m__law_pairs
  rw [wp_run]
  unfold b__law_pairs
  rw [wpB_cons]
  unfold t__law_pairs_2
  have p40 : powOk 10 40 = true := by decide +kernel
  simp [ev_v, p40]
  refine wp_pick (hd.app _) (by omega) (by omega) fun v S1 h0 h1 d1 y1 => ?_
  obtain ⟨most, f1, f2⟩ := pick3 (x := 3) (y := 1000) (z := 10000000000000000000000000000000000000000) h0 h1
  have hmost : 3 ≤ most ∧ most ≤ 10000000000000000000000000000000000000000 := by rcases f2 with rfl | rfl | rfl <;> decide
  simp [f1]
  obtain ⟨hoff1, hoff2⟩ := hd.off (Nat.le_refl _)
  have c1 : S1[S.length]? = some (.lst []) := y1.get hoff1 hoff2 (app_at _)
  have yy1 : Stay n m S S1 := (Stay.refl.app _).trans y1
  unfold t__law_pairs_3 e__law_pairs_0
  simp only [es_asg, wp_then]
  -- few
  obtain ⟨c12, hc12⟩ : ∃ c12 : Int, c12 = if 12 < count then 12 else count := ⟨_, rfl⟩
  have hb : 1 ≤ c12 ∧ c12 ≤ 12 := by rw [hc12]; split <;> omega
  have hrng : rngOk c12 = true := by unfold rngOk; simp; omega
  obtain ⟨P, hP⟩ : ∃ P : Nat → List D → Store → Prop, P = fun i acc S' => ∃ xs : List (Int × Int), acc = xs.map pairD ∧ Deck S' n m ∧ Stay n m S S' ∧ S'[S.length]? = some (.lst []) ∧ PairsOk many xs ∧ xs.length = i := ⟨_, rfl⟩
  refine wp_lc (w := ⟨rngL 0 c12.toNat, []⟩) (S1 := S1) P ?_ ?_ (by rw [rngL_length]; exact sz100000 (by omega)) (fun _ _ _ _ => rfl) ?_ ?_
  · have : biV .min2 S1 [.int count, .int 12] = .ok (.int c12) S1 := by rw [hc12]; rfl
    simp [ev_v, this, hrng]
  · rw [hP]; exact ⟨[], rfl, d1, yy1, c1, fun p hp => by simp at hp, rfl⟩
  · intro i d acc S' hdd hp
    rw [hP] at hp
    obtain ⟨xs, rfl, dk, yk, ck, hx, hlx⟩ := hp
    refine ⟨_, rfl, ?_⟩
    simp [ev_v, mulOk, small64]
    refine wp_pick dk (by omega) (by omega) fun v S2 h0 h1 d2 y2 => ?_
    simp
    refine wp_pick d2 (by omega) (by omega) fun u S3 h2 h3 d3 y3 => ?_
    simp
    rw [hP]
    exact ⟨xs ++ [(v - 2, u - most)], by simp [pairD], d3, yk.trans (y2.trans y3), (y2.trans y3).get hoff1 hoff2 ck, hx.snoc ⟨by simp; omega, by simp; omega, by simp; omega, by simp; omega⟩, by simp [hlx]⟩
  · intro acc S2 hp _
    rw [hP] at hp
    obtain ⟨few, rfl, d2, y2, ck, hfew, hlf⟩ := hp
    rw [rngL_length] at hlf
    simp
    unfold t__law_pairs_4
    simp [ev_v]
    have hrng2 : rngOk count = true := by unfold rngOk; simp; omega
    rw [hrng2]
    simp
    obtain ⟨P, hP⟩ : ∃ P : Nat → Env → Store → Prop, P = fun i ρ S' => ∃ xs x6 x7, ρ = [some (.adr n), some (.int many), some (.int count), some (.adr S.length), some (.int most), some (.lst (few.map pairD)), x6, x7] ∧ Deck S' n m ∧ Stay n m S S' ∧ S'[S.length]? = some (.lst (xs.map pairD)) ∧ PairsOk many xs ∧ xs.length = i := ⟨_, rfl⟩
    refine wp_for (w := ⟨rngL 0 count.toNat, []⟩) P ?_ (fun _ _ _ _ => rfl) ?_ ?_
    · rw [hP]; exact ⟨[], none, none, rfl, d2, y2, ck, fun p hp => by simp at hp, rfl⟩
    · intro i d ρ S' hdd hp
      obtain ⟨rfl, hi⟩ := rngL_get hdd
      rw [hP] at hp
      obtain ⟨xs, x6, x7, rfl, dk, yk, ck, hx, hlx⟩ := hp
      refine ⟨_, rfl, ?_⟩
      unfold u__law_pairs_1
      simp [ev_v, mulOk, small64]
      refine wp_pick dk (by omega) (by omega) fun v S2 h0 h1 d2 y2 => ?_
      simp
      refine wp_pick d2 (by omega) (by omega) fun u S3 h2 h3 d3 y3 => ?_
      obtain ⟨wt, hw, hw2⟩ : ∃ wt : Int, L2.atI [D.int 0, .int 1, .int (-1), .int most, .int (-most)] u = some (.int wt) ∧ -most ≤ wt ∧ wt ≤ most := by
        have : u = 0 ∨ u = 1 ∨ u = 2 ∨ u = ((3 : Nat) : Int) ∨ u = ((4 : Nat) : Int) := by omega
        rcases this with rfl | rfl | rfl | rfl | rfl
        · exact ⟨0, by simp, by omega, by omega⟩
        · exact ⟨1, by simp, by omega, by omega⟩
        · exact ⟨-1, by simp, by omega, by omega⟩
        · exact ⟨most, L2.atI_nat rfl, by omega, by omega⟩
        · exact ⟨-most, L2.atI_nat rfl, by omega, by omega⟩
      have y13 := y2.trans y3
      have ck3 := y13.get hoff1 hoff2 ck
      have kd := kind_cell (S := S3) (t := S.length) .append rfl ck3
      simp [hw, kd]
      refine wp_pick d3 (by omega) (by omega) fun z S4 h4 h5 d4 y4 => ?_
      have ck4 := y4.get hoff1 hoff2 ck3
      have hsz : (xs.map pairD).length < PySem.sizeLine := by rw [List.length_map]; exact Nat.lt_of_lt_of_le (show xs.length < 100000 by omega) (sz100000 (Nat.le_refl _))
      have fin : ∀ (S5 : Store) (p : Int × Int) (x6 x7 : Option D), Deck S5 n m → Stay n m S4 S5 → (-2 ≤ p.1 ∧ p.1 < 2 * many ∧ -(10 ^ 40) ≤ p.2 ∧ p.2 ≤ 10 ^ 40) → methV .append S5 (.adr S.length) [pairD p] = .ok .non (S5.set S.length (.lst (xs.map pairD ++ [pairD p]))) ∧ P (i + 1) [some (.adr n), some (.int many), some (.int count), some (.adr S.length), some (.int most), some (.lst (few.map pairD)), x6, x7] (S5.set S.length (.lst (xs.map pairD ++ [pairD p]))) := fun S5 p x6 x7 d5 y5 hp => by
        have ck5 := y5.get hoff1 hoff2 ck4
        refine ⟨app_cell ck5 hsz, ?_⟩
        rw [hP]
        exact ⟨xs ++ [p], x6, x7, rfl, d5.put hoff1 hoff2 _, (yk.trans (y13.trans (y4.trans y5))).put (Nat.le_refl _) _, by rw [set_at ck5]; simp, hx.snoc hp, by simp [hlx]⟩
      by_cases hz : 0 < z
      · simp [hz]
        have hfl : (0 : Int) < few.length := by omega
        refine wp_pick d4 (by omega) (by omega) fun q S5 h6 h7 d5 y5 => ?_
        obtain ⟨e, he, hin⟩ := atI_lt (xs := few.map pairD) h6 (by simpa using h7)
        obtain ⟨p, hp, rfl⟩ := List.mem_map.mp hin
        obtain ⟨k1, k2⟩ := fin S5 p _ _ d5 y5 (hfew p hp)
        simp [he, k1]
        exact k2
      · obtain ⟨k1, k2⟩ := fin S4 (v - 2, wt) (some (.int (0 + (i : Int)))) (some (pairD (v - 2, wt))) d4 Stay.refl ⟨by simp; omega, by simp; omega, by simp; omega, by simp; omega⟩
        simp only [pairD] at k1 k2
        simp [hz, k1]
        simpa using k2
    · intro ρ S' hp
      rw [hP] at hp
      obtain ⟨xs, x6, x7, rfl, dk, yk, ck, hx, hlx⟩ := hp
      rw [rngL_length] at hlx
      simp
      unfold t__law_pairs_5
      simp [ev_v]
      exact hQ S' _ xs dk yk (Nat.le_refl _) ck (by omega) hx
end LW

namespace LW
open PX
theorem PairsOk.abs {many : Int} {ps : List (Int × Int)} (h : PairsOk many ps) (hl : ps.length ≤ 1000) : absW ps ≤ 10 ^ 43 := by
  have := absW_le (c := 10 ^ 40) (ps := ps) fun p hp => ⟨(h p hp).2.2.1, (h p hp).2.2.2⟩
  have h2 : (10 : Int) ^ 40 * ps.length ≤ 10 ^ 40 * 1000 := Int.mul_le_mul_of_nonneg_left (by omega) (by decide)
  omega
theorem k_sum_of (a b : D) : argK f_sum_of.ps ["degree", "pairs"] [] [a, b] = [b, a] := rfl
theorem k_is_sum (a : D) : argK f_is_sum.ps ["thing"] [] [a] = [a] := rfl
theorem k_add (a b : D) : argK f_add.ps ["other", "one"] [] [a, b] = [b, a] := rfl
theorem k_not_of (a : D) : argK f_not_of.ps ["one"] [] [a] = [a] := rfl
theorem put_facts {many dg dg' : Int} {ps ts : List (Int × Int)} (h : PairsOk many ps) (hl : ps.length ≤ 1000) (hm : 1 ≤ many ∧ many ≤ 7) (hdg : -20 ≤ dg ∧ dg ≤ 20) (hp : IsPut ps dg ts dg') : (∀ t ∈ ts, 0 ≤ t.1 ∧ t.1 < 2 * many) ∧ (sumD ts dg').low = true := by
  have habs := h.abs hl
  have hn := absW_nonneg ps
  have hv : ∀ t ∈ ts, 0 ≤ t.1 ∧ t.1 < 2 * many := fun t ht => by
    obtain ⟨p, hpm, h1, h2⟩ := hp.from t ht
    have := (h p hpm).2.1
    have := (hp.ok.tm t ht).1
    omega
  refine ⟨hv, low_sum (low_pairs (c := 10 ^ 43) (by decide) fun t ht => ?_) ?_ ?_⟩
  · have h1 := hv t ht
    have h2 := hp.weight t ht
    have h3 := (hp.ok.tm t ht).2
    omega
  · have := hp.degree; unfold N60; omega
  · have := hp.degree; unfold N60; omega
theorem x_rows {S : Store} {k : Nat} {degree dg : Int} {d : D} {ps ts : List (Int × Int)} (hk : k ≤ 7) (hL : IsL S d (ps.map pairD)) (hlen : ps.length ≤ 1000) (hps : PairsOk (k : Int) ps) (hp : IsPut ps degree ts dg) (hv : ∀ t ∈ ts, 0 ≤ t.1 ∧ t.1 < 2 * (k : Int)) : ∀ ρ : Env, ρ[1]? = some (some (.int (k : Int))) → ρ[2]? = some (some d) → ρ[3]? = some (some (.int degree)) → ρ[4]? = some (some (sumD ts dg)) → 10 < ρ.length → evE e__law_right_2 ρ S = .ok (.lst []) S := fun ρ r1 r2 r3 r4 rl => by
  have s := hp.ok
  have hpl : ps.length ≤ 100000 := by omega
  have hk2 := pow_le hk
  have hk3 := pow_pos2 k
  have mn : biV .min2 S [.int (k : Int), .int 8] = .ok (.int (k : Int)) S := by
    show R.ok (D.int (if (8 : Int) < k then 8 else k)) S = _
    rw [if_neg (by omega)]
  have hr : rngOk (2 ^ k) = true := by unfold rngOk; simp; omega
  have := ev_lc (enc := fun i : Nat => D.int (0 + (i : Int))) (b := fun _ => false) (y := fun i => D.int (0 + (i : Int))) (vs := [10]) (t := .name 10) (it := .rng1 (.bin .shl (.int 1) (.bi .min2 (.cons (.var 1) (.cons (.int 8) .nil))))) (c := .some (.cmp .ne (.call false f__law_gap (.cons (.var 4) (.cons (.var 10) .nil))) (.bin .sub (.call true f__law_comes_to (.cons (.var 2) (.cons (.var 10) .nil))) (.var 3)))) (e := .var 10) (ρ := ρ) (S := S) (xs := List.range (2 ^ k : Int).toNat) (g := []) (by
      rw [ev_rng1_ok (j := 2 ^ k) (S1 := S) (by
        simp only [ev_bin, ev_int, R.bind_ok, ev_bi, ev_consL, ev_v, r1, ev_nilL, mn, shl1 (show k ≤ 60 by omega)]) hr, rngL_map]) rfl (sz100000 (by simp; omega)) (fun i hi => by
      have hi : i < (2 ^ k : Int).toNat := by simpa using hi
      have q1 := fun S => c_law_gap (ts := ts) (dg := dg) (row := 0 + (i : Int)) s.len (by omega) (by omega) (fun t ht => by have := hv t ht; omega) S
      have q2 := c_comes_to (row := 0 + (i : Int)) hL hpl (by omega) (by omega) (fun t ht => by have := hps t ht; omega)
      refine ⟨_, rfl, ?_, fun h => by cases h⟩
      have z : ∀ j, j ≠ 10 → ((wipeE ρ [10]).set 10 (some (D.int (0 + (i : Int)))))[j]? = ρ[j]? := fun j hj => by
        rw [List.getElem?_set_ne (Ne.symm hj)]
        show (ρ.set 10 none)[j]? = _
        rw [List.getElem?_set_ne (Ne.symm hj)]
      have z10 : ((wipeE ρ [10]).set 10 (some (D.int (0 + (i : Int)))))[10]? = some (some (.int (0 + (i : Int)))) := List.getElem?_set_self (by simpa [wipeE] using rl)
      have := hp.eq (digX (0 + (i : Int)))
      simp only [ev_someC, ev_cmp, ev_call, ev_consL, ev_nilL, ev_v, z 1 (by decide), z 2 (by decide), z 3 (by decide), z 4 (by decide), z10, r1, r2, r3, r4, R.bind_ok, q1, ev_bin, q2, bin_int, cmp_ne, eq_int]
      rw [this]
      simp)
  unfold e__law_right_2
  rw [this, List.filter_eq_nil_iff.mpr fun t ht => by simp]
  rfl
theorem wp_right {S : Store} {n m : Nat} {many degree : Int} {d : D} {ps : List (Int × Int)} (hd : Deck S n m) (hm : 1 ≤ many ∧ many ≤ 7) (hL : IsL S d (ps.map pairD)) (hoff : ∀ a, d = .adr a → a ≠ n ∧ a ≠ m) (hlen : ps.length ≤ 1000) (hps : PairsOk many ps) (hdg : -20 ≤ degree ∧ degree ≤ 20) {Q : D → Store → Prop}
    (hQ : ∀ S', Deck S' n m → Stay n m S S' → Q (.bl true) S') : (callV true f__law_right [.adr n, .int many, d, .int degree] S).wp Q := by
  refine wp_callT ?_ rfl
  show (m__law_right S [.adr n, .int many, d, .int degree]).wp Q
  unfold m__law_right
  rw [wp_run]
  unfold b__law_right
  rw [wpB_cons]
  have hm2 : ∀ p ∈ ps, -2 ≤ p.1 := fun p hp => (hps p hp).1
  obtain ⟨ts, dg, hp, e⟩ := c_sum_of degree hlen hm2
  obtain ⟨hv, hlow⟩ := put_facts hps hlen hm hdg hp
  have s := hp.ok
  have hpl : ps.length ≤ 100000 := by omega
  unfold t__law_right_7
  simp [ev_v, hL.tuple, k_sum_of, e]
  unfold t__law_right_8 u__law_right_1
  have l1 : ∀ S, callV false f__law_is_sum [sumD ts dg] S = .ok (.bl true) S := fun S => by
    rw [c_law_is_sum _ (good_sum s.len), ← sum_law hlow, s.sumB]
  have l2 : ∀ S, evE e__law_right_0 [some (.adr n), some (.int many), some d, some (.int degree), some (sumD ts dg), none, none, none, none, none, none, none, none] S = .ok (.lst []) S := fun S => by
    have := ev_lc (enc := pairD) (b := fun t => decide (2 * many ≤ t.1)) (y := fun t => D.int t.1) (vs := [11, 12]) (t := .tup [11, 12]) (it := .seq (.ix (.var 4) (.int 0))) (c := .some (.cmp .ge (.var 11) (.bin .mul (.int 2) (.var 1)))) (e := .var 11) (ρ := [some (.adr n), some (.int many), some d, some (.int degree), some (sumD ts dg), none, none, none, none, none, none, none, none]) (S := S) (xs := ts) (g := []) (by simp [ev_v, sumD]) rfl (sz100000 s.len) (fun x hx => ⟨_, rfl, by simp [ev_v, pairD, m4], fun _ => by simp [ev_v, pairD]⟩)
    unfold e__law_right_0
    rw [this, List.filter_eq_nil_iff.mpr fun t ht => by have := (hv t ht).2; simp; omega]
    rfl
  simp [ev_v, l1, k_is_sum, c_is_sum_ok s, is_tt, l2, ne_nil0]
  unfold t__law_right_9 u__law_right_3
  obtain ⟨k, rfl⟩ : ∃ k : Nat, many = k := ⟨many.toNat, by omega⟩
  have hk : k ≤ 7 := by omega
  have l3 := x_rows hk hL hlen hps hp hv
  have l4 := l3 [some (.adr n), some (.int (k : Int)), some d, some (.int degree), some (sumD ts dg), none, none, none, none, none, none, none, none] rfl rfl rfl rfl (by simp)
  simp [ev_v, l4, ne_nil0]
  unfold t__law_right_10
  simp [ev_v, hL.len]
  refine wp_pick hd (by omega) (by omega) fun v S1 h0 h1 d1 y1 => ?_
  have hL1 := hL.stay y1 hoff
  simp [hL1.back]
  unfold t__law_right_11 u__law_right_4
  obtain ⟨us, dh, hq, e2⟩ := c_sum_of (ps := ps.reverse) degree (by simpa using hlen) (fun p hp => hm2 p (List.mem_reverse.mp hp))
  obtain ⟨z1, z2⟩ := hp.uniq hq fun x => by rw [valX_reverse]
  rw [z1, z2] at e2
  rw [← List.map_reverse]
  simp [ev_v, e2, c_same_sum s.len, -List.map_reverse]
  unfold t__law_right_12
  obtain ⟨cut, rfl⟩ : ∃ cut : Nat, v = cut := ⟨v.toNat, by omega⟩
  obtain ⟨us, dh, hq1, e3⟩ := c_sum_of (ps := ps.take cut) degree (by simp; omega) (fun p hp => hm2 p (List.mem_of_mem_take hp))
  obtain ⟨vs, di, hq2, e4⟩ := c_sum_of (ps := ps.drop cut) 0 (by simp; omega) (fun p hp => hm2 p (List.mem_of_mem_drop hp))
  have sl1 := hL1.slice none (some (cut : Int))
  have sl2 := hL1.slice (some (cut : Int)) none
  rw [cut_to, ← List.map_take] at sl1
  rw [cut_from, ← List.map_drop] at sl2
  simp [ev_v, sl1, sl2, e3, e4, -List.map_take, -List.map_drop]
  unfold t__law_right_13 u__law_right_5
  obtain ⟨ws, dj, hq3, e5⟩ := c_add dh di hq1.ok hq2.ok (by
    have := hq1.len; have := hq2.len
    simp at *; omega)
  obtain ⟨z1, z2⟩ := hp.ok.uniq hq3.ok (a := dg) (b := dj) fun x => by
    rw [hp.eq, hq1.add hq2 hq3, List.take_append_drop]; omega
  rw [← z1, ← z2] at e5
  simp [ev_v, k_add, e5, c_same_sum s.len]
  unfold t__law_right_14
  obtain ⟨xs, dk, hq4, e6⟩ := c_sum_of (ps := ps.map fun p => (p.1, -p.2)) (1 - degree) (by simpa using hlen) (fun p hp => by
    obtain ⟨q, hq, rfl⟩ := List.mem_map.mp hp
    exact hm2 q hq)
  obtain ⟨g, hs, hg⟩ := hL1.seq
  have l5 : ∀ ρ : Env, ρ[2]? = some (some d) → ρ.length = 13 → evE e__law_right_6 ρ S1 = .ok (.lst (ps.map fun p => pairD (p.1, -p.2))) S1 := fun ρ r2 rl => by
    unfold e__law_right_6
    refine ev_lcA (enc := pairD) (g := g) (by simp [ev_v, r2, hs]) hg (sz100000 hpl) fun x hx => ⟨_, rfl, ?_⟩
    simp [ev_v, pairD, rl]
  rw [show (D.tup ((ps.map fun p => (p.1, -p.2)).map pairD)) = D.tup (ps.map fun p => pairD (p.1, -p.2)) by rw [List.map_map]; rfl] at e6
  simp [ev_v, l5, e6]
  unfold t__law_right_15
  obtain ⟨z1, z2⟩ := s.not.uniq hq4.ok (a := totI ts - dg + 1) (b := dk) fun x => by
    rw [hq4.eq, valX_neg, valX_not x s]
    have := hp.eq x
    omega
  rw [← z1, ← z2]
  have z3 := fun S => c_same_sum (ts := notI ts) (dg := totI ts - dg + 1) (by rw [notI_len]; exact s.len) S
  simp [ev_v, k_not_of, c_not_of s, z3]
  exact hQ S1 d1 y1
end LW

namespace PX
def GL (x : D) : Prop := x.good = true ∧ x.low = true
theorem goods_cut {xs : List D} (h : D.goods xs = true) (lo hi : Option Int) : D.goods (cutG xs lo hi) = true := goods_iff.mpr fun x hx => goods_iff.mp h x (List.mem_of_mem_drop (List.mem_of_mem_take hx))
theorem lows_iff : ∀ {xs : List D}, D.lows xs = true ↔ ∀ x ∈ xs, D.low x = true
  | [] => by simp [D.lows]
  | x :: xs => by simp [D.lows, lows_iff (xs := xs)]
theorem lows_cut {xs : List D} (h : D.lows xs = true) (lo hi : Option Int) : D.lows (cutG xs lo hi) = true := lows_iff.mpr fun x hx => lows_iff.mp h x (List.mem_of_mem_drop (List.mem_of_mem_take hx))
theorem len_cut {α : Type} (xs : List α) (lo hi : Option Int) : (cutG xs lo hi).length ≤ xs.length := by
  unfold cutG
  rw [List.length_take, List.length_drop]
  omega
theorem ne_tup {S : Store} (ts : List (Int × Int)) : eqR true S (.tup (ts.map pairD)) (.tup []) = .ok (.bl (!ts.isEmpty)) S := by
  unfold eqR snap
  simp only [frees_pairs, if_true, frs_nil, fr_tup]
  have e1 : (D.tup (ts.map pairD)).depth ≤ 64 := by have := depths_pairs ts; simp only [D.depth]; omega
  have e2 : (D.tup []).depth ≤ 64 := by simp [D.depth, D.depths]
  rw [decide_eq_true e1, decide_eq_true e2]
  simp [D.eqv, eqvs_nil]
theorem ext_cell {S : Store} {t : Nat} {xs ys : List D} (h : S[t]? = some (.lst xs)) (hl : xs.length + ys.length ≤ 1000000) : methV .extend S (.adr t) [.lst ys] = .ok .non (S.set t (.lst (xs ++ ys))) := by
  unfold methV
  have : xs.length + ys.length ≤ PySem.sizeLine := Nat.le_trans hl (by decide)
  simp [h, asLstW, this]
end PX
namespace LW
open PX
theorem gl_sum {xs : List D} {dg : Int} (h : xs.length ≤ 2000) (h1 : D.goods xs = true) (h2 : D.lows xs = true) (h3 : -N60 ≤ dg ∧ dg ≤ N60) : GL (.tup [.tup xs, .int dg]) := by
  refine ⟨?_, ?_⟩
  · have : xs.length ≤ 100000 := by omega
    simp [D.good, D.goods, this, h1]
  · simp only [D.low, D.lows, h2, Bool.true_and, Bool.and_true, Bool.and_eq_true, decide_eq_true_eq]
    exact h3
structure NearI (S S' : Store) (xs : List D) (k : Nat) : Prop where
  len : S'.length = S.length + 1
  old : ∀ i, i < S.length → S'[i]? = S[i]?
  at_ : S'[S.length]? = some (.lst xs)
  gl : ∀ x ∈ xs, GL x
  le : xs.length ≤ k
theorem NearI.ext {S S' : Store} {xs ys : List D} {k j : Nat} (h : NearI S S' xs k) (hy : ∀ y ∈ ys, GL y) (hl : ys.length ≤ j) (hk : k + j ≤ 1000) : mkind .extend S' (.adr S.length) = true ∧ methV .extend S' (.adr S.length) [.lst ys] = .ok .non (S'.set S.length (.lst (xs ++ ys))) ∧ NearI S (S'.set S.length (.lst (xs ++ ys))) (xs ++ ys) (k + j) := by
  have := h.le
  refine ⟨kind_cell _ rfl h.at_, ext_cell h.at_ (by omega), by simpa using h.len, fun i hi => ?_, set_at h.at_, fun x hx => ?_, by simp; omega⟩
  · rw [List.getElem?_set_ne (by omega)]; exact h.old i hi
  · rcases List.mem_append.mp hx with q | q
    · exact h.gl x q
    · exact hy x q
theorem NearI.app {S S' : Store} {xs : List D} {y : D} {k : Nat} (h : NearI S S' xs k) (hy : GL y) (hk : k + 1 ≤ 1000) : mkind .append S' (.adr S.length) = true ∧ methV .append S' (.adr S.length) [y] = .ok .non (S'.set S.length (.lst (xs ++ [y]))) ∧ NearI S (S'.set S.length (.lst (xs ++ [y]))) (xs ++ [y]) (k + 1) := by
  have := h.le
  obtain ⟨_, _, h3⟩ := h.ext (ys := [y]) (j := 1) (by simpa using hy) (by simp) hk
  exact ⟨kind_cell _ rfl h.at_, app_cell h.at_ (Nat.lt_of_lt_of_le (show xs.length < 100000 by omega) (sz100000 (Nat.le_refl _))), h3⟩
theorem wp_near {S : Store} {ts : List (Int × Int)} {dg : Int} (hl : ts.length ≤ 1000) (s : SumOk ts) (hv : ∀ t ∈ ts, 0 ≤ t.1 ∧ t.1 < 14) (hlow : D.lows (ts.map pairD) = true) (hdg : -(10 ^ 44) ≤ dg ∧ dg ≤ 10 ^ 44) {Q : D → Store → Prop}
    (hQ : ∀ S' xs, (∀ x ∈ xs, GL x) → xs.length ≤ 100 → S.length < S'.length → (∀ i, i < S.length → S'[i]? = S[i]?) → S'[S.length]? = some (.lst xs) → Q (.adr S.length) S') : (callV true f__law_near [sumD ts dg] S).wp Q := by
  refine wp_callT ?_ rfl
  show (m__law_near S [sumD ts dg]).wp Q
  unfold m__law_near
  rw [wp_run]
  unfold b__law_near
  rw [wpB_cons]
  have hN : -N60 ≤ dg ∧ dg ≤ N60 := by unfold N60; omega
  have gp := goods_pairs ts
  unfold t__law_near_2
  simp [ev_v, sumD]
  unfold t__law_near_3
  have l1 : ∀ S, biV .list S [.tup [.tup (ts.map pairD), .int dg]] = .ok (.lst [.tup (ts.map pairD), .int dg]) S := fun S => rfl
  have l2 : ∀ S, biV .list S [.tup (ts.map pairD)] = .ok (.lst (ts.map pairD)) S := fun S => rfl
  have hlg : dg.natAbs.log2 < 1920 := by
    by_cases h0 : dg.natAbs = 0
    · rw [h0]; decide
    · refine (Nat.log2_lt h0).mpr (Nat.lt_of_le_of_lt (show dg.natAbs ≤ 10 ^ 44 by omega) (by decide +kernel))
  obtain ⟨z, l3⟩ : ∃ z : PySem.Str, ∀ S, biV .str S [.int dg] = .ok (.str z) S := ⟨_, fun S => by
    show guardR (decide (dg.natAbs.log2 < 1920)) _ = _
    rw [decide_eq_true hlg]; rfl⟩
  have gt : D.good (.tup (ts.map pairD)) = true := by have : ts.length ≤ 100000 := by omega
                                                      simp [D.good, gp, this]
  have gl : D.good (.lst (ts.map pairD)) = true := by have : ts.length ≤ 100000 := by omega
                                                      simp [D.good, gp, this]
  have lt : D.low (.tup (ts.map pairD)) = true := by simp [D.low, hlow]
  have ll : D.low (.lst (ts.map pairD)) = true := by simp [D.low, hlow]
  have ld : D.low (.int dg) = true := by simp only [D.low, Bool.and_eq_true, decide_eq_true_eq]; exact hN
  have n0 : NearI S (S ++ [.lst [.tup [.tup (ts.map pairD), .int dg], .non, .lst [.tup (ts.map pairD), .int dg], .tup [.tup (ts.map pairD)], .tup [.tup (ts.map pairD), .int dg, .int 0], .tup [.lst (ts.map pairD), .int dg], .tup [.tup (ts.map pairD), .bl true], .tup [.tup (ts.map pairD), .non], .tup [.tup (ts.map pairD), .str z]]]) [.tup [.tup (ts.map pairD), .int dg], .non, .lst [.tup (ts.map pairD), .int dg], .tup [.tup (ts.map pairD)], .tup [.tup (ts.map pairD), .int dg, .int 0], .tup [.lst (ts.map pairD), .int dg], .tup [.tup (ts.map pairD), .bl true], .tup [.tup (ts.map pairD), .non], .tup [.tup (ts.map pairD), .str z]] 9 := by
    refine ⟨by simp, fun i hi => List.getElem?_append_left hi, app_at _, fun x hx => ?_, by simp⟩
    simp only [List.mem_cons, List.not_mem_nil, or_false] at hx
    have li : ∀ i : Int, D.good (.int i) = true := fun i => rfl
    have l0 : D.low (.int 0) = true := rfl
    rcases hx with rfl | rfl | rfl | rfl | rfl | rfl | rfl | rfl | rfl <;> exact ⟨by first | rfl | (rw [D.good]; simp only [D.goods, gt, gl, li]; rfl), by first | rfl | (rw [D.low]; simp only [D.lows, lt, ll, ld, l0]; rfl)⟩
  simp [ev_v, l1, l2, l3]
  generalize [D.tup [.tup (ts.map pairD), .int dg], .non, .lst [.tup (ts.map pairD), .int dg], .tup [.tup (ts.map pairD)], .tup [.tup (ts.map pairD), .int dg, .int 0], .tup [.lst (ts.map pairD), .int dg], .tup [.tup (ts.map pairD), .bl true], .tup [.tup (ts.map pairD), .non], .tup [.tup (ts.map pairD), .str z]] = xs0 at *
  generalize S ++ [.lst xs0] = S1 at *
  unfold t__law_near_4
  have hlen2 : (ts.map pairD).length ≤ 1000 := by simpa using hl
  have c1 := len_cut (ts.map pairD) (some (-1)) none
  have a1 : ∀ S, binV .add S (.tup (ts.map pairD)) (.tup (cutG (ts.map pairD) (some (-1)) none)) = .ok (.tup (ts.map pairD ++ cutG (ts.map pairD) (some (-1)) none)) S := fun S => add_tup (by omega)
  have bk : ∀ S, backV S (.tup (ts.map pairD)) = .ok (.tup (ts.map pairD).reverse) S := fun S => rfl
  have gr : D.goods (ts.map pairD).reverse = true := goods_iff.mpr fun x hx => goods_iff.mp gp x (List.mem_reverse.mp hx)
  have lr : D.lows (ts.map pairD).reverse = true := lows_iff.mpr fun x hx => lows_iff.mp hlow x (List.mem_reverse.mp hx)
  obtain ⟨k1, k2, n1⟩ := n0.ext (ys := [.tup [.tup (ts.map pairD ++ cutG (ts.map pairD) (some (-1)) none), .int dg], .tup [.tup (ts.map pairD).reverse, .int dg]]) (j := 2) (fun y hy => by
    simp only [List.mem_cons, List.not_mem_nil, or_false] at hy
    rcases hy with rfl | rfl
    · exact gl_sum (by rw [List.length_append]; omega) (by rw [goods_append, gp, goods_cut gp]; rfl) (by rw [lows_append, hlow, lows_cut hlow]; rfl) hN
    · exact gl_sum (by simp; omega) gr lr hN) (by simp) (by omega)
  simp [ev_v, slV_tup, a1, bk, k1, k2, -List.map_reverse, -List.map_append]
  generalize S1.set S.length (.lst (xs0 ++ [.tup [.tup (ts.map pairD ++ cutG (ts.map pairD) (some (-1)) none), .int dg], .tup [.tup (ts.map pairD).reverse, .int dg]])) = S2 at *
  generalize xs0 ++ [.tup [.tup (ts.map pairD ++ cutG (ts.map pairD) (some (-1)) none), .int dg], .tup [.tup (ts.map pairD).reverse, .int dg]] = xs1 at *
  unfold t__law_near_5
  obtain ⟨far, hf1, hf2, hf3⟩ : ∃ far : Int, 0 ≤ far ∧ far ≤ 20 ∧ ∀ ρ : Env, ρ[1]? = some (some (.tup (ts.map pairD))) → evE (.ite (.cmp .ne (.var 1) (.tup (.nil))) (.bin .add (.ix (.ix (.var 1) (.neg (.int 1))) (.int 0)) (.int 2)) (.int 0)) ρ S2 = .ok (.int far) S2 := by
    rcases List.eq_nil_or_concat ts with e | ⟨l, u, e⟩
    · refine ⟨0, by omega, by omega, fun ρ r1 => ?_⟩
      simp [ev_v, r1, ne_tup, e]
      have := ne_tup (S := S2) []
      simp only [List.map_nil] at this
      simp [this]
    · rw [List.concat_eq_append] at e
      have hu := hv u (by rw [e]; simp)
      refine ⟨u.1 + 2, by omega, by omega, fun ρ r1 => ?_⟩
      have h1 : L2.atI (ts.map pairD) (-1) = some (pairD u) := by rw [e, List.map_append]; exact L2.atI_last _ _
      have h2 : ts.isEmpty = false := by rw [e]; cases l <;> rfl
      simp [ev_v, r1, ne_tup, h1, h2]
      simp [pairD]
  simp only [es_asg, wp_then]
  rw [hf3 _ rfl]
  simp
  unfold t__law_near_6
  simp [ev_v]
  obtain ⟨P, hP⟩ : ∃ P : Nat → Env → Store → Prop, P = fun i ρ S' => ∃ xs x5, ρ = [some (.tup [.tup (ts.map pairD), .int dg]), some (.tup (ts.map pairD)), some (.int dg), some (.adr S.length), some (.int far), x5] ∧ NearI S S' xs (11 + i) := ⟨_, rfl⟩
  have lf : ∀ i : Int, -100 ≤ i → i ≤ 100 → D.low (.int i) = true := fun i h1 h2 => by simp only [D.low, Bool.and_eq_true, decide_eq_true_eq]; unfold N60; omega
  refine wp_for (w := ⟨[.tup [.int far, .int 0], .tup [.int far, .int (-1)], .tup [.int far, .bl true], .tup [.int far], .tup [.int far, .int 1, .int 1], .lst [.int far, .int 1], .tup [.int (-1), .int 1], .tup [.int far, .int 1], .tup [.int (far + 1), .int 1], .tup [.bl true, .int 1], .tup [.str "0", .int 1]], []⟩) P ?_ (fun _ _ _ _ => rfl) ?_ ?_
  · rw [hP]; exact ⟨xs1, none, rfl, n1⟩
  · intro i d ρ S' hdd hp
    rw [hP] at hp
    obtain ⟨xs, x5, rfl, n2⟩ := hp
    refine ⟨_, rfl, ?_⟩
    unfold u__law_near_0
    have hi : i < 11 := (List.getElem?_eq_some_iff.mp hdd).1
    have hd2 : GL d := by
      have := List.mem_of_getElem? hdd
      simp only [List.mem_cons, List.not_mem_nil, or_false] at this
      have l1 := lf far (by omega) (by omega)
      have l2 := lf (far + 1) (by omega) (by omega)
      have l0 := lf 0 (by omega) (by omega)
      have l4 := lf 1 (by omega) (by omega)
      have l5 := lf (-1) (by omega) (by omega)
      rcases this with rfl | rfl | rfl | rfl | rfl | rfl | rfl | rfl | rfl | rfl | rfl <;> exact ⟨rfl, by rw [D.low]; simp only [D.lows, l1, l2, l0, l4, l5]; rfl⟩
    obtain ⟨q1, q2, n3⟩ := n2.app (y := .tup [.tup (ts.map pairD ++ [d]), .int dg]) (gl_sum (by simp; omega) (by rw [goods_append, gp]; simp [D.goods, hd2.1]) (by rw [lows_append, hlow]; simp [D.lows, hd2.2]) hN) (by omega)
    have a2 : ∀ S, binV .add S (.tup (ts.map pairD)) (.tup [d]) = .ok (.tup (ts.map pairD ++ [d])) S := fun S => add_tup (by simp; omega)
    simp [ev_v, a2, q1, q2]
    rw [hP]
    exact ⟨_, _, rfl, n3⟩
  · intro ρ S' hp
    rw [hP] at hp
    obtain ⟨xs, x5, rfl, n2⟩ := hp
    simp
    unfold t__law_near_7
    have fin : ∀ (S' : Store) (xs : List D) (k : Nat), NearI S S' xs k → k ≤ 100 → (evS 0 t__law_near_8 [some (.tup [.tup (ts.map pairD), .int dg]), some (.tup (ts.map pairD)), some (.int dg), some (.adr S.length), some (.int far), x5] S').wp (thenB 0 .nil (endQ Q)) := fun S' xs k n4 hk => by
      unfold t__law_near_8
      simp [ev_v]
      exact hQ S' xs n4.gl (Nat.le_trans n4.le hk) (by rw [n4.len]; omega) n4.old n4.at_
    rcases List.eq_nil_or_concat ts with e | ⟨l, u, e⟩
    · have h2 : ts.isEmpty = true := by rw [e]; rfl
      simp [ev_v, ne_tup, h2]
      exact fin _ _ _ n2 (by simp)
    · rw [List.concat_eq_append] at e
      have hu := hv u (by rw [e]; simp)
      have h1 : L2.atI (ts.map pairD) (-1) = some (pairD u) := by rw [e, List.map_append]; exact L2.atI_last _ _
      have h2 : ts.isEmpty = false := by rw [e]; cases l <;> rfl
      unfold u__law_near_1
      have c2 := len_cut (ts.map pairD) none (some (-1))
      have a3 : ∀ S y, binV .add S (.tup (ts.map pairD)) (.tup [y]) = .ok (.tup (ts.map pairD ++ [y])) S := fun S y => add_tup (by simp; omega)
      have a4 : ∀ S y, binV .add S (.tup (cutG (ts.map pairD) none (some (-1)))) (.tup [y]) = .ok (.tup (cutG (ts.map pairD) none (some (-1)) ++ [y])) S := fun S y => add_tup (by simp; omega)
      have l1 := lf (u.1 / 2 * 2 + 1) (by omega) (by omega)
      have l2 := lf u.1 (by omega) (by omega)
      have l0 := lf 0 (by omega) (by omega)
      have l4 := lf 1 (by omega) (by omega)
      obtain ⟨q1, q2, n3⟩ := n2.ext (ys := [.tup [.tup (ts.map pairD ++ [.tup [.int (u.1 / 2 * 2 + 1), .int 1]]), .int dg], .tup [.tup (cutG (ts.map pairD) none (some (-1)) ++ [.tup [.int u.1, .int 0]]), .int dg]]) (j := 2) (fun y hy => by
        simp only [List.mem_cons, List.not_mem_nil, or_false] at hy
        rcases hy with rfl | rfl
        · exact gl_sum (by simp; omega) (by rw [goods_append, gp]; rfl) (by rw [lows_append, hlow]; simp only [D.lows, D.low] at l1 l4 ⊢; rw [l1, l4]; rfl) hN
        · exact gl_sum (by rw [List.length_append]; simp at *; omega) (by rw [goods_append, goods_cut gp]; rfl) (by rw [lows_append, lows_cut hlow]; simp only [D.lows, D.low] at l2 l0 ⊢; rw [l2, l0]; rfl) hN) (by simp) (by simp)
      simp [ev_v, ne_tup, h1, h2, q1]
      simp [pairD, d2, m5, a3, a4, slV_tup, q2]
      exact fin _ _ _ n3 (by simp)
end LW

namespace LW
open PX
theorem refused1 {d e : D} (hd : d.good = true) (he : e.good = true) (h : pairsD d = false) (S : Store) : callV false f__law_refused [d, e] S = .ok (.str "pairs") S := by
  refine callV_ok S (S0 := []) ?_ rfl (by simp [D.good.free hd, D.good.free he]) rfl
  show m__law_refused [] _ = _
  unfold m__law_refused runB b__law_refused t__law_refused_1 t__law_refused_2 t__law_refused_3 u__law_refused_0
  have e1 := fun S => n_sum_of1 hd he h S
  simp [eb_cons, ev_v, k_sum_of, e1, handle]
theorem refused2 {ps : List (Int × Int)} {e : D} (hl : ps.length ≤ 1000) (h : ∀ p ∈ ps, -2 ≤ p.1) (he : e.good = true) (hi : e.isI = false) (S : Store) : callV false f__law_refused [.tup (ps.map pairD), e] S = .ok (.str "degree") S := by
  refine callV_ok S (S0 := []) ?_ rfl (by simp [frees_pairs, D.good.free he]) rfl
  show m__law_refused [] _ = _
  unfold m__law_refused runB b__law_refused t__law_refused_1 t__law_refused_2 t__law_refused_3 u__law_refused_0
  have e1 := fun S => n_sum_of2 hl h he hi S
  have s1 : decide (("BadDegree" : PySem.Str) = "BadPairs") = false := by decide
  simp [eb_cons, ev_v, k_sum_of, e1, handle, s1]
theorem law_true (ns : List Int) (hl : ns.length ≤ 63) (hb : ∀ z ∈ ns, PySem.Builtin.Int.intBits z ≤ 1048576) : ∃ S', f_law.sem [] [.scr (ns.map D.int)] = .ok (.bl true) S' := by
  suffices h : (f_law.sem [] [.scr (ns.map D.int)]).wp fun d _ => d = .bl true by
    obtain ⟨d, S', e, rfl⟩ := h.ex
    exact ⟨S', e⟩
  show (m_law [] [.scr (ns.map D.int)]).wp _
  obtain ⟨Q, hQ⟩ : ∃ Q : D → Store → Prop, Q = fun d _ => d = .bl true := ⟨_, rfl⟩
  rw [← hQ]
  unfold m_law
  rw [wp_run]
  unfold b_law
  rw [wpB_cons]
  obtain ⟨S0, e0, d0⟩ := c_deck ns
  unfold t_law_5
  simp [ev_v, e0]
  unfold t_law_6
  have hr : rngOk (2 + (if (3 : Int) < (ns.length : Int) then 3 else (ns.length : Int))) = true := by
    unfold rngOk
    split <;> simp <;> omega
  have m3 : ∀ S, biV .min2 S [.int (ns.length : Int), .int 3] = .ok (.int (if (3 : Int) < (ns.length : Int) then 3 else (ns.length : Int))) S := fun S => rfl
  generalize (if (3 : Int) < (ns.length : Int) then 3 else (ns.length : Int)) = c at *
  simp [ev_v, m3, hr]
  obtain ⟨P, hP⟩ : ∃ P : Nat → Env → Store → Prop, P = fun i ρ S' => ∃ x2 x3 x4 x5 x6 x7 x8 x9, ρ = [some (.scr (ns.map D.int)), some (.adr 1), x2, x3, x4, x5, x6, x7, x8, x9] ∧ Deck S' 1 0 := ⟨_, rfl⟩
  refine wp_for (w := ⟨rngL 0 (2 + c).toNat, []⟩) P ?_ (fun _ _ _ _ => rfl) ?_ ?_
  · rw [hP]; exact ⟨_, _, _, _, _, _, _, _, rfl, d0⟩
  · intro i d ρ S' hdd hp
    rw [hP] at hp
    obtain ⟨x2, x3, x4, x5, x6, x7, x8, x9, rfl, d1⟩ := hp
    refine ⟨_, rfl, ?_⟩
    unfold u_law_4
    simp [ev_v]
    refine wp_pick d1 (by omega) (by omega) fun v S2 h0 h1 d2 y2 => ?_
    simp
    refine wp_pick d2 (by omega) (by omega) fun u S3 h2 h3 d3 y3 => ?_
    obtain ⟨cn, hcn, ecn⟩ := atI_ints (ns := [0, 1, 5, 30, 30, 200]) h2 h3
    have hcn2 : 0 ≤ cn ∧ cn ≤ 200 := by
      simp only [List.mem_cons, List.not_mem_nil, or_false] at hcn; omega
    simp only [List.map_cons, List.map_nil] at ecn
    simp [ecn]
    -- what follows the pairs
    suffices rest : ∀ (S5 : Store) (dp : D) (ps : List (Int × Int)) (deg : Int), Deck S5 1 0 → IsL S5 dp (ps.map pairD) → (∀ a, dp = .adr a → a ≠ 1 ∧ a ≠ 0) → ps.length ≤ 1000 → PairsOk (1 + v) ps → (-20 ≤ deg ∧ deg ≤ 20) → (callV true f__law_right [.adr 1, .int (1 + v), dp, .int deg] S5).wp (fun a S => ((match truthy S a with
        | some b => R.ok (D.bl !b) S
        | none => R.stuck).wp fun a S => (match truthy S a with
          | some true => evB 0 u_law_0 [some (.scr (ns.map D.int)), some (.adr 1), some d, some (.int (1 + v)), some dp, some (.int cn), some (.int deg), x7, x8, x9] S
          | some false => RS.fl Fl.next [some (.scr (ns.map D.int)), some (.adr 1), some d, some (.int (1 + v)), some dp, some (.int cn), some (.int deg), x7, x8, x9] S
          | none => RS.stuck).wp (thenB 0 (.cons (.asg (.name 7) (.call false f_sum_of (.cons (.bi .tuple (.cons (.var 4) .nil)) (.cons (.var 6) .nil)))) (.cons (.for_ (.name 8) (.seq (.call true f__law_near (.cons (.var 7) .nil))) (u_law_2)) (.cons (.asg (.name 9) (.ix (.lst (.cons (.non) (.cons (.lst (.nil)) (.cons (.tup (.cons (.tup (.cons (.int 0) .nil)) .nil)) (.cons (.tup (.cons (.tup (.cons (.int 0) (.cons (.int 1) (.cons (.int 1) .nil)))) .nil)) (.cons (.tup (.cons (.lst (.cons (.int 0) (.cons (.int 1) .nil))) .nil)) (.cons (.tup (.cons (.tup (.cons (.neg (.int 3)) (.cons (.int 1) .nil))) .nil)) (.cons (.tup (.cons (.tup (.cons (.int 0) (.cons (.non) .nil))) .nil)) (.cons (.tup (.cons (.tup (.cons (.int 0) (.cons (.bl true) .nil))) .nil)) (.cons (.tup (.cons (.tup (.cons (.bl true) (.cons (.int 1) .nil))) .nil)) (.cons (.tup (.cons (.non) .nil)) .nil))))))))))) (.call true f__law_pick (.cons (.var 1) (.cons (.int 10) .nil))))) (.cons (.ite (.cmp .ne (.lst (.cons (.call false f__law_refused (.cons (.var 9) (.cons (.non) .nil))) (.cons (.call false f__law_refused (.cons (.bi .tuple (.cons (.var 4) .nil)) (.cons (.ix (.lst (.cons (.non) (.cons (.bl true) (.cons (.str "1") .nil)))) (.call true f__law_pick (.cons (.var 1) (.cons (.int 3) .nil)))) .nil))) (.cons (.call false f__law_refused (.cons (.var 9) (.cons (.int 1) .nil))) .nil)))) (.lst (.cons (.str "pairs") (.cons (.str "degree") (.cons (.str "pairs") .nil))))) (u_law_3) (.nil)) .nil)))) (turnQ (P (i + 1)) (thenB 0 (.cons t_law_7 (.cons t_law_8 (.cons t_law_9 .nil))) (endQ Q))))) ) by
      by_cases hz : 0 < cn
      · simp [hz]
        refine wp_pairs d3 (by omega) (by omega) fun S4 a ps d4 y4 ha hc hlen hps => ?_
        have hoff := d3.off ha
        refine wp_pick d4 (by omega) (by omega) fun w S5 h4 h5 d5 y5 => ?_
        simp
        exact rest S5 (.adr a) ps (w - 20) d5 (.inr ⟨a, rfl, y5.get hoff.1 hoff.2 hc⟩) (fun b hb => by cases hb; exact hoff) (by omega) hps (by omega)
      · simp [hz]
        refine wp_pick d3 (by omega) (by omega) fun w S5 h4 h5 d5 y5 => ?_
        simp
        exact rest S5 (.lst []) [] (w - 20) d5 (.inl rfl) (fun b hb => by cases hb) (by simp) (fun p hp => by simp at hp) (by omega)
    intro S5 dp ps deg d5 hL hoff hlen hps hdeg
    refine wp_right d5 (by omega) hL hoff hlen hps hdeg fun S6 d6 y6 => ?_
    have hL6 := hL.stay y6 hoff
    have hm2 : ∀ p ∈ ps, -2 ≤ p.1 := fun p hp => (hps p hp).1
    obtain ⟨ts, dg, hp, e⟩ := c_sum_of deg hlen hm2
    obtain ⟨hv, hlow⟩ := put_facts hps hlen (by omega) hdeg hp
    have hlow2 : D.lows (ts.map pairD) = true := by
      simp only [sumD, D.low, D.lows, Bool.and_eq_true] at hlow
      exact hlow.1
    have hdg2 := hp.degree
    have habs := hps.abs hlen
    simp [ev_v, hL6.tuple, e]
    refine wp_near (by have := hp.len; omega) hp.ok (fun t ht => by have := hv t ht; omega) hlow2 (by omega) fun S7 xs hgl hxl hlen7 hold hat => ?_
    have d7 : Deck S7 1 0 := by
      obtain ⟨⟨cs, a, b, h1, h2⟩, ne⟩ := id d6
      have := d6.lt
      exact ⟨⟨cs, a, b, by rw [hold _ this.1]; exact h1, by rw [hold _ this.2]; exact h2⟩, ne⟩
    have hL7 : IsL S7 dp (ps.map pairD) := by
      rcases hL6 with h | ⟨a, h1, h2⟩
      · exact .inl h
      · exact .inr ⟨a, h1, by rw [hold _ (List.getElem?_eq_some_iff.mp h2).1]; exact h2⟩
    have sq : seqW S7 (.adr S6.length) = some ⟨xs, [(S6.length, .lst xs)]⟩ := by simp [seqW, tupW, lstW, hat]
    simp [sq]
    obtain ⟨P2, hP2⟩ : ∃ P : Nat → Env → Store → Prop, P = fun i ρ S' => ∃ x8, ρ = [some (.scr (ns.map D.int)), some (.adr 1), some d, some (.int (1 + v)), some dp, some (.int cn), some (.int deg), some (sumD ts dg), x8, x9] ∧ S' = S7 := ⟨_, rfl⟩
    refine wp_for (w := ⟨xs, [(S6.length, .lst xs)]⟩) P2 ?_ (fun j ρ S' hp => by
      rw [hP2] at hp
      obtain ⟨_, _, rfl⟩ := hp
      simp [Ws.ok, hat]) ?_ ?_
    · rw [hP2]; exact ⟨x8, rfl, rfl⟩
    · intro j x ρ S' hx hp
      rw [hP2] at hp
      obtain ⟨x8, rfl, rfl⟩ := hp
      refine ⟨_, rfl, ?_⟩
      obtain ⟨g1, g2⟩ := hgl x (List.mem_of_getElem? hx)
      have q1 := fun S => c_is_sum x g1 S
      have q2 := fun S => c_law_is_sum x g1 S
      rw [← sum_law g2] at q2
      unfold u_law_2
      simp [ev_v, k_is_sum, q1, q2, c_same_bl]
      rw [hP2]
      exact ⟨_, rfl, rfl⟩
    · intro ρ S' hp
      rw [hP2] at hp
      obtain ⟨x8, rfl, rfl⟩ := hp
      simp [ev_v]
      refine wp_pick d7 (by omega) (by omega) fun o S8 h6 h7 d8 y8 => ?_
      have hL8 := hL7.stay y8 hoff
      obtain ⟨odd, ho, hom⟩ := atI_lt (xs := [D.non, .lst [], .tup [.tup [.int 0]], .tup [.tup [.int 0, .int 1, .int 1]], .tup [.lst [.int 0, .int 1]], .tup [.tup [.int (-3), .int 1]], .tup [.tup [.int 0, .non]], .tup [.tup [.int 0, .bl true]], .tup [.tup [.bl true, .int 1]], .tup [.non]]) h6 (by simpa using h7)
      have hodd : odd.good = true ∧ pairsD odd = false := by
        simp only [List.mem_cons, List.not_mem_nil, or_false] at hom
        rcases hom with rfl | rfl | rfl | rfl | rfl | rfl | rfl | rfl | rfl | rfl <;> exact ⟨rfl, rfl⟩
      simp [ho]
      have r1 := fun S => refused1 (e := .non) hodd.1 rfl hodd.2 S
      have r3 := fun S => refused1 (e := .int 1) hodd.1 rfl hodd.2 S
      simp [r1, hL8.tuple]
      refine wp_pick d8 (by omega) (by omega) fun z S9 h8 h9 d9 y9 => ?_
      obtain ⟨bad, hb1, hb2⟩ := atI_lt (xs := [D.non, .bl true, .str "1"]) h8 (by simpa using h9)
      have hbad : bad.good = true ∧ bad.isI = false := by
        simp only [List.mem_cons, List.not_mem_nil, or_false] at hb2
        rcases hb2 with rfl | rfl | rfl <;> exact ⟨rfl, rfl⟩
      have r2 := fun S => refused2 hlen hm2 hbad.1 hbad.2 S
      simp [hb1, r2, r3, ne_strs3]
      rw [hP]
      exact ⟨_, _, _, _, _, _, _, _, rfl, d9⟩
  · intro ρ S' hp
    rw [hP] at hp
    obtain ⟨x2, x3, x4, x5, x6, x7, x8, x9, rfl, d1⟩ := hp
    simp
    unfold t_law_7
    simp [ev_v]
    refine wp_pick d1 (by omega) (by omega) fun v S2 h0 h1 d2 y2 => ?_
    simp
    unfold t_law_8
    simp [ev_v]
    refine wp_pairs d2 (by omega) (by omega) fun S3 a ps d3 y3 ha hc hlen hps => ?_
    have hoff := d2.off ha
    have hL : IsL S3 (.adr a) (ps.map pairD) := .inr ⟨a, rfl, hc⟩
    unfold t_law_9
    simp [ev_v]
    refine wp_right d3 (by omega) hL (fun b hb => by cases hb; exact hoff) (by omega) hps (by omega) fun S4 d4 y4 => ?_
    have hL4 := hL.stay y4 (fun b hb => by cases hb; exact hoff)
    have at1 : ∀ S, binV .add S (.tup (ps.map pairD)) (.tup [.tup [.int 0, .int 1]]) = .ok (.tup ((ps ++ [(0, 1)]).map pairD)) S := fun S => by
      rw [add_tup (by simp; omega)]; simp [pairD]
    have e1 := fun S => refused1 (d := .tup ((ps ++ [(0, 1)]).map pairD)) (e := .int 7) (by simp [D.good, D.goods, goods_pairs, goods_append, pairD]; omega) rfl (by simp only [pairsD, List.length_map, List.length_append, List.length_singleton]; rw [decide_eq_false (by omega)]; rfl) S
    simp [hL4.tuple, at1, e1, eq_str, -List.map_append]
    rw [hQ]
theorem law_promise {K : PySem.W.Frag} {mg : PySem.Str → Option PySem.Value} {vs : List L2.V} {H : L2.Hp} {Q : L2.VK} {E : L2.XK} (h : PX.spLaw K vs H Q E) : spFn K mg f_law vs H Q E := promise rfl law_true h
end LW

/-! the end, printed by gen.py -/
namespace LW
open PySem L2 PX
theorem all_mk {P : Program} {w : World} {K : PySem.W.Frag} {h : Heap} {mg : Str → Option Value} {fa f0 f1 f2 f3 f4 f5 f6 f7 f8 f9 f10 f11 f12 f13 f14 f15 f16 f17 f18 f19 f20 f21 f22 f23 f24 f25 f26 f27 C_BadSum C_BadOther C_BadPairs C_BadDegree : Addr} (X : K.In h) (G : h.Ns mainGlobals mg) (hfa : mg "law" = some (.ref fa))
    {od0 an0 od1 an1 od2 an2 od3 an3 od4 an4 od5 an5 od6 an6 od7 an7 od8 an8 od9 an9 od10 an10 od11 an11 od12 an12 od13 an13 od14 an14 od15 an15 od16 an16 od17 an17 od18 an18 od19 an19 od20 an20 od21 an21 od22 an22 od23 an23 od24 an24 od25 an25 od26 an26 od27 an27 : Option Addr} {sl0 sl1 sl2 sl3 sl4 sl5 sl6 sl7 sl8 sl9 sl10 sl11 sl12 sl13 sl14 sl15 sl16 sl17 sl18 sl19 sl20 sl21 sl22 sl23 sl24 sl25 sl26 sl27 : Array (Option Value)} {oc0 kV0 dc0 pm0 cd0 ct0 oc1 kV1 dc1 pm1 cd1 ct1 oc2 kV2 dc2 pm2 cd2 ct2 oc3 kV3 dc3 pm3 cd3 ct3 oc4 kV4 dc4 pm4 cd4 ct4 oc5 kV5 dc5 pm5 cd5 ct5 oc6 kV6 dc6 pm6 cd6 ct6 oc7 kV7 dc7 pm7 cd7 ct7 oc8 kV8 dc8 pm8 cd8 ct8 oc9 kV9 dc9 pm9 cd9 ct9 oc10 kV10 dc10 pm10 cd10 ct10 oc11 kV11 dc11 pm11 cd11 ct11 oc12 kV12 dc12 pm12 cd12 ct12 oc13 kV13 dc13 pm13 cd13 ct13 oc14 kV14 dc14 pm14 cd14 ct14 oc15 kV15 dc15 pm15 cd15 ct15 oc16 kV16 dc16 pm16 cd16 ct16 oc17 kV17 dc17 pm17 cd17 ct17 oc18 kV18 dc18 pm18 cd18 ct18 oc19 kV19 dc19 pm19 cd19 ct19 oc20 kV20 dc20 pm20 cd20 ct20 oc21 kV21 dc21 pm21 cd21 ct21 oc22 kV22 dc22 pm22 cd22 ct22 oc23 kV23 dc23 pm23 cd23 ct23 oc24 kV24 dc24 pm24 cd24 ct24 oc25 kV25 dc25 pm25 cd25 ct25 oc26 kV26 dc26 pm26 cd26 ct26 oc27 kV27 dc27 pm27 cd27 ct27 : Value}
    {t_ALWAYS : Tok}
    {t_NEVER : Tok}
    {t_MOST_PAIRS : Tok}
    (a0 : PySem.W.nsIn K mainGlobals "is_int" = some (some (.ref f0)))
    (l0 : K.lookup f0 = some ⟨oc0, od0, .func (PySem.W.fnOf "is_int" "is_int" (defArgs s_is_int) (defBody s_is_int) (defScope s_is_int) .none kV0 dc0 pm0 an0 cd0 ct0), sl0⟩)
    (c0 : PySem.W.codeIn K cd0 "is_int" = true) (k0 : PySem.W.keepIn K (.ref f0) = true)
    (a1 : PySem.W.nsIn K mainGlobals "is_row" = some (some (.ref f1)))
    (l1 : K.lookup f1 = some ⟨oc1, od1, .func (PySem.W.fnOf "is_row" "is_row" (defArgs s_is_row) (defBody s_is_row) (defScope s_is_row) .none kV1 dc1 pm1 an1 cd1 ct1), sl1⟩)
    (c1 : PySem.W.codeIn K cd1 "is_row" = true) (k1 : PySem.W.keepIn K (.ref f1) = true)
    (a2 : PySem.W.nsIn K mainGlobals "is_index" = some (some (.ref f2)))
    (l2 : K.lookup f2 = some ⟨oc2, od2, .func (PySem.W.fnOf "is_index" "is_index" (defArgs s_is_index) (defBody s_is_index) (defScope s_is_index) .none kV2 dc2 pm2 an2 cd2 ct2), sl2⟩)
    (c2 : PySem.W.codeIn K cd2 "is_index" = true) (k2 : PySem.W.keepIn K (.ref f2) = true)
    (a3 : PySem.W.nsIn K mainGlobals "is_term" = some (some (.ref f3)))
    (l3 : K.lookup f3 = some ⟨oc3, od3, .func (PySem.W.fnOf "is_term" "is_term" (defArgs s_is_term) (defBody s_is_term) (defScope s_is_term) .none kV3 dc3 pm3 an3 cd3 ct3), sl3⟩)
    (c3 : PySem.W.codeIn K cd3 "is_term" = true) (k3 : PySem.W.keepIn K (.ref f3) = true)
    (a4 : PySem.W.nsIn K mainGlobals "are_terms" = some (some (.ref f4)))
    (l4 : K.lookup f4 = some ⟨oc4, od4, .func (PySem.W.fnOf "are_terms" "are_terms" (defArgs s_are_terms) (defBody s_are_terms) (defScope s_are_terms) .none kV4 dc4 pm4 an4 cd4 ct4), sl4⟩)
    (c4 : PySem.W.codeIn K cd4 "are_terms" = true) (k4 : PySem.W.keepIn K (.ref f4) = true)
    (a5 : PySem.W.nsIn K mainGlobals "is_sum" = some (some (.ref f5)))
    (l5 : K.lookup f5 = some ⟨oc5, od5, .func (PySem.W.fnOf "is_sum" "is_sum" (defArgs s_is_sum) (defBody s_is_sum) (defScope s_is_sum) .none kV5 dc5 pm5 an5 cd5 ct5), sl5⟩)
    (c5 : PySem.W.codeIn K cd5 "is_sum" = true) (k5 : PySem.W.keepIn K (.ref f5) = true)
    (a6 : PySem.W.nsIn K mainGlobals "put_together" = some (some (.ref f6)))
    (l6 : K.lookup f6 = some ⟨oc6, od6, .func (PySem.W.fnOf "put_together" "put_together" (defArgs s_put_together) (defBody s_put_together) (defScope s_put_together) .none kV6 dc6 pm6 an6 cd6 ct6), sl6⟩)
    (c6 : PySem.W.codeIn K cd6 "put_together" = true) (k6 : PySem.W.keepIn K (.ref f6) = true)
    (a7 : PySem.W.nsIn K mainGlobals "is_weighted" = some (some (.ref f7)))
    (l7 : K.lookup f7 = some ⟨oc7, od7, .func (PySem.W.fnOf "is_weighted" "is_weighted" (defArgs s_is_weighted) (defBody s_is_weighted) (defScope s_is_weighted) .none kV7 dc7 pm7 an7 cd7 ct7), sl7⟩)
    (c7 : PySem.W.codeIn K cd7 "is_weighted" = true) (k7 : PySem.W.keepIn K (.ref f7) = true)
    (a8 : PySem.W.nsIn K mainGlobals "sum_of" = some (some (.ref f8)))
    (l8 : K.lookup f8 = some ⟨oc8, od8, .func (PySem.W.fnOf "sum_of" "sum_of" (defArgs s_sum_of) (defBody s_sum_of) (defScope s_sum_of) .none kV8 dc8 pm8 an8 cd8 ct8), sl8⟩)
    (c8 : PySem.W.codeIn K cd8 "sum_of" = true) (k8 : PySem.W.keepIn K (.ref f8) = true)
    (a9 : PySem.W.nsIn K mainGlobals "_law_deck" = some (some (.ref f9)))
    (l9 : K.lookup f9 = some ⟨oc9, od9, .func (PySem.W.fnOf "_law_deck" "_law_deck" (defArgs s__law_deck) (defBody s__law_deck) (defScope s__law_deck) .none kV9 dc9 pm9 an9 cd9 ct9), sl9⟩)
    (c9 : PySem.W.codeIn K cd9 "_law_deck" = true) (k9 : PySem.W.keepIn K (.ref f9) = true)
    (a10 : PySem.W.nsIn K mainGlobals "_law_pick" = some (some (.ref f10)))
    (l10 : K.lookup f10 = some ⟨oc10, od10, .func (PySem.W.fnOf "_law_pick" "_law_pick" (defArgs s__law_pick) (defBody s__law_pick) (defScope s__law_pick) .none kV10 dc10 pm10 an10 cd10 ct10), sl10⟩)
    (c10 : PySem.W.codeIn K cd10 "_law_pick" = true) (k10 : PySem.W.keepIn K (.ref f10) = true)
    (a11 : PySem.W.nsIn K mainGlobals "_law_same" = some (some (.ref f11)))
    (l11 : K.lookup f11 = some ⟨oc11, od11, .func (PySem.W.fnOf "_law_same" "_law_same" (defArgs s__law_same) (defBody s__law_same) (defScope s__law_same) .none kV11 dc11 pm11 an11 cd11 ct11), sl11⟩)
    (c11 : PySem.W.codeIn K cd11 "_law_same" = true) (k11 : PySem.W.keepIn K (.ref f11) = true)
    (a12 : PySem.W.nsIn K mainGlobals "_law_int" = some (some (.ref f12)))
    (l12 : K.lookup f12 = some ⟨oc12, od12, .func (PySem.W.fnOf "_law_int" "_law_int" (defArgs s__law_int) (defBody s__law_int) (defScope s__law_int) .none kV12 dc12 pm12 an12 cd12 ct12), sl12⟩)
    (c12 : PySem.W.codeIn K cd12 "_law_int" = true) (k12 : PySem.W.keepIn K (.ref f12) = true)
    (a13 : PySem.W.nsIn K mainGlobals "_law_is_sum" = some (some (.ref f13)))
    (l13 : K.lookup f13 = some ⟨oc13, od13, .func (PySem.W.fnOf "_law_is_sum" "_law_is_sum" (defArgs s__law_is_sum) (defBody s__law_is_sum) (defScope s__law_is_sum) .none kV13 dc13 pm13 an13 cd13 ct13), sl13⟩)
    (c13 : PySem.W.codeIn K cd13 "_law_is_sum" = true) (k13 : PySem.W.keepIn K (.ref f13) = true)
    (a14 : PySem.W.nsIn K mainGlobals "_law_pairs" = some (some (.ref f14)))
    (l14 : K.lookup f14 = some ⟨oc14, od14, .func (PySem.W.fnOf "_law_pairs" "_law_pairs" (defArgs s__law_pairs) (defBody s__law_pairs) (defScope s__law_pairs) .none kV14 dc14 pm14 an14 cd14 ct14), sl14⟩)
    (c14 : PySem.W.codeIn K cd14 "_law_pairs" = true) (k14 : PySem.W.keepIn K (.ref f14) = true)
    (a15 : PySem.W.nsIn K mainGlobals "_law_near" = some (some (.ref f15)))
    (l15 : K.lookup f15 = some ⟨oc15, od15, .func (PySem.W.fnOf "_law_near" "_law_near" (defArgs s__law_near) (defBody s__law_near) (defScope s__law_near) .none kV15 dc15 pm15 an15 cd15 ct15), sl15⟩)
    (c15 : PySem.W.codeIn K cd15 "_law_near" = true) (k15 : PySem.W.keepIn K (.ref f15) = true)
    (a16 : PySem.W.nsIn K mainGlobals "added" = some (some (.ref f16)))
    (l16 : K.lookup f16 = some ⟨oc16, od16, .func (PySem.W.fnOf "added" "added" (defArgs s_added) (defBody s_added) (defScope s_added) .none kV16 dc16 pm16 an16 cd16 ct16), sl16⟩)
    (c16 : PySem.W.codeIn K cd16 "added" = true) (k16 : PySem.W.keepIn K (.ref f16) = true)
    (a17 : PySem.W.nsIn K mainGlobals "need_sum" = some (some (.ref f17)))
    (l17 : K.lookup f17 = some ⟨oc17, od17, .func (PySem.W.fnOf "need_sum" "need_sum" (defArgs s_need_sum) (defBody s_need_sum) (defScope s_need_sum) .none kV17 dc17 pm17 an17 cd17 ct17), sl17⟩)
    (c17 : PySem.W.codeIn K cd17 "need_sum" = true) (k17 : PySem.W.keepIn K (.ref f17) = true)
    (a18 : PySem.W.nsIn K mainGlobals "add" = some (some (.ref f18)))
    (l18 : K.lookup f18 = some ⟨oc18, od18, .func (PySem.W.fnOf "add" "add" (defArgs s_add) (defBody s_add) (defScope s_add) .none kV18 dc18 pm18 an18 cd18 ct18), sl18⟩)
    (c18 : PySem.W.codeIn K cd18 "add" = true) (k18 : PySem.W.keepIn K (.ref f18) = true)
    (a19 : PySem.W.nsIn K mainGlobals "total" = some (some (.ref f19)))
    (l19 : K.lookup f19 = some ⟨oc19, od19, .func (PySem.W.fnOf "total" "total" (defArgs s_total) (defBody s_total) (defScope s_total) .none kV19 dc19 pm19 an19 cd19 ct19), sl19⟩)
    (c19 : PySem.W.codeIn K cd19 "total" = true) (k19 : PySem.W.keepIn K (.ref f19) = true)
    (a20 : PySem.W.nsIn K mainGlobals "negated" = some (some (.ref f20)))
    (l20 : K.lookup f20 = some ⟨oc20, od20, .func (PySem.W.fnOf "negated" "negated" (defArgs s_negated) (defBody s_negated) (defScope s_negated) .none kV20 dc20 pm20 an20 cd20 ct20), sl20⟩)
    (c20 : PySem.W.codeIn K cd20 "negated" = true) (k20 : PySem.W.keepIn K (.ref f20) = true)
    (a21 : PySem.W.nsIn K mainGlobals "not_of" = some (some (.ref f21)))
    (l21 : K.lookup f21 = some ⟨oc21, od21, .func (PySem.W.fnOf "not_of" "not_of" (defArgs s_not_of) (defBody s_not_of) (defScope s_not_of) .none kV21 dc21 pm21 an21 cd21 ct21), sl21⟩)
    (c21 : PySem.W.codeIn K cd21 "not_of" = true) (k21 : PySem.W.keepIn K (.ref f21) = true)
    (a22 : PySem.W.nsIn K mainGlobals "_law_true" = some (some (.ref f22)))
    (l22 : K.lookup f22 = some ⟨oc22, od22, .func (PySem.W.fnOf "_law_true" "_law_true" (defArgs s__law_true) (defBody s__law_true) (defScope s__law_true) .none kV22 dc22 pm22 an22 cd22 ct22), sl22⟩)
    (c22 : PySem.W.codeIn K cd22 "_law_true" = true) (k22 : PySem.W.keepIn K (.ref f22) = true)
    (a23 : PySem.W.nsIn K mainGlobals "_law_gap" = some (some (.ref f23)))
    (l23 : K.lookup f23 = some ⟨oc23, od23, .func (PySem.W.fnOf "_law_gap" "_law_gap" (defArgs s__law_gap) (defBody s__law_gap) (defScope s__law_gap) .none kV23 dc23 pm23 an23 cd23 ct23), sl23⟩)
    (c23 : PySem.W.codeIn K cd23 "_law_gap" = true) (k23 : PySem.W.keepIn K (.ref f23) = true)
    (a24 : PySem.W.nsIn K mainGlobals "_law_comes_to" = some (some (.ref f24)))
    (l24 : K.lookup f24 = some ⟨oc24, od24, .func (PySem.W.fnOf "_law_comes_to" "_law_comes_to" (defArgs s__law_comes_to) (defBody s__law_comes_to) (defScope s__law_comes_to) .none kV24 dc24 pm24 an24 cd24 ct24), sl24⟩)
    (c24 : PySem.W.codeIn K cd24 "_law_comes_to" = true) (k24 : PySem.W.keepIn K (.ref f24) = true)
    (a25 : PySem.W.nsIn K mainGlobals "_law_right" = some (some (.ref f25)))
    (l25 : K.lookup f25 = some ⟨oc25, od25, .func (PySem.W.fnOf "_law_right" "_law_right" (defArgs s__law_right) (defBody s__law_right) (defScope s__law_right) .none kV25 dc25 pm25 an25 cd25 ct25), sl25⟩)
    (c25 : PySem.W.codeIn K cd25 "_law_right" = true) (k25 : PySem.W.keepIn K (.ref f25) = true)
    (a26 : PySem.W.nsIn K mainGlobals "_law_refused" = some (some (.ref f26)))
    (l26 : K.lookup f26 = some ⟨oc26, od26, .func (PySem.W.fnOf "_law_refused" "_law_refused" (defArgs s__law_refused) (defBody s__law_refused) (defScope s__law_refused) .none kV26 dc26 pm26 an26 cd26 ct26), sl26⟩)
    (c26 : PySem.W.codeIn K cd26 "_law_refused" = true) (k26 : PySem.W.keepIn K (.ref f26) = true)
    (a27 : PySem.W.nsIn K mainGlobals "law" = some (some (.ref f27)))
    (l27 : K.lookup f27 = some ⟨oc27, od27, .func (PySem.W.fnOf "law" "law" (defArgs s_law) (defBody s_law) (defScope s_law) .none kV27 dc27 pm27 an27 cd27 ct27), sl27⟩)
    (c27 : PySem.W.codeIn K cd27 "law" = true) (k27 : PySem.W.keepIn K (.ref f27) = true)
    (ca_BadSum : PySem.W.nsIn K mainGlobals "BadSum" = some (some (.ref C_BadSum)))
    (ca_BadOther : PySem.W.nsIn K mainGlobals "BadOther" = some (some (.ref C_BadOther)))
    (ca_BadPairs : PySem.W.nsIn K mainGlobals "BadPairs" = some (some (.ref C_BadPairs)))
    (ca_BadDegree : PySem.W.nsIn K mainGlobals "BadDegree" = some (some (.ref C_BadDegree)))
    (cq_BadSum : PySem.W.excIn K C_BadSum [.type "ValueError", .type "Exception", .type "BaseException", .type "object"] "ValueError.__new__" = true) (ck_BadSum : PySem.W.keepIn K (.ref C_BadSum) = true)
    (cs_BadSum : PySem.W.subIn K (.ref C_BadSum) (.type "BaseException") = some true) (ct_BadSum : PySem.W.typeIn K (.ref C_BadSum) = some (.type "type")) (ci_BadSum : PySem.W.isClsIn K C_BadSum = true)
    (cq_BadOther : PySem.W.excIn K C_BadOther [.type "ValueError", .type "Exception", .type "BaseException", .type "object"] "ValueError.__new__" = true) (ck_BadOther : PySem.W.keepIn K (.ref C_BadOther) = true)
    (cs_BadOther : PySem.W.subIn K (.ref C_BadOther) (.type "BaseException") = some true) (ct_BadOther : PySem.W.typeIn K (.ref C_BadOther) = some (.type "type")) (ci_BadOther : PySem.W.isClsIn K C_BadOther = true)
    (cq_BadPairs : PySem.W.excIn K C_BadPairs [.type "ValueError", .type "Exception", .type "BaseException", .type "object"] "ValueError.__new__" = true) (ck_BadPairs : PySem.W.keepIn K (.ref C_BadPairs) = true)
    (cs_BadPairs : PySem.W.subIn K (.ref C_BadPairs) (.type "BaseException") = some true) (ct_BadPairs : PySem.W.typeIn K (.ref C_BadPairs) = some (.type "type")) (ci_BadPairs : PySem.W.isClsIn K C_BadPairs = true)
    (cq_BadDegree : PySem.W.excIn K C_BadDegree [.type "ValueError", .type "Exception", .type "BaseException", .type "object"] "ValueError.__new__" = true) (ck_BadDegree : PySem.W.keepIn K (.ref C_BadDegree) = true)
    (cs_BadDegree : PySem.W.subIn K (.ref C_BadDegree) (.type "BaseException") = some true) (ct_BadDegree : PySem.W.typeIn K (.ref C_BadDegree) = some (.type "type")) (ci_BadDegree : PySem.W.isClsIn K C_BadDegree = true)
    (ex_BadPairs_BadPairs : PySem.W.subIn K (.ref C_BadPairs) (.ref C_BadPairs) = some true)
    (ex_BadDegree_BadPairs : PySem.W.subIn K (.ref C_BadDegree) (.ref C_BadPairs) = some false)
    (ex_BadPairs_BadDegree : PySem.W.subIn K (.ref C_BadPairs) (.ref C_BadDegree) = some false)
    (ex_BadDegree_BadDegree : PySem.W.subIn K (.ref C_BadDegree) (.ref C_BadDegree) = some true)
    (gc_ALWAYS : PySem.W.nsIn K mainGlobals "ALWAYS" = some (some (.int (-1) t_ALWAYS)))
    (gc_NEVER : PySem.W.nsIn K mainGlobals "NEVER" = some (some (.int (-2) t_NEVER)))
    (gc_MOST_PAIRS : PySem.W.nsIn K mainGlobals "MOST_PAIRS" = some (some (.int (1000) t_MOST_PAIRS)))
    (z_isinstance : PySem.W.nsIn K mainGlobals "isinstance" = some none)
    (z_int : PySem.W.nsIn K mainGlobals "int" = some none)
    (z_bool : PySem.W.nsIn K mainGlobals "bool" = some none)
    (z_tuple : PySem.W.nsIn K mainGlobals "tuple" = some none)
    (z_len : PySem.W.nsIn K mainGlobals "len" = some none)
    (z_all : PySem.W.nsIn K mainGlobals "all" = some none)
    (z_zip : PySem.W.nsIn K mainGlobals "zip" = some none)
    (z_sorted : PySem.W.nsIn K mainGlobals "sorted" = some none)
    (z_range : PySem.W.nsIn K mainGlobals "range" = some none)
    (z_str : PySem.W.nsIn K mainGlobals "str" = some none)
    (z_min : PySem.W.nsIn K mainGlobals "min" = some none)
    (z_list : PySem.W.nsIn K mainGlobals "list" = some none)
    (z_sum : PySem.W.nsIn K mainGlobals "sum" = some none)
    : ∃ fd : FuncData, (∀ (s : Shared) (v : Value), BindsTo s fd ⟨[v], []⟩ [("script", v)]) ∧ ∀ base : Heap, K.In base → base.Ns mainGlobals mg → FnOk P w K mg base (L2.CX P w) 9 fa fd ["script"] (spLaw K) := by
  have e := hfa.symm.trans (PySem.W.mg_of X G a27)
  cases e
  have F0 := fun_mk (st := s_is_int) l0 c0 k0
  have F1 := fun_mk (st := s_is_row) l1 c1 k1
  have F2 := fun_mk (st := s_is_index) l2 c2 k2
  have F3 := fun_mk (st := s_is_term) l3 c3 k3
  have F4 := fun_mk (st := s_are_terms) l4 c4 k4
  have F5 := fun_mk (st := s_is_sum) l5 c5 k5
  have F6 := fun_mk (st := s_put_together) l6 c6 k6
  have F7 := fun_mk (st := s_is_weighted) l7 c7 k7
  have F8 := fun_mk (st := s_sum_of) l8 c8 k8
  have F9 := fun_mk (st := s__law_deck) l9 c9 k9
  have F10 := fun_mk (st := s__law_pick) l10 c10 k10
  have F11 := fun_mk (st := s__law_same) l11 c11 k11
  have F12 := fun_mk (st := s__law_int) l12 c12 k12
  have F13 := fun_mk (st := s__law_is_sum) l13 c13 k13
  have F14 := fun_mk (st := s__law_pairs) l14 c14 k14
  have F15 := fun_mk (st := s__law_near) l15 c15 k15
  have F16 := fun_mk (st := s_added) l16 c16 k16
  have F17 := fun_mk (st := s_need_sum) l17 c17 k17
  have F18 := fun_mk (st := s_add) l18 c18 k18
  have F19 := fun_mk (st := s_total) l19 c19 k19
  have F20 := fun_mk (st := s_negated) l20 c20 k20
  have F21 := fun_mk (st := s_not_of) l21 c21 k21
  have F22 := fun_mk (st := s__law_true) l22 c22 k22
  have F23 := fun_mk (st := s__law_gap) l23 c23 k23
  have F24 := fun_mk (st := s__law_comes_to) l24 c24 k24
  have F25 := fun_mk (st := s__law_right) l25 c25 k25
  have F26 := fun_mk (st := s__law_refused) l26 c26 k26
  have F27 := fun_mk (st := s_law) l27 c27 k27
  have zz_isinstance : mg "isinstance" = none := PySem.W.mg_none_of X G z_isinstance
  have zz_int : mg "int" = none := PySem.W.mg_none_of X G z_int
  have zz_bool : mg "bool" = none := PySem.W.mg_none_of X G z_bool
  have zz_tuple : mg "tuple" = none := PySem.W.mg_none_of X G z_tuple
  have zz_len : mg "len" = none := PySem.W.mg_none_of X G z_len
  have zz_all : mg "all" = none := PySem.W.mg_none_of X G z_all
  have zz_zip : mg "zip" = none := PySem.W.mg_none_of X G z_zip
  have zz_sorted : mg "sorted" = none := PySem.W.mg_none_of X G z_sorted
  have zz_range : mg "range" = none := PySem.W.mg_none_of X G z_range
  have zz_str : mg "str" = none := PySem.W.mg_none_of X G z_str
  have zz_min : mg "min" = none := PySem.W.mg_none_of X G z_min
  have zz_list : mg "list" = none := PySem.W.mg_none_of X G z_list
  have zz_sum : mg "sum" = none := PySem.W.mg_none_of X G z_sum
  have cm_BadSum : mg "BadSum" = some (.ref C_BadSum) := PySem.W.mg_of X G ca_BadSum
  have cm_BadOther : mg "BadOther" = some (.ref C_BadOther) := PySem.W.mg_of X G ca_BadOther
  have cm_BadPairs : mg "BadPairs" = some (.ref C_BadPairs) := PySem.W.mg_of X G ca_BadPairs
  have cm_BadDegree : mg "BadDegree" = some (.ref C_BadDegree) := PySem.W.mg_of X G ca_BadDegree
  have cg_BadSum : ClsGood K mg "BadSum" := ⟨C_BadSum, _, _, _, _, PySem.F.excBase_ValueError, cq_BadSum, cm_BadSum, ck_BadSum, cs_BadSum, ct_BadSum⟩
  have cg_BadOther : ClsGood K mg "BadOther" := ⟨C_BadOther, _, _, _, _, PySem.F.excBase_ValueError, cq_BadOther, cm_BadOther, ck_BadOther, cs_BadOther, ct_BadOther⟩
  have cg_BadPairs : ClsGood K mg "BadPairs" := ⟨C_BadPairs, _, _, _, _, PySem.F.excBase_ValueError, cq_BadPairs, cm_BadPairs, ck_BadPairs, cs_BadPairs, ct_BadPairs⟩
  have cg_BadDegree : ClsGood K mg "BadDegree" := ⟨C_BadDegree, _, _, _, _, PySem.F.excBase_ValueError, cq_BadDegree, cm_BadDegree, ck_BadDegree, cs_BadDegree, ct_BadDegree⟩
  have gg_ALWAYS : GlobOk K mg "ALWAYS" c_ALWAYS := ⟨.int (-1), _, PySem.W.mg_of X G gc_ALWAYS, ⟨_, rfl⟩, fun _ _ _ => .int _⟩
  have gg_NEVER : GlobOk K mg "NEVER" c_NEVER := ⟨.int (-2), _, PySem.W.mg_of X G gc_NEVER, ⟨_, rfl⟩, fun _ _ _ => .int _⟩
  have gg_MOST_PAIRS : GlobOk K mg "MOST_PAIRS" c_MOST_PAIRS := ⟨.int (1000), _, PySem.W.mg_of X G gc_MOST_PAIRS, ⟨_, rfl⟩, fun _ _ _ => .int _⟩
  refine ⟨PySem.W.fnOf "law" "law" (defArgs s_law) (defBody s_law) (defScope s_law) .none kV27 dc27 pm27 an27 cd27 ct27, fun s v => .of_eq rfl, fun base _ _ => ?_⟩
  have n0 : HasP P w K mg base 0 (ndB b_is_int) := show HasP P w K mg base 0 [.bn "isinstance", .bn "int", .bn "isinstance", .bn "bool"] from (HasP.cons zz_isinstance (HasP.cons zz_int (HasP.cons zz_isinstance (HasP.cons zz_bool HasP.nil))))
  have o0 : FnOk P w K mg base (L2.CX P w) 1 f0 _ f_is_int.ps (spFn K mg f_is_int) := fn_ok (f := f_is_int) F0 sc_is_int b_is_int ck_is_int n0 (fun _ _ _ _ => ⟨_, rfl⟩)
  have g0 : FnGood P w K mg base 1 f_is_int := fn_good F0 o0 (PySem.W.mg_of X G a0) (F0.binds (ps := ["thing"]) fun _ _ _ _ _ _ us hl => match us, hl with | [_], _ => rfl) kps_nil
  have n1 : HasP P w K mg base 0 (ndB b_is_row) := show HasP P w K mg base 0 [.bn "isinstance", .bn "tuple", .bn "len"] from (HasP.cons zz_isinstance (HasP.cons zz_tuple (HasP.cons zz_len HasP.nil)))
  have o1 : FnOk P w K mg base (L2.CX P w) 1 f1 _ f_is_row.ps (spFn K mg f_is_row) := fn_ok (f := f_is_row) F1 sc_is_row b_is_row ck_is_row n1 (fun _ _ _ _ => ⟨_, rfl⟩)
  have g1 : FnGood P w K mg base 1 f_is_row := fn_good F1 o1 (PySem.W.mg_of X G a1) (F1.binds (ps := ["thing", "low", "high"]) fun _ _ _ _ _ _ us hl => match us, hl with | [_, _, _], _ => rfl) kps_nil
  have n2 : HasP P w K mg base 1 (ndB b_is_index) := show HasP P w K mg base 1 [.fn f_is_int] from (HasP.cons (g0.mono (by decide)) HasP.nil)
  have o2 : FnOk P w K mg base (L2.CX P w) 2 f2 _ f_is_index.ps (spFn K mg f_is_index) := fn_ok (f := f_is_index) F2 sc_is_index b_is_index ck_is_index n2 (fun _ _ _ _ => ⟨_, rfl⟩)
  have g2 : FnGood P w K mg base 2 f_is_index := fn_good F2 o2 (PySem.W.mg_of X G a2) (F2.binds (ps := ["thing"]) fun _ _ _ _ _ _ us hl => match us, hl with | [_], _ => rfl) kps_nil
  have n3 : HasP P w K mg base 2 (ndB b_is_term) := show HasP P w K mg base 2 [.fn f_is_row, .fn f_is_index, .fn f_is_int] from (HasP.cons (g1.mono (by decide)) (HasP.cons (g2.mono (by decide)) (HasP.cons (g0.mono (by decide)) HasP.nil)))
  have o3 : FnOk P w K mg base (L2.CX P w) 3 f3 _ f_is_term.ps (spFn K mg f_is_term) := fn_ok (f := f_is_term) F3 sc_is_term b_is_term ck_is_term n3 (fun _ _ _ _ => ⟨_, rfl⟩)
  have g3 : FnGood P w K mg base 3 f_is_term := fn_good F3 o3 (PySem.W.mg_of X G a3) (F3.binds (ps := ["thing"]) fun _ _ _ _ _ _ us hl => match us, hl with | [_], _ => rfl) kps_nil
  have n4 : HasP P w K mg base 3 (ndB b_are_terms) := show HasP P w K mg base 3 [.bn "isinstance", .bn "tuple", .bn "all", .fn f_is_term, .bn "all", .bn "zip"] from (HasP.cons zz_isinstance (HasP.cons zz_tuple (HasP.cons zz_all (HasP.cons (g3.mono (by decide)) (HasP.cons zz_all (HasP.cons zz_zip HasP.nil))))))
  have o4 : FnOk P w K mg base (L2.CX P w) 4 f4 _ f_are_terms.ps (spFn K mg f_are_terms) := fn_ok (f := f_are_terms) F4 sc_are_terms b_are_terms ck_are_terms n4 (fun _ _ _ _ => ⟨_, rfl⟩)
  have g4 : FnGood P w K mg base 4 f_are_terms := fn_good F4 o4 (PySem.W.mg_of X G a4) (F4.binds (ps := ["thing"]) fun _ _ _ _ _ _ us hl => match us, hl with | [_], _ => rfl) kps_nil
  have n5 : HasP P w K mg base 4 (ndB b_is_sum) := show HasP P w K mg base 4 [.fn f_is_row, .fn f_are_terms, .fn f_is_int] from (HasP.cons (g1.mono (by decide)) (HasP.cons (g4.mono (by decide)) (HasP.cons (g0.mono (by decide)) HasP.nil)))
  have o5 : FnOk P w K mg base (L2.CX P w) 5 f5 _ f_is_sum.ps (spFn K mg f_is_sum) := fn_ok (f := f_is_sum) F5 sc_is_sum b_is_sum ck_is_sum n5 (fun _ _ _ _ => ⟨_, rfl⟩)
  have g5 : FnGood P w K mg base 5 f_is_sum := fn_good F5 o5 (PySem.W.mg_of X G a5) (F5.binds (ps := ["thing"]) fun _ _ _ _ _ _ us hl => match us, hl with | [_], _ => rfl) (kps_cons (fun s us ws h1 h2 => match us, ws, h1, h2 with | [], [_], _, _ => .of_eq rfl) kps_nil)
  have n6 : HasP P w K mg base 0 (ndB b_put_together) := show HasP P w K mg base 0 [.gl "ALWAYS" c_ALWAYS, .bn "sorted", .bn "tuple"] from (HasP.cons gg_ALWAYS (HasP.cons zz_sorted (HasP.cons zz_tuple HasP.nil)))
  have o6 : FnOk P w K mg base (L2.CX P w) 1 f6 _ f_put_together.ps (spFn K mg f_put_together) := fn_ok (f := f_put_together) F6 sc_put_together b_put_together ck_put_together n6 (fun _ _ _ _ => ⟨_, rfl⟩)
  have g6 : FnGood P w K mg base 1 f_put_together := fn_good F6 o6 (PySem.W.mg_of X G a6) (F6.binds (ps := ["pairs", "degree"]) fun _ _ _ _ _ _ us hl => match us, hl with | [_, _], _ => rfl) kps_nil
  have n7 : HasP P w K mg base 1 (ndB b_is_weighted) := show HasP P w K mg base 1 [.fn f_is_row, .fn f_is_int, .gl "NEVER" c_NEVER, .fn f_is_int] from (HasP.cons (g1.mono (by decide)) (HasP.cons (g0.mono (by decide)) (HasP.cons gg_NEVER (HasP.cons (g0.mono (by decide)) HasP.nil))))
  have o7 : FnOk P w K mg base (L2.CX P w) 2 f7 _ f_is_weighted.ps (spFn K mg f_is_weighted) := fn_ok (f := f_is_weighted) F7 sc_is_weighted b_is_weighted ck_is_weighted n7 (fun _ _ _ _ => ⟨_, rfl⟩)
  have g7 : FnGood P w K mg base 2 f_is_weighted := fn_good F7 o7 (PySem.W.mg_of X G a7) (F7.binds (ps := ["thing"]) fun _ _ _ _ _ _ us hl => match us, hl with | [_], _ => rfl) kps_nil
  have n8 : HasP P w K mg base 2 (ndB b_sum_of) := show HasP P w K mg base 2 [.fn f_is_row, .gl "MOST_PAIRS" c_MOST_PAIRS, .bn "all", .fn f_is_weighted, .cl "BadPairs", .fn f_is_int, .cl "BadDegree", .fn f_put_together] from (HasP.cons (g1.mono (by decide)) (HasP.cons gg_MOST_PAIRS (HasP.cons zz_all (HasP.cons (g7.mono (by decide)) (HasP.cons cg_BadPairs (HasP.cons (g0.mono (by decide)) (HasP.cons cg_BadDegree (HasP.cons (g6.mono (by decide)) HasP.nil))))))))
  have o8 : FnOk P w K mg base (L2.CX P w) 3 f8 _ f_sum_of.ps (spFn K mg f_sum_of) := fn_ok (f := f_sum_of) F8 sc_sum_of b_sum_of ck_sum_of n8 (fun _ _ _ _ => ⟨_, rfl⟩)
  have g8 : FnGood P w K mg base 3 f_sum_of := fn_good F8 o8 (PySem.W.mg_of X G a8) (F8.binds (ps := ["pairs", "degree"]) fun _ _ _ _ _ _ us hl => match us, hl with | [_, _], _ => rfl) (kps_cons (fun s us ws h1 h2 => match us, ws, h1, h2 with | [], [_, _], _, _ => .of_eq rfl) kps_nil)
  have n9 : HasP P w K mg base 0 (ndB b__law_deck) := show HasP P w K mg base 0 [.bn "int"] from (HasP.cons zz_int HasP.nil)
  have o9 : FnOk P w K mg base (L2.CX P w) 1 f9 _ f__law_deck.ps (spFn K mg f__law_deck) := fn_ok (f := f__law_deck) F9 sc__law_deck b__law_deck ck__law_deck n9 (fun _ _ _ _ => ⟨_, rfl⟩)
  have g9 : FnGood P w K mg base 1 f__law_deck := fn_good F9 o9 (PySem.W.mg_of X G a9) (F9.binds (ps := ["script"]) fun _ _ _ _ _ _ us hl => match us, hl with | [_], _ => rfl) kps_nil
  have n10 : HasP P w K mg base 0 (ndB b__law_pick) := show HasP P w K mg base 0 [.bn "int", .bn "int", .bn "int", .bn "int", .bn "int"] from (HasP.cons zz_int (HasP.cons zz_int (HasP.cons zz_int (HasP.cons zz_int (HasP.cons zz_int HasP.nil)))))
  have o10 : FnOk P w K mg base (L2.CX P w) 1 f10 _ f__law_pick.ps (spFn K mg f__law_pick) := fn_ok (f := f__law_pick) F10 sc__law_pick b__law_pick ck__law_pick n10 (fun _ _ _ _ => ⟨_, rfl⟩)
  have g10 : FnGood P w K mg base 1 f__law_pick := fn_good F10 o10 (PySem.W.mg_of X G a10) (F10.binds (ps := ["deck", "many"]) fun _ _ _ _ _ _ us hl => match us, hl with | [_, _], _ => rfl) kps_nil
  have n11 : HasP P w K mg base 0 (ndB b__law_same) := show HasP P w K mg base 0 [.bn "isinstance", .bn "tuple", .bn "isinstance", .bn "tuple", .bn "len", .bn "len", .bn "range", .bn "len", .bn "isinstance", .bn "bool", .bn "isinstance", .bn "bool", .bn "isinstance", .bn "str", .bn "isinstance", .bn "str", .bn "isinstance", .bn "int", .bn "isinstance", .bn "bool"] from (HasP.cons zz_isinstance (HasP.cons zz_tuple (HasP.cons zz_isinstance (HasP.cons zz_tuple (HasP.cons zz_len (HasP.cons zz_len (HasP.cons zz_range (HasP.cons zz_len (HasP.cons zz_isinstance (HasP.cons zz_bool (HasP.cons zz_isinstance (HasP.cons zz_bool (HasP.cons zz_isinstance (HasP.cons zz_str (HasP.cons zz_isinstance (HasP.cons zz_str (HasP.cons zz_isinstance (HasP.cons zz_int (HasP.cons zz_isinstance (HasP.cons zz_bool HasP.nil))))))))))))))))))))
  have o11 : FnOk P w K mg base (L2.CX P w) 1 f11 _ f__law_same.ps (spFn K mg f__law_same) := fn_ok (f := f__law_same) F11 sc__law_same b__law_same ck__law_same n11 (fun _ _ _ _ => ⟨_, rfl⟩)
  have g11 : FnGood P w K mg base 1 f__law_same := fn_good F11 o11 (PySem.W.mg_of X G a11) (F11.binds (ps := ["told", "due"]) fun _ _ _ _ _ _ us hl => match us, hl with | [_, _], _ => rfl) kps_nil
  have n12 : HasP P w K mg base 0 (ndB b__law_int) := show HasP P w K mg base 0 [.bn "isinstance", .bn "int", .bn "isinstance", .bn "bool"] from (HasP.cons zz_isinstance (HasP.cons zz_int (HasP.cons zz_isinstance (HasP.cons zz_bool HasP.nil))))
  have o12 : FnOk P w K mg base (L2.CX P w) 1 f12 _ f__law_int.ps (spFn K mg f__law_int) := fn_ok (f := f__law_int) F12 sc__law_int b__law_int ck__law_int n12 (fun _ _ _ _ => ⟨_, rfl⟩)
  have g12 : FnGood P w K mg base 1 f__law_int := fn_good F12 o12 (PySem.W.mg_of X G a12) (F12.binds (ps := ["thing", "low", "high"]) fun _ _ _ _ _ _ us hl => match us, hl with | [_, _, _], _ => rfl) kps_nil
  have n13 : HasP P w K mg base 1 (ndB b__law_is_sum) := show HasP P w K mg base 1 [.bn "isinstance", .bn "tuple", .bn "len", .bn "isinstance", .bn "tuple", .fn f__law_int, .bn "isinstance", .bn "tuple", .bn "len", .fn f__law_int, .fn f__law_int] from (HasP.cons zz_isinstance (HasP.cons zz_tuple (HasP.cons zz_len (HasP.cons zz_isinstance (HasP.cons zz_tuple (HasP.cons (g12.mono (by decide)) (HasP.cons zz_isinstance (HasP.cons zz_tuple (HasP.cons zz_len (HasP.cons (g12.mono (by decide)) (HasP.cons (g12.mono (by decide)) HasP.nil)))))))))))
  have o13 : FnOk P w K mg base (L2.CX P w) 2 f13 _ f__law_is_sum.ps (spFn K mg f__law_is_sum) := fn_ok (f := f__law_is_sum) F13 sc__law_is_sum b__law_is_sum ck__law_is_sum n13 (fun _ _ _ _ => ⟨_, rfl⟩)
  have g13 : FnGood P w K mg base 2 f__law_is_sum := fn_good F13 o13 (PySem.W.mg_of X G a13) (F13.binds (ps := ["thing"]) fun _ _ _ _ _ _ us hl => match us, hl with | [_], _ => rfl) kps_nil
  have n14 : HasP P w K mg base 1 (ndB b__law_pairs) := show HasP P w K mg base 1 [.fn f__law_pick, .bn "range", .bn "min", .fn f__law_pick, .fn f__law_pick, .bn "range", .fn f__law_pick, .fn f__law_pick, .fn f__law_pick, .fn f__law_pick, .bn "len"] from (HasP.cons (g10.mono (by decide)) (HasP.cons zz_range (HasP.cons zz_min (HasP.cons (g10.mono (by decide)) (HasP.cons (g10.mono (by decide)) (HasP.cons zz_range (HasP.cons (g10.mono (by decide)) (HasP.cons (g10.mono (by decide)) (HasP.cons (g10.mono (by decide)) (HasP.cons (g10.mono (by decide)) (HasP.cons zz_len HasP.nil)))))))))))
  have o14 : FnOk P w K mg base (L2.CX P w) 2 f14 _ f__law_pairs.ps (spFn K mg f__law_pairs) := fn_ok (f := f__law_pairs) F14 sc__law_pairs b__law_pairs ck__law_pairs n14 (fun _ _ _ _ => ⟨_, rfl⟩)
  have g14 : FnGood P w K mg base 2 f__law_pairs := fn_good F14 o14 (PySem.W.mg_of X G a14) (F14.binds (ps := ["deck", "many", "count"]) fun _ _ _ _ _ _ us hl => match us, hl with | [_, _, _], _ => rfl) kps_nil
  have n15 : HasP P w K mg base 0 (ndB b__law_near) := show HasP P w K mg base 0 [.bn "list", .bn "list", .bn "str"] from (HasP.cons zz_list (HasP.cons zz_list (HasP.cons zz_str HasP.nil)))
  have o15 : FnOk P w K mg base (L2.CX P w) 1 f15 _ f__law_near.ps (spFn K mg f__law_near) := fn_ok (f := f__law_near) F15 sc__law_near b__law_near ck__law_near n15 (fun _ _ _ _ => ⟨_, rfl⟩)
  have g15 : FnGood P w K mg base 1 f__law_near := fn_good F15 o15 (PySem.W.mg_of X G a15) (F15.binds (ps := ["one"]) fun _ _ _ _ _ _ us hl => match us, hl with | [_], _ => rfl) kps_nil
  have n16 : HasP P w K mg base 1 (ndB b_added) := show HasP P w K mg base 1 [.fn f_put_together] from (HasP.cons (g6.mono (by decide)) HasP.nil)
  have o16 : FnOk P w K mg base (L2.CX P w) 2 f16 _ f_added.ps (spFn K mg f_added) := fn_ok (f := f_added) F16 sc_added b_added ck_added n16 (fun _ _ _ _ => ⟨_, rfl⟩)
  have g16 : FnGood P w K mg base 2 f_added := fn_good F16 o16 (PySem.W.mg_of X G a16) (F16.binds (ps := ["one", "other"]) fun _ _ _ _ _ _ us hl => match us, hl with | [_, _], _ => rfl) kps_nil
  have n17 : HasP P w K mg base 5 (ndB b_need_sum) := show HasP P w K mg base 5 [.fn f_is_sum, .cl "BadSum"] from (HasP.cons (g5.mono (by decide)) (HasP.cons cg_BadSum HasP.nil))
  have o17 : FnOk P w K mg base (L2.CX P w) 6 f17 _ f_need_sum.ps (spFn K mg f_need_sum) := fn_ok (f := f_need_sum) F17 sc_need_sum b_need_sum ck_need_sum n17 (fun _ _ _ _ => ⟨_, rfl⟩)
  have g17 : FnGood P w K mg base 6 f_need_sum := fn_good F17 o17 (PySem.W.mg_of X G a17) (F17.binds (ps := ["one"]) fun _ _ _ _ _ _ us hl => match us, hl with | [_], _ => rfl) kps_nil
  have n18 : HasP P w K mg base 6 (ndB b_add) := show HasP P w K mg base 6 [.fn f_need_sum, .fn f_is_sum, .cl "BadOther", .fn f_added] from (HasP.cons (g17.mono (by decide)) (HasP.cons (g5.mono (by decide)) (HasP.cons cg_BadOther (HasP.cons (g16.mono (by decide)) HasP.nil))))
  have o18 : FnOk P w K mg base (L2.CX P w) 7 f18 _ f_add.ps (spFn K mg f_add) := fn_ok (f := f_add) F18 sc_add b_add ck_add n18 (fun _ _ _ _ => ⟨_, rfl⟩)
  have g18 : FnGood P w K mg base 7 f_add := fn_good F18 o18 (PySem.W.mg_of X G a18) (F18.binds (ps := ["one", "other"]) fun _ _ _ _ _ _ us hl => match us, hl with | [_, _], _ => rfl) (kps_cons (fun s us ws h1 h2 => match us, ws, h1, h2 with | [], [_, _], _, _ => .of_eq rfl) kps_nil)
  have n19 : HasP P w K mg base 0 (ndB b_total) := show HasP P w K mg base 0 [.bn "sum"] from (HasP.cons zz_sum HasP.nil)
  have o19 : FnOk P w K mg base (L2.CX P w) 1 f19 _ f_total.ps (spFn K mg f_total) := fn_ok (f := f_total) F19 sc_total b_total ck_total n19 (fun _ _ _ _ => ⟨_, rfl⟩)
  have g19 : FnGood P w K mg base 1 f_total := fn_good F19 o19 (PySem.W.mg_of X G a19) (F19.binds (ps := ["one"]) fun _ _ _ _ _ _ us hl => match us, hl with | [_], _ => rfl) kps_nil
  have n20 : HasP P w K mg base 1 (ndB b_negated) := show HasP P w K mg base 1 [.bn "tuple", .bn "sorted", .fn f_total] from (HasP.cons zz_tuple (HasP.cons zz_sorted (HasP.cons (g19.mono (by decide)) HasP.nil)))
  have o20 : FnOk P w K mg base (L2.CX P w) 2 f20 _ f_negated.ps (spFn K mg f_negated) := fn_ok (f := f_negated) F20 sc_negated b_negated ck_negated n20 (fun _ _ _ _ => ⟨_, rfl⟩)
  have g20 : FnGood P w K mg base 2 f_negated := fn_good F20 o20 (PySem.W.mg_of X G a20) (F20.binds (ps := ["one"]) fun _ _ _ _ _ _ us hl => match us, hl with | [_], _ => rfl) kps_nil
  have n21 : HasP P w K mg base 6 (ndB b_not_of) := show HasP P w K mg base 6 [.fn f_need_sum, .fn f_negated] from (HasP.cons (g17.mono (by decide)) (HasP.cons (g20.mono (by decide)) HasP.nil))
  have o21 : FnOk P w K mg base (L2.CX P w) 7 f21 _ f_not_of.ps (spFn K mg f_not_of) := fn_ok (f := f_not_of) F21 sc_not_of b_not_of ck_not_of n21 (fun _ _ _ _ => ⟨_, rfl⟩)
  have g21 : FnGood P w K mg base 7 f_not_of := fn_good F21 o21 (PySem.W.mg_of X G a21) (F21.binds (ps := ["one"]) fun _ _ _ _ _ _ us hl => match us, hl with | [_], _ => rfl) (kps_cons (fun s us ws h1 h2 => match us, ws, h1, h2 with | [], [_], _, _ => .of_eq rfl) kps_nil)
  have n22 : HasP P w K mg base 0 (ndB b__law_true) := show HasP P w K mg base 0 [.bn "int", .bn "int"] from (HasP.cons zz_int (HasP.cons zz_int HasP.nil))
  have o22 : FnOk P w K mg base (L2.CX P w) 1 f22 _ f__law_true.ps (spFn K mg f__law_true) := fn_ok (f := f__law_true) F22 sc__law_true b__law_true ck__law_true n22 (fun _ _ _ _ => ⟨_, rfl⟩)
  have g22 : FnGood P w K mg base 1 f__law_true := fn_good F22 o22 (PySem.W.mg_of X G a22) (F22.binds (ps := ["literal", "row"]) fun _ _ _ _ _ _ us hl => match us, hl with | [_, _], _ => rfl) kps_nil
  have n23 : HasP P w K mg base 1 (ndB b__law_gap) := show HasP P w K mg base 1 [.bn "sum", .fn f__law_true] from (HasP.cons zz_sum (HasP.cons (g22.mono (by decide)) HasP.nil))
  have o23 : FnOk P w K mg base (L2.CX P w) 2 f23 _ f__law_gap.ps (spFn K mg f__law_gap) := fn_ok (f := f__law_gap) F23 sc__law_gap b__law_gap ck__law_gap n23 (fun _ _ _ _ => ⟨_, rfl⟩)
  have g23 : FnGood P w K mg base 2 f__law_gap := fn_good F23 o23 (PySem.W.mg_of X G a23) (F23.binds (ps := ["one", "row"]) fun _ _ _ _ _ _ us hl => match us, hl with | [_, _], _ => rfl) kps_nil
  have n24 : HasP P w K mg base 1 (ndB b__law_comes_to) := show HasP P w K mg base 1 [.bn "sum", .fn f__law_true] from (HasP.cons zz_sum (HasP.cons (g22.mono (by decide)) HasP.nil))
  have o24 : FnOk P w K mg base (L2.CX P w) 2 f24 _ f__law_comes_to.ps (spFn K mg f__law_comes_to) := fn_ok (f := f__law_comes_to) F24 sc__law_comes_to b__law_comes_to ck__law_comes_to n24 (fun _ _ _ _ => ⟨_, rfl⟩)
  have g24 : FnGood P w K mg base 2 f__law_comes_to := fn_good F24 o24 (PySem.W.mg_of X G a24) (F24.binds (ps := ["pairs", "row"]) fun _ _ _ _ _ _ us hl => match us, hl with | [_, _], _ => rfl) kps_nil
  have n25 : HasP P w K mg base 7 (ndB b__law_right) := show HasP P w K mg base 7 [.fn f_sum_of, .bn "tuple", .fn f__law_is_sum, .fn f_is_sum, .bn "range", .bn "min", .fn f__law_gap, .fn f__law_comes_to, .fn f__law_pick, .bn "len", .fn f__law_same, .fn f_sum_of, .bn "tuple", .fn f_sum_of, .bn "tuple", .fn f_sum_of, .bn "tuple", .fn f__law_same, .fn f_add, .fn f_sum_of, .bn "tuple", .fn f__law_same, .fn f_not_of] from (HasP.cons (g8.mono (by decide)) (HasP.cons zz_tuple (HasP.cons (g13.mono (by decide)) (HasP.cons (g5.mono (by decide)) (HasP.cons zz_range (HasP.cons zz_min (HasP.cons (g23.mono (by decide)) (HasP.cons (g24.mono (by decide)) (HasP.cons (g10.mono (by decide)) (HasP.cons zz_len (HasP.cons (g11.mono (by decide)) (HasP.cons (g8.mono (by decide)) (HasP.cons zz_tuple (HasP.cons (g8.mono (by decide)) (HasP.cons zz_tuple (HasP.cons (g8.mono (by decide)) (HasP.cons zz_tuple (HasP.cons (g11.mono (by decide)) (HasP.cons (g18.mono (by decide)) (HasP.cons (g8.mono (by decide)) (HasP.cons zz_tuple (HasP.cons (g11.mono (by decide)) (HasP.cons (g21.mono (by decide)) HasP.nil)))))))))))))))))))))))
  have o25 : FnOk P w K mg base (L2.CX P w) 8 f25 _ f__law_right.ps (spFn K mg f__law_right) := fn_ok (f := f__law_right) F25 sc__law_right b__law_right ck__law_right n25 (fun _ _ _ _ => ⟨_, rfl⟩)
  have g25 : FnGood P w K mg base 8 f__law_right := fn_good F25 o25 (PySem.W.mg_of X G a25) (F25.binds (ps := ["deck", "many", "pairs", "degree"]) fun _ _ _ _ _ _ us hl => match us, hl with | [_, _, _, _], _ => rfl) kps_nil
  have hd0 : HdsGood K mg ["BadPairs", "BadDegree"] [("BadPairs", ["BadPairs"], 2, "pairs"), ("BadDegree", ["BadDegree"], 2, "degree")] := by
    exact (hds_cons (exs_cons ⟨C_BadPairs, C_BadPairs, cm_BadPairs, cm_BadPairs, exm_of cs_BadPairs ci_BadPairs ct_BadPairs ex_BadPairs_BadPairs⟩ (exs_cons ⟨C_BadDegree, C_BadPairs, cm_BadDegree, cm_BadPairs, exm_of cs_BadPairs ci_BadPairs ct_BadPairs ex_BadDegree_BadPairs⟩ exs_nil)) (hds_cons (exs_cons ⟨C_BadPairs, C_BadDegree, cm_BadPairs, cm_BadDegree, exm_of cs_BadDegree ci_BadDegree ct_BadDegree ex_BadPairs_BadDegree⟩ (exs_cons ⟨C_BadDegree, C_BadDegree, cm_BadDegree, cm_BadDegree, exm_of cs_BadDegree ci_BadDegree ct_BadDegree ex_BadDegree_BadDegree⟩ exs_nil)) hds_nil))
  have n26 : HasP P w K mg base 3 (ndB b__law_refused) := show HasP P w K mg base 3 [.hd ["BadPairs", "BadDegree"] [("BadPairs", ["BadPairs"], 2, "pairs"), ("BadDegree", ["BadDegree"], 2, "degree")], .fn f_sum_of] from (HasP.cons hd0 (HasP.cons (g8.mono (by decide)) HasP.nil))
  have o26 : FnOk P w K mg base (L2.CX P w) 4 f26 _ f__law_refused.ps (spFn K mg f__law_refused) := fn_ok (f := f__law_refused) F26 sc__law_refused b__law_refused ck__law_refused n26 (fun _ _ _ _ => ⟨_, rfl⟩)
  have g26 : FnGood P w K mg base 4 f__law_refused := fn_good F26 o26 (PySem.W.mg_of X G a26) (F26.binds (ps := ["pairs", "degree"]) fun _ _ _ _ _ _ us hl => match us, hl with | [_, _], _ => rfl) kps_nil
  have n27 : HasP P w K mg base 8 (ndB b_law) := show HasP P w K mg base 8 [.fn f__law_deck, .bn "range", .bn "min", .bn "len", .fn f__law_pick, .fn f__law_pick, .fn f__law_pairs, .fn f__law_pick, .fn f__law_right, .fn f_sum_of, .bn "tuple", .fn f__law_near, .fn f__law_same, .fn f_is_sum, .fn f__law_is_sum, .fn f__law_pick, .fn f__law_refused, .fn f__law_refused, .bn "tuple", .fn f__law_pick, .fn f__law_refused, .fn f__law_pick, .fn f__law_pairs, .fn f__law_right, .fn f__law_refused, .bn "tuple"] from (HasP.cons (g9.mono (by decide)) (HasP.cons zz_range (HasP.cons zz_min (HasP.cons zz_len (HasP.cons (g10.mono (by decide)) (HasP.cons (g10.mono (by decide)) (HasP.cons (g14.mono (by decide)) (HasP.cons (g10.mono (by decide)) (HasP.cons (g25.mono (by decide)) (HasP.cons (g8.mono (by decide)) (HasP.cons zz_tuple (HasP.cons (g15.mono (by decide)) (HasP.cons (g11.mono (by decide)) (HasP.cons (g5.mono (by decide)) (HasP.cons (g13.mono (by decide)) (HasP.cons (g10.mono (by decide)) (HasP.cons (g26.mono (by decide)) (HasP.cons (g26.mono (by decide)) (HasP.cons zz_tuple (HasP.cons (g10.mono (by decide)) (HasP.cons (g26.mono (by decide)) (HasP.cons (g10.mono (by decide)) (HasP.cons (g14.mono (by decide)) (HasP.cons (g25.mono (by decide)) (HasP.cons (g26.mono (by decide)) (HasP.cons zz_tuple HasP.nil))))))))))))))))))))))))))
  have o27 : FnOk P w K mg base (L2.CX P w) 9 fa _ f_law.ps (spFn K mg f_law) := fn_ok (f := f_law) F27 sc_law b_law ck_law n27 (fun _ _ _ _ => ⟨_, rfl⟩)
  exact o27.imp fun vs H Q E h => law_promise h
end LW
open PySem PySem.W PyProof.Rows
set_option maxHeartbeats 0 in
theorem PySem.Challenge.cw_sumsworn_k00_a_thousand_weighted_literal_holds : PySem.Challenge.rw_sumsworn_k00_a_thousand_weighted_literal.Holds := by
  w_on; o_law; k_head; (case hw => w_witness2)
  k_fill
  refine L2.walk_ofB (l := PySem.Challenge.rw_sumsworn_k00_a_thousand_weighted_literal) (n := 63) (k := 9) (x := "script") (CX := fun w => L2.CX PySem.Challenge.rw_sumsworn_k00_a_thousand_weighted_literal.prog w) (sp := fun w => PX.spLaw _) rfl (by decide) rfl ⟨rfl, by decide, by decide⟩ (fun w h Y => PySem.W.kIn_of Y) ?F (fun w H a ns hl hb hO hS => PX.spLaw_mk hl hb hO hS) (fun w H s e s' h => PX.cx_none h)
  case F =>
    intro w mg fa h KX G hmg
    refine' LW.all_mk KX G hmg ?a0 ?l0 ?c0 ?k0 ?a1 ?l1 ?c1 ?k1 ?a2 ?l2 ?c2 ?k2 ?a3 ?l3 ?c3 ?k3 ?a4 ?l4 ?c4 ?k4 ?a5 ?l5 ?c5 ?k5 ?a6 ?l6 ?c6 ?k6 ?a7 ?l7 ?c7 ?k7 ?a8 ?l8 ?c8 ?k8 ?a9 ?l9 ?c9 ?k9 ?a10 ?l10 ?c10 ?k10 ?a11 ?l11 ?c11 ?k11 ?a12 ?l12 ?c12 ?k12 ?a13 ?l13 ?c13 ?k13 ?a14 ?l14 ?c14 ?k14 ?a15 ?l15 ?c15 ?k15 ?a16 ?l16 ?c16 ?k16 ?a17 ?l17 ?c17 ?k17 ?a18 ?l18 ?c18 ?k18 ?a19 ?l19 ?c19 ?k19 ?a20 ?l20 ?c20 ?k20 ?a21 ?l21 ?c21 ?k21 ?a22 ?l22 ?c22 ?k22 ?a23 ?l23 ?c23 ?k23 ?a24 ?l24 ?c24 ?k24 ?a25 ?l25 ?c25 ?k25 ?a26 ?l26 ?c26 ?k26 ?a27 ?l27 ?c27 ?k27 ?ca_BadSum ?ca_BadOther ?ca_BadPairs ?ca_BadDegree ?cq_BadSum ?ck_BadSum ?cs_BadSum ?ct_BadSum ?ci_BadSum ?cq_BadOther ?ck_BadOther ?cs_BadOther ?ct_BadOther ?ci_BadOther ?cq_BadPairs ?ck_BadPairs ?cs_BadPairs ?ct_BadPairs ?ci_BadPairs ?cq_BadDegree ?ck_BadDegree ?cs_BadDegree ?ct_BadDegree ?ci_BadDegree ?ex_BadPairs_BadPairs ?ex_BadDegree_BadPairs ?ex_BadPairs_BadDegree ?ex_BadDegree_BadDegree ?gc_ALWAYS ?gc_NEVER ?gc_MOST_PAIRS ?z_isinstance ?z_int ?z_bool ?z_tuple ?z_len ?z_all ?z_zip ?z_sorted ?z_range ?z_str ?z_min ?z_list ?z_sum
    (case a0 => k_is); (case l0 => k_is); (case c0 => k_is); (case k0 => k_is); (case a1 => k_is); (case l1 => k_is)
    (case c1 => k_is); (case k1 => k_is); (case a2 => k_is); (case l2 => k_is); (case c2 => k_is); (case k2 => k_is)
    (case a3 => k_is); (case l3 => k_is); (case c3 => k_is); (case k3 => k_is); (case a4 => k_is); (case l4 => k_is)
    (case c4 => k_is); (case k4 => k_is); (case a5 => k_is); (case l5 => k_is); (case c5 => k_is); (case k5 => k_is)
    (case a6 => k_is); (case l6 => k_is); (case c6 => k_is); (case k6 => k_is); (case a7 => k_is); (case l7 => k_is)
    (case c7 => k_is); (case k7 => k_is); (case a8 => k_is); (case l8 => k_is); (case c8 => k_is); (case k8 => k_is)
    (case a9 => k_is); (case l9 => k_is); (case c9 => k_is); (case k9 => k_is); (case a10 => k_is); (case l10 => k_is)
    (case c10 => k_is); (case k10 => k_is); (case a11 => k_is); (case l11 => k_is); (case c11 => k_is); (case k11 => k_is)
    (case a12 => k_is); (case l12 => k_is); (case c12 => k_is); (case k12 => k_is); (case a13 => k_is); (case l13 => k_is)
    (case c13 => k_is); (case k13 => k_is); (case a14 => k_is); (case l14 => k_is); (case c14 => k_is); (case k14 => k_is)
    (case a15 => k_is); (case l15 => k_is); (case c15 => k_is); (case k15 => k_is); (case a16 => k_is); (case l16 => k_is)
    (case c16 => k_is); (case k16 => k_is); (case a17 => k_is); (case l17 => k_is); (case c17 => k_is); (case k17 => k_is)
    (case a18 => k_is); (case l18 => k_is); (case c18 => k_is); (case k18 => k_is); (case a19 => k_is); (case l19 => k_is)
    (case c19 => k_is); (case k19 => k_is); (case a20 => k_is); (case l20 => k_is); (case c20 => k_is); (case k20 => k_is)
    (case a21 => k_is); (case l21 => k_is); (case c21 => k_is); (case k21 => k_is); (case a22 => k_is); (case l22 => k_is)
    (case c22 => k_is); (case k22 => k_is); (case a23 => k_is); (case l23 => k_is); (case c23 => k_is); (case k23 => k_is)
    (case a24 => k_is); (case l24 => k_is); (case c24 => k_is); (case k24 => k_is); (case a25 => k_is); (case l25 => k_is)
    (case c25 => k_is); (case k25 => k_is); (case a26 => k_is); (case l26 => k_is); (case c26 => k_is); (case k26 => k_is)
    (case a27 => k_is); (case l27 => k_is); (case c27 => k_is); (case k27 => k_is); (case ca_BadSum => k_is); (case ca_BadOther => k_is)
    (case ca_BadPairs => k_is); (case ca_BadDegree => k_is); (case cq_BadSum => k_exc); (case ck_BadSum => k_is); (case cs_BadSum => k_is); (case ct_BadSum => k_is)
    (case ci_BadSum => k_is); (case cq_BadOther => k_exc); (case ck_BadOther => k_is); (case cs_BadOther => k_is); (case ct_BadOther => k_is); (case ci_BadOther => k_is)
    (case cq_BadPairs => k_exc); (case ck_BadPairs => k_is); (case cs_BadPairs => k_is); (case ct_BadPairs => k_is); (case ci_BadPairs => k_is); (case cq_BadDegree => k_exc)
    (case ck_BadDegree => k_is); (case cs_BadDegree => k_is); (case ct_BadDegree => k_is); (case ci_BadDegree => k_is); (case ex_BadPairs_BadPairs => first | rfl | k_is); (case ex_BadDegree_BadPairs => first | rfl | k_is)
    (case ex_BadPairs_BadDegree => first | rfl | k_is); (case ex_BadDegree_BadDegree => first | rfl | k_is); (case gc_ALWAYS => k_is); (case gc_NEVER => k_is); (case gc_MOST_PAIRS => k_is); (case z_isinstance => k_is)
    (case z_int => k_is); (case z_bool => k_is); (case z_tuple => k_is); (case z_len => k_is); (case z_all => k_is); (case z_zip => k_is)
    (case z_sorted => k_is); (case z_range => k_is); (case z_str => k_is); (case z_min => k_is); (case z_list => k_is); (case z_sum => k_is)
