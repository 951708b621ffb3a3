import PyProof.Rows.All
import Wide.All
import OpenK.AllK
import Wide.FinOn
import HandS.ForMost
import HandS.ForExc
import HandS.Flow
import HandS.TupAny
import HandS.TupLe
import HandS.TupMul
import HandS.Wide
import HandS.IsInst
import HandS.Zip
import HandS.Walk
import HandS.Style
import HandS.TryMany
import HandS.Deep
import HandS.SortInts
import HandS.Defaults
import HandS.SetFor
import HandS.Strs
import HandS.Rev
import HandS.WordsExc
import KE.BitLaws
import HandS.EndBits
import PySem.Challenge.RW_sumsworn_k30_ways_back_of_sixty_variable
set_option Elab.async false
set_option linter.all false
set_option maxRecDepth 100000
set_option maxHeartbeats 4000000
set_option autoImplicit false
/-! PX: a plain semantics of a part of Python over data (tuples and lists that stay, cells that change), and that the machine keeps it. -/
namespace PX
open PySem L2

/-! ### data -/
/-- tuples and lists that stay as they are: values; adr: a cell of the store -/
inductive D where
  | non | bl (b : Bool) | int (i : Int) | str (s : Str) | tup (xs : List D) | lst (xs : List D) | scr (xs : List D) | kup (xs : List D) | adr (n : Nat)
mutual
def D.beq : D → D → Bool
  | .non, .non => true
  | .bl a, .bl b => a == b
  | .int a, .int b => a == b
  | .str a, .str b => decide (a = b)
  | .tup a, .tup b => D.beqs a b
  | .lst a, .lst b => D.beqs a b
  | .scr a, .scr b => D.beqs a b
  | .kup a, .kup b => D.beqs a b
  | .adr a, .adr b => a == b
  | _, _ => false
def D.beqs : List D → List D → Bool
  | [], [] => true
  | x :: xs, y :: ys => D.beq x y && D.beqs xs ys
  | _, _ => false
end
mutual
theorem D.eq_of_beq : ∀ {a b : D}, D.beq a b = true → a = b
  | .non, b, h => by cases b <;> first | rfl | simp [D.beq] at h
  | .bl x, b, h => by cases b <;> simp [D.beq] at h; subst h; rfl
  | .int x, b, h => by cases b <;> simp [D.beq] at h; subst h; rfl
  | .str x, b, h => by cases b <;> simp [D.beq] at h; subst h; rfl
  | .tup xs, b, h => by
    cases b <;> simp [D.beq] at h
    rw [D.eq_of_beqs h]
  | .lst xs, b, h => by
    cases b <;> simp [D.beq] at h
    rw [D.eq_of_beqs h]
  | .scr xs, b, h => by
    cases b <;> simp [D.beq] at h
    rw [D.eq_of_beqs h]
  | .kup xs, b, h => by
    cases b <;> simp [D.beq] at h
    rw [D.eq_of_beqs h]
  | .adr x, b, h => by cases b <;> simp [D.beq] at h; subst h; rfl
theorem D.eq_of_beqs : ∀ {a b : List D}, D.beqs a b = true → a = b
  | [], b, h => by cases b <;> first | rfl | simp [D.beqs] at h
  | x :: xs, b, h => by
    cases b with
    | nil => simp [D.beqs] at h
    | cons y ys =>
      simp [D.beqs] at h
      rw [D.eq_of_beq h.1, D.eq_of_beqs h.2]
end
mutual
theorem D.beq_self : ∀ a : D, D.beq a a = true
  | .non => by simp [D.beq]
  | .bl x => by simp [D.beq]
  | .int x => by simp [D.beq]
  | .str x => by simp [D.beq]
  | .tup xs => by simp [D.beq, D.beqs_self xs]
  | .lst xs => by simp [D.beq, D.beqs_self xs]
  | .scr xs => by simp [D.beq, D.beqs_self xs]
  | .kup xs => by simp [D.beq, D.beqs_self xs]
  | .adr x => by simp [D.beq]
theorem D.beqs_self : ∀ a : List D, D.beqs a a = true
  | [] => by simp [D.beqs]
  | x :: xs => by simp [D.beqs, D.beq_self x, D.beqs_self xs]
end
instance : DecidableEq D := fun a b => if h : D.beq a b = true then isTrue (D.eq_of_beq h) else isFalse fun e => h (e ▸ D.beq_self a)
instance : Inhabited D := ⟨.non⟩

/-- a cell: a list, a dict -/
inductive Cell where
  | lst (xs : List D) | dic (kvs : List (Key × D))
  deriving DecidableEq
abbrev Store := List Cell
abbrev Env := List (Option D)
mutual
/-- no cell within -/
def D.free : D → Bool
  | .adr _ => false
  | .tup xs => D.frees xs
  | .lst xs => D.frees xs
  | .scr xs => D.frees xs
  | .kup xs => D.frees xs
  | _ => true
def D.frees : List D → Bool
  | [] => true
  | x :: xs => D.free x && D.frees xs
end
theorem D.frees_iff : ∀ {xs : List D}, D.frees xs = true ↔ ∀ x ∈ xs, D.free x = true
  | [] => by simp [D.frees]
  | x :: xs => by simp [D.frees, D.frees_iff (xs := xs)]

/-- an outcome -/
inductive R (α : Type) where
  | ok (a : α) (S : Store) | exc (c : Str) (S : Store) | stuck
def R.bind {α β : Type} (r : R α) (f : α → Store → R β) : R β := match r with
  | .ok a S => f a S
  | .exc c S => .exc c S
  | .stuck => .stuck
@[simp] theorem R.bind_ok {α β : Type} (a : α) (S : Store) (f : α → Store → R β) : (R.ok a S).bind f = f a S := rfl
@[simp] theorem R.bind_exc {α β : Type} (c : Str) (S : Store) (f : α → Store → R β) : (R.exc c S).bind f = .exc c S := rfl
@[simp] theorem R.bind_stuck {α β : Type} (f : α → Store → R β) : (R.stuck : R α).bind f = .stuck := rfl

/-! ### how the machine holds data: bar the addresses of all cells, io those of this store -/
mutual
inductive Rep (K : PySem.W.Frag) (H : Hp) (bar io : List Addr) : V → D → Prop
  | non : Rep K H bar io .non .non
  | bl (b : Bool) : Rep K H bar io (.bl b) (.bl b)
  | int (i : Int) : Rep K H bar io (.int i) (.int i)
  | str (s : Str) (h : s.length ≤ sizeLine) (k : PyData.strOk s = true) : Rep K H bar io (.str s) (.str s)
  | tup {a : Addr} {vs : List V} {ds : List D} : H a = some (.tup vs) → vs.length ≤ sizeLine → Reps K H bar io vs ds → Rep K H bar io (.ref a) (.tup ds)
  | lst {a : Addr} {vs : List V} {ds : List D} : H a = some (.lst vs) → a ∉ bar → vs.length ≤ sizeLine → Reps K H bar io vs ds → Rep K H bar io (.ref a) (.lst ds)
  | scr {a : Addr} {vs : List V} {ds : List D} {o : Obj} : H a = some (.frz o (.lst vs)) → vs.length ≤ sizeLine → Reps K H bar io vs ds → Rep K H bar io (.ref a) (.scr ds)
  | kup {a : Addr} {vs : List V} {ds : List D} {o : Obj} {its : Array Value} {n : Nat} : K.lookup a = some o → o.cls = .type "tuple" → o.data = .seq its n → its.size ≤ sizeLine → Vals vs its.toList → Reps K H bar io vs ds → Rep K H bar io (.ref a) (.kup ds)
  | scrK {a : Addr} {vs : List V} {ds : List D} {o : Obj} {its : Array Value} {n : Nat} : K.lookup a = some o → o.cls = .type "list" → o.dict = none → o.data = .seq its n → its.size ≤ sizeLine → Vals vs its.toList → Reps K H bar io vs ds → Rep K H bar io (.ref a) (.scr ds)
  | adr {a : Addr} {n : Nat} : io[n]? = some a → Rep K H bar io (.ref a) (.adr n)
inductive Reps (K : PySem.W.Frag) (H : Hp) (bar io : List Addr) : List V → List D → Prop
  | nil : Reps K H bar io [] []
  | cons {v : V} {vs : List V} {d : D} {ds : List D} : Rep K H bar io v d → Reps K H bar io vs ds → Reps K H bar io (v :: vs) (d :: ds)
end
section
variable {K : PySem.W.Frag} {H : Hp} {bar io : List Addr}
theorem Reps.length : ∀ {vs : List V} {ds : List D}, Reps K H bar io vs ds → vs.length = ds.length
  | _, _, .nil => rfl
  | _, _, .cons _ t => by simp [t.length]
theorem Reps.get : ∀ {vs : List V} {ds : List D} {i : Nat} {d : D}, Reps K H bar io vs ds → ds[i]? = some d → ∃ v, vs[i]? = some v ∧ Rep K H bar io v d
  | _, _, _, _, .nil, e => by simp at e
  | _, _, 0, _, .cons r _, e => by simp at e; subst e; exact ⟨_, rfl, r⟩
  | _, _, i + 1, d, .cons _ t, e => by
    obtain ⟨u, h1, h2⟩ := Reps.get (i := i) (d := d) t (by simpa using e)
    exact ⟨u, by simpa using h1, h2⟩
theorem Reps.getV : ∀ {vs : List V} {ds : List D} {i : Nat} {v : V}, Reps K H bar io vs ds → vs[i]? = some v → ∃ d, ds[i]? = some d ∧ Rep K H bar io v d
  | _, _, _, _, .nil, e => by simp at e
  | _, _, 0, _, .cons r _, e => by simp at e; subst e; exact ⟨_, rfl, r⟩
  | _, _, i + 1, d, .cons _ t, e => by
    obtain ⟨u, h1, h2⟩ := Reps.getV (i := i) (v := d) t (by simpa using e)
    exact ⟨u, by simpa using h1, h2⟩
theorem Reps.append : ∀ {vs ws : List V} {ds es : List D}, Reps K H bar io vs ds → Reps K H bar io ws es → Reps K H bar io (vs ++ ws) (ds ++ es)
  | _, _, _, _, .nil, s => s
  | _, _, _, _, .cons r t, s => .cons r (Reps.append t s)
theorem Reps.take : ∀ {vs : List V} {ds : List D} (n : Nat), Reps K H bar io vs ds → Reps K H bar io (vs.take n) (ds.take n)
  | _, _, 0, _ => .nil
  | _, _, _ + 1, .nil => .nil
  | _, _, n + 1, .cons r t => .cons r (Reps.take n t)
theorem Reps.drop : ∀ {vs : List V} {ds : List D} (n : Nat), Reps K H bar io vs ds → Reps K H bar io (vs.drop n) (ds.drop n)
  | _, _, 0, r => r
  | _, _, _ + 1, .nil => .nil
  | _, _, n + 1, .cons _ t => Reps.drop n t
theorem Reps.set {v : V} {d : D} (r : Rep K H bar io v d) : ∀ {vs : List V} {ds : List D} (i : Nat), Reps K H bar io vs ds → Reps K H bar io (vs.set i v) (ds.set i d)
  | _, _, _, .nil => .nil
  | _, _, 0, .cons _ t => .cons r t
  | _, _, i + 1, .cons q t => .cons q (Reps.set r i t)
theorem Reps.eraseIdx : ∀ {vs : List V} {ds : List D} (i : Nat), Reps K H bar io vs ds → Reps K H bar io (vs.eraseIdx i) (ds.eraseIdx i)
  | _, _, _, .nil => .nil
  | _, _, 0, .cons _ t => t
  | _, _, i + 1, .cons q t => .cons q (Reps.eraseIdx i t)
theorem Reps.reverse {vs : List V} {ds : List D} (h : Reps K H bar io vs ds) : Reps K H bar io vs.reverse ds.reverse := by
  induction vs generalizing ds with
  | nil => cases h; exact .nil
  | cons v vs ih =>
    cases h with
    | cons r t => rw [List.reverse_cons, List.reverse_cons]; exact (ih t).append (.cons r .nil)
theorem Reps.rep {vs : List V} {ds : List D} (h : Reps K H bar io vs ds) : ∀ k : Nat, Reps K H bar io (List.replicate k vs).flatten (List.replicate k ds).flatten
  | 0 => .nil
  | k + 1 => by
    rw [List.replicate_succ, List.replicate_succ, List.flatten_cons, List.flatten_cons]
    exact h.append (Reps.rep h k)
theorem Reps.one {vs : List V} {d : D} (h : Reps K H bar io vs [d]) : ∃ v, vs = [v] ∧ Rep K H bar io v d := by
  cases h with
  | cons r t => cases t; exact ⟨_, rfl, r⟩
theorem Reps.two {vs : List V} {d e : D} (h : Reps K H bar io vs [d, e]) : ∃ v u, vs = [v, u] ∧ Rep K H bar io v d ∧ Rep K H bar io u e := by
  cases h with
  | cons r t =>
    obtain ⟨u, rfl, q⟩ := t.one
    exact ⟨_, u, rfl, r, q⟩
theorem Reps.ints : ∀ {ns : List Int} {vs : List V}, Reps K H bar io vs (ns.map D.int) → vs = ns.map V.int
  | [], _, h => by cases h; rfl
  | n :: ns, _, h => by
    cases h with
    | cons r t =>
      cases r
      rw [Reps.ints t]
      rfl
theorem Reps.bls : ∀ {ns : List Bool} {vs : List V}, Reps K H bar io vs (ns.map D.bl) → vs = ns.map V.bl
  | [], _, h => by cases h; rfl
  | n :: ns, _, h => by
    cases h with
    | cons r t =>
      cases r
      rw [Reps.bls t]
      rfl
theorem Reps.of_ints : ∀ {ns : List Int}, Reps K H bar io (ns.map V.int) (ns.map D.int)
  | [] => .nil
  | n :: ns => .cons (.int n) Reps.of_ints
end
mutual
/-- data without cells does not lean on the store -/
theorem Rep.of_free {K : PySem.W.Frag} {H : Hp} {bar io io' : List Addr} : ∀ {v : V} {d : D}, D.free d = true → Rep K H bar io v d → Rep K H bar io' v d
  | _, _, _, .non => .non
  | _, _, _, .bl b => .bl b
  | _, _, _, .int i => .int i
  | _, _, _, .str s h k => .str s h k
  | _, _, f, .tup h z r => .tup h z (Reps.of_frees (by simpa [D.free] using f) r)
  | _, _, f, .lst h b z r => .lst h b z (Reps.of_frees (by simpa [D.free] using f) r)
  | _, _, f, .scr h z r => .scr h z (Reps.of_frees (by simpa [D.free] using f) r)
  | _, _, f, .kup h c d z v r => .kup h c d z v (Reps.of_frees (by simpa [D.free] using f) r)
  | _, _, f, .scrK h c dd d z v r => .scrK h c dd d z v (Reps.of_frees (by simpa [D.free] using f) r)
  | _, _, f, .adr h => by simp [D.free] at f
theorem Reps.of_frees {K : PySem.W.Frag} {H : Hp} {bar io io' : List Addr} : ∀ {vs : List V} {ds : List D}, D.frees ds = true → Reps K H bar io vs ds → Reps K H bar io' vs ds
  | _, _, _, .nil => .nil
  | _, _, f, .cons r t => by
    simp only [D.frees, Bool.and_eq_true] at f
    exact .cons (Rep.of_free f.1 r) (Reps.of_frees f.2 t)
end

/-! ### from a state to a later one -/
structure Ext (H : Hp) (bar io : List Addr) (H' : Hp) (bar' io' : List Addr) : Prop where
  mo : ∃ more, io' = io ++ more ∧ ∀ p ∈ more, H p = none
  bo : ∀ p ∈ bar', p ∈ bar ∨ H p = none
  bi : ∀ p ∈ bar, p ∈ bar'
  ke : ∀ a o, H a = some o → a ∉ io → H' a = some o
  al : ∀ a, H' a = none → H a = none
theorem Ext.refl {H : Hp} {bar io : List Addr} : Ext H bar io H bar io := ⟨⟨[], by simp, by simp⟩, fun _ h => .inl h, fun _ h => h, fun _ _ h _ => h, fun _ h => h⟩
theorem Ext.trans {H H1 H2 : Hp} {b b1 b2 i i1 i2 : List Addr} (x : Ext H b i H1 b1 i1) (y : Ext H1 b1 i1 H2 b2 i2) : Ext H b i H2 b2 i2 := by
  obtain ⟨m1, e1, f1⟩ := x.mo
  obtain ⟨m2, e2, f2⟩ := y.mo
  refine ⟨⟨m1 ++ m2, by rw [e2, e1, List.append_assoc], fun p hp => ?_⟩, fun p hp => ?_, fun p hp => y.bi p (x.bi p hp), fun a o h hn => ?_, fun a h => x.al a (y.al a h)⟩
  · rcases List.mem_append.mp hp with h | h
    · exact f1 p h
    · exact x.al p (f2 p h)
  · rcases y.bo p hp with h | h
    · exact x.bo p h
    · exact .inr (x.al p h)
  · refine y.ke a o (x.ke a o h hn) fun hm => ?_
    rw [e1] at hm
    rcases List.mem_append.mp hm with q | q
    · exact hn q
    · rw [f1 a q] at h; cases h
/-- the cells stand as things that may change -/
def Live (H : Hp) (io bar : List Addr) : Prop := (∀ a ∈ io, Mut (H a)) ∧ ∀ a ∈ io, a ∈ bar
mutual
theorem Rep.mono {K : PySem.W.Frag} {H H' : Hp} {bar io bar' io' : List Addr} (x : Ext H bar io H' bar' io') (lv : Live H io bar) : ∀ {v : V} {d : D}, Rep K H bar io v d → Rep K H' bar' io' v d
  | _, _, .non => .non
  | _, _, .bl b => .bl b
  | _, _, .int i => .int i
  | _, _, .str s h k => .str s h k
  | _, _, .tup (a := a) h z r => .tup (x.ke a _ h fun hm => by have := lv.1 a hm; rw [h] at this; exact this) z (Reps.mono x lv r)
  | _, _, .kup h c d z v r => .kup h c d z v (Reps.mono x lv r)
  | _, _, .scrK h c dd d z v r => .scrK h c dd d z v (Reps.mono x lv r)
  | _, _, .lst (a := a) h b z r => by
    have hn : a ∉ io := fun hm => b (lv.2 a hm)
    have hnb : a ∉ bar' := fun hm => by
      rcases x.bo a hm with q | q
      · exact b q
      · rw [q] at h; cases h
    exact .lst (x.ke a _ h hn) hnb z (Reps.mono x lv r)
  | _, _, .scr (a := a) h z r => .scr (x.ke a _ h fun hm => by have := lv.1 a hm; rw [h] at this; exact this) z (Reps.mono x lv r)
  | _, _, .adr (a := a) (n := n) h => by
    obtain ⟨m, e, _⟩ := x.mo
    refine .adr ?_
    rw [e, List.getElem?_append_left (List.getElem?_eq_some_iff.mp h).1]
    exact h
theorem Reps.mono {K : PySem.W.Frag} {H H' : Hp} {bar io bar' io' : List Addr} (x : Ext H bar io H' bar' io') (lv : Live H io bar) : ∀ {vs : List V} {ds : List D}, Reps K H bar io vs ds → Reps K H' bar' io' vs ds
  | _, _, .nil => .nil
  | _, _, .cons r t => .cons (Rep.mono x lv r) (Reps.mono x lv t)
end
/-- a dict's entries -/
inductive RepK (K : PySem.W.Frag) (H : Hp) (bar io : List Addr) : List (Key × V) → List (Key × D) → Prop
  | nil : RepK K H bar io [] []
  | cons {k : Key} {v : V} {d : D} {vs : List (Key × V)} {ds : List (Key × D)} : Rep K H bar io v d → RepK K H bar io vs ds → RepK K H bar io ((k, v) :: vs) ((k, d) :: ds)
theorem RepK.mono {K : PySem.W.Frag} {H H' : Hp} {bar io bar' io' : List Addr} (x : Ext H bar io H' bar' io') (lv : Live H io bar) : ∀ {vs : List (Key × V)} {ds : List (Key × D)}, RepK K H bar io vs ds → RepK K H' bar' io' vs ds
  | _, _, .nil => .nil
  | _, _, .cons r t => .cons (r.mono x lv) (RepK.mono x lv t)
theorem RepK.length {K : PySem.W.Frag} {H : Hp} {bar io : List Addr} : ∀ {vs : List (Key × V)} {ds : List (Key × D)}, RepK K H bar io vs ds → vs.length = ds.length
  | _, _, .nil => rfl
  | _, _, .cons _ t => by simp [t.length]
inductive CellRep (K : PySem.W.Frag) (H : Hp) (bar io : List Addr) : HO → Cell → Prop
  | lst {vs : List V} {ds : List D} : vs.length ≤ sizeLine → Reps K H bar io vs ds → CellRep K H bar io (.lst vs) (.lst ds)
  | dic {vs : List (Key × V)} {ds : List (Key × D)} : vs.length ≤ sizeLine → RepK K H bar io vs ds → CellRep K H bar io (.dK vs) (.dic ds)
theorem CellRep.mono {K : PySem.W.Frag} {H H' : Hp} {bar io bar' io' : List Addr} (x : Ext H bar io H' bar' io') (lv : Live H io bar) {o : HO} {c : Cell} (h : CellRep K H bar io o c) : CellRep K H' bar' io' o c := by
  cases h with
  | lst z r => exact .lst z (r.mono x lv)
  | dic z r => exact .dic z (r.mono x lv)
theorem CellRep.mutb {K : PySem.W.Frag} {H : Hp} {bar io : List Addr} {o : HO} {c : Cell} (h : CellRep K H bar io o c) : Mut (some o) := by
  cases h <;> trivial
structure StRep (K : PySem.W.Frag) (H : Hp) (bar io : List Addr) (S : Store) : Prop where
  len : S.length = io.length
  nd : io.Nodup
  sub : ∀ a ∈ io, a ∈ bar
  bal : ∀ a ∈ bar, Mut (H a)
  cell : ∀ (n : Nat) (c : Cell), S[n]? = some c → ∃ a o, io[n]? = some a ∧ H a = some o ∧ CellRep K H bar io o c
theorem StRep.live {K : PySem.W.Frag} {H : Hp} {bar io : List Addr} {S : Store} (h : StRep K H bar io S) : Live H io bar := by
  refine ⟨fun a ha => ?_, h.sub⟩
  obtain ⟨n, hn, e⟩ := List.getElem_of_mem ha
  have hS : n < S.length := by rw [h.len]; exact hn
  obtain ⟨a', o, e1, e2, r⟩ := h.cell n S[n] (List.getElem?_eq_getElem hS)
  rw [List.getElem?_eq_getElem hn, e] at e1
  cases e1
  rw [e2]
  exact r.mutb
/-- the store stands through a state that keeps its cells -/
theorem StRep.mono {K : PySem.W.Frag} {H H' : Hp} {bar io bar' : List Addr} {S : Store} (h : StRep K H bar io S) (x : Ext H bar io H' bar' io) (ke : ∀ a ∈ io, H' a = H a) (bal : ∀ a ∈ bar', Mut (H' a)) : StRep K H' bar' io S := by
  refine ⟨h.len, h.nd, fun a ha => x.bi a (h.sub a ha), bal, fun n c hc => ?_⟩
  obtain ⟨a, o, e1, e2, r⟩ := h.cell n c hc
  exact ⟨a, o, e1, by rw [ke a (List.mem_of_getElem? e1)]; exact e2, r.mono x h.live⟩

/-- to a later state in which the cells of others may have changed, too -/
structure ExtW (H : Hp) (bar io : List Addr) (H' : Hp) (bar' io' : List Addr) : Prop where
  mo : ∃ more, io' = io ++ more ∧ ∀ p ∈ more, H p = none
  bo : ∀ p ∈ bar', p ∈ bar ∨ H p = none
  bi : ∀ p ∈ bar, p ∈ bar'
  ke : ∀ a o, H a = some o → a ∉ bar → H' a = some o
  al : ∀ a, H' a = none → H a = none
theorem Ext.weak {H H' : Hp} {bar io bar' io' : List Addr} (x : Ext H bar io H' bar' io') (h : ∀ a ∈ io, a ∈ bar) : ExtW H bar io H' bar' io' := ⟨x.mo, x.bo, x.bi, fun a o e n => x.ke a o e fun m => n (h a m), x.al⟩
theorem ExtW.refl {H : Hp} {bar io : List Addr} : ExtW H bar io H bar io := ⟨⟨[], by simp, by simp⟩, fun _ h => .inl h, fun _ h => h, fun _ _ h _ => h, fun _ h => h⟩
theorem ExtW.trans {H H1 H2 : Hp} {b b1 b2 i i1 i2 : List Addr} (x : ExtW H b i H1 b1 i1) (y : ExtW H1 b1 i1 H2 b2 i2) : ExtW H b i H2 b2 i2 := by
  obtain ⟨m1, e1, f1⟩ := x.mo
  obtain ⟨m2, e2, f2⟩ := y.mo
  refine ⟨⟨m1 ++ m2, by rw [e2, e1, List.append_assoc], fun p hp => ?_⟩, fun p hp => ?_, fun p hp => y.bi p (x.bi p hp), fun a o h hn => ?_, fun a h => x.al a (y.al a h)⟩
  · rcases List.mem_append.mp hp with h | h
    · exact f1 p h
    · exact x.al p (f2 p h)
  · rcases y.bo p hp with h | h
    · exact x.bo p h
    · exact .inr (x.al p h)
  · refine y.ke a o (x.ke a o h hn) fun hm => ?_
    rcases x.bo a hm with q | q
    · exact hn q
    · rw [q] at h; cases h
mutual
theorem Rep.monoW {K : PySem.W.Frag} {H H' : Hp} {bar io bar' io' : List Addr} (x : ExtW H bar io H' bar' io') (lv : ∀ a ∈ bar, Mut (H a)) : ∀ {v : V} {d : D}, Rep K H bar io v d → Rep K H' bar' io' v d
  | _, _, .non => .non
  | _, _, .bl b => .bl b
  | _, _, .int i => .int i
  | _, _, .str s h k => .str s h k
  | _, _, .tup (a := a) h z r => .tup (x.ke a _ h fun hm => by have := lv a hm; rw [h] at this; exact this) z (Reps.monoW x lv r)
  | _, _, .kup h c d z v r => .kup h c d z v (Reps.monoW x lv r)
  | _, _, .scrK h c dd d z v r => .scrK h c dd d z v (Reps.monoW x lv r)
  | _, _, .lst (a := a) h b z r => by
    have hnb : a ∉ bar' := fun hm => by
      rcases x.bo a hm with q | q
      · exact b q
      · rw [q] at h; cases h
    exact .lst (x.ke a _ h b) hnb z (Reps.monoW x lv r)
  | _, _, .scr (a := a) h z r => .scr (x.ke a _ h fun hm => by have := lv a hm; rw [h] at this; exact this) z (Reps.monoW x lv r)
  | _, _, .adr (a := a) (n := n) h => by
    obtain ⟨m, e, _⟩ := x.mo
    refine .adr ?_
    rw [e, List.getElem?_append_left (List.getElem?_eq_some_iff.mp h).1]
    exact h
theorem Reps.monoW {K : PySem.W.Frag} {H H' : Hp} {bar io bar' io' : List Addr} (x : ExtW H bar io H' bar' io') (lv : ∀ a ∈ bar, Mut (H a)) : ∀ {vs : List V} {ds : List D}, Reps K H bar io vs ds → Reps K H' bar' io' vs ds
  | _, _, .nil => .nil
  | _, _, .cons r t => .cons (Rep.monoW x lv r) (Reps.monoW x lv t)
end
/-- the slots -/
def EnvRep (K : PySem.W.Frag) (H : Hp) (bar io : List Addr) (σ : St) (ρ : Env) : Prop := σ.length = ρ.length ∧ ∀ (i : Nat) (d : D), ρ[i]? = some (some d) → ∃ v, σ[i]? = some (some v) ∧ Rep K H bar io v d
structure Wd (K : PySem.W.Frag) (H : Hp) (bar io : List Addr) (σ : St) (ρ : Env) (S : Store) : Prop where
  env : EnvRep K H bar io σ ρ
  st : StRep K H bar io S
theorem EnvRep.mono {K : PySem.W.Frag} {H H' : Hp} {bar io bar' io' : List Addr} {σ : St} {ρ : Env} (x : Ext H bar io H' bar' io') (lv : Live H io bar) (h : EnvRep K H bar io σ ρ) : EnvRep K H' bar' io' σ ρ :=
  ⟨h.1, fun i d e => let ⟨v, e1, r⟩ := h.2 i d e; ⟨v, e1, r.mono x lv⟩⟩
theorem EnvRep.set {K : PySem.W.Frag} {H : Hp} {bar io : List Addr} {σ : St} {ρ : Env} {v : V} {d : D} (h : EnvRep K H bar io σ ρ) (r : Rep K H bar io v d) (i : Nat) : EnvRep K H bar io (σ.set i (some v)) (ρ.set i (some d)) := by
  refine ⟨by simp [h.1], fun j e hj => ?_⟩
  by_cases hij : i = j
  · subst hij
    by_cases hi : i < ρ.length
    · rw [List.getElem?_set_self hi] at hj
      cases hj
      exact ⟨v, List.getElem?_set_self (by rw [h.1]; exact hi), r⟩
    · rw [List.getElem?_eq_none (by simpa using hi)] at hj; cases hj
  · rw [List.getElem?_set_ne hij] at hj ⊢
    exact h.2 j e hj
/-- slots forgotten -/
def wipeE (ρ : Env) : List Nat → Env
  | [] => ρ
  | v :: vs => (wipeE ρ vs).set v none
theorem EnvRep.unset {K : PySem.W.Frag} {H : Hp} {bar io : List Addr} {σ : St} {ρ : Env} (h : EnvRep K H bar io σ ρ) (i : Nat) : EnvRep K H bar io (σ.set i none) (ρ.set i none) := by
  refine ⟨by simp [h.1], fun j e hj => ?_⟩
  by_cases hij : i = j
  · subst hij
    by_cases hi : i < ρ.length
    · rw [List.getElem?_set_self hi] at hj
      cases hj
    · rw [List.getElem?_eq_none (by simpa using hi)] at hj; cases hj
  · rw [List.getElem?_set_ne hij] at hj ⊢
    exact h.2 j e hj
theorem EnvRep.wipe {K : PySem.W.Frag} {H : Hp} {bar io : List Addr} {σ : St} {ρ : Env} (h : EnvRep K H bar io σ ρ) : ∀ vs : List Nat, EnvRep K H bar io (wipe σ vs) (wipeE ρ vs)
  | [] => h
  | v :: vs => (EnvRep.wipe h vs).unset v
end PX

/-! PX2: the plain semantics: operators, expressions, statements. -/
namespace PX
open PySem L2

/-! ### operators on data -/
inductive BO where
  | add | sub | mul | fdiv | mod | pow | and | or | xor | shl | shr
  deriving DecidableEq
inductive CO where
  | eq | ne | lt | le | gt | ge | is | isNot | inn | notIn
  deriving DecidableEq
inductive TY where
  | int | bool | str | tuple | list | dict
  deriving DecidableEq
/-- built-in functions and classes, called with one or two values -/
inductive BF where
  | len | sum | all | any | abs | int | bool | str | tuple | list | listM | sorted | sortedP | max2 | min2 | maxL | minL
  deriving DecidableEq
/-- methods -/
inductive ME where
  | append | extend | pop | popAt | get1 | get2 | clear
  deriving DecidableEq

/-- the items of a list that may be read -/
def asLst (S : Store) : D → Option (List D)
  | .lst xs => some xs
  | .scr xs => some xs
  | .adr n => match S[n]? with
    | some (.lst xs) => some xs
    | _ => none
  | _ => none
/-- .. that may be put together with another one -/
def asLstW (S : Store) : D → Option (List D)
  | .lst xs => some xs
  | .adr n => match S[n]? with
    | some (.lst xs) => some xs
    | _ => none
  | _ => none
def asDic (S : Store) : D → Option (List (Key × D))
  | .adr n => match S[n]? with
    | some (.dic xs) => some xs
    | _ => none
  | _ => none
def asKey : D → Option Key
  | .int i => some (.inl i)
  | .str s => some (.inr s)
  | _ => none
def keyD : Key → D
  | .inl i => .int i
  | .inr s => .str s
def asInts : List D → Option (List Int)
  | [] => some []
  | .int i :: r => (asInts r).map (i :: ·)
  | _ => none
def asBls : List D → Option (List Bool)
  | [] => some []
  | .bl i :: r => (asBls r).map (i :: ·)
  | _ => none
@[simp] theorem asInts_map (ns : List Int) : asInts (ns.map D.int) = some ns := by
  induction ns with
  | nil => rfl
  | cons n ns ih => simp [asInts, ih]
@[simp] theorem asBls_map (ns : List Bool) : asBls (ns.map D.bl) = some ns := by
  induction ns with
  | nil => rfl
  | cons n ns ih => simp [asBls, ih]
theorem asInts_eq : ∀ {ds : List D} {ns : List Int}, asInts ds = some ns → ds = ns.map D.int
  | [], ns, h => by simp [asInts] at h; subst h; rfl
  | d :: ds, ns, h => by
    cases d <;> simp [asInts] at h
    obtain ⟨r, h1, h2⟩ := h
    subst h2
    rw [asInts_eq h1]
    rfl
theorem asBls_eq : ∀ {ds : List D} {ns : List Bool}, asBls ds = some ns → ds = ns.map D.bl
  | [], ns, h => by simp [asBls] at h; subst h; rfl
  | d :: ds, ns, h => by
    cases d <;> simp [asBls] at h
    obtain ⟨r, h1, h2⟩ := h
    subst h2
    rw [asBls_eq h1]
    rfl
/-- of a dict -/
def valD (kvs : List (Key × D)) (k : Key) : Option D := (kvs.find? fun kv => decide (kv.1 = k)).map (·.2)
def putD (kvs : List (Key × D)) (k : Key) (v : D) : List (Key × D) :=
  if (kvs.any fun kv => decide (kv.1 = k)) = true then kvs.map (fun kv => if kv.1 = k then (kv.1, v) else kv) else kvs ++ [(k, v)]
/-- a slice -/
def cutG {α : Type} (xs : List α) (lo hi : Option Int) : List α := (xs.drop (HT.sIx xs.length 0 lo)).take (HT.sIx xs.length xs.length hi - HT.sIx xs.length 0 lo)

mutual
/-- Python's == -/
def D.eqv : D → D → Bool
  | .non, .non => true
  | .bl a, .bl b => a == b
  | .bl a, .int j => (if a then 1 else 0) == j
  | .int i, .bl b => i == (if b then 1 else 0)
  | .int i, .int j => i == j
  | .str x, .str y => x == y
  | .lst xs, .lst ys => D.eqvs xs ys
  | .lst xs, .scr ys => D.eqvs xs ys
  | .scr xs, .lst ys => D.eqvs xs ys
  | .scr xs, .scr ys => D.eqvs xs ys
  | .tup xs, .tup ys => D.eqvs xs ys
  | .tup xs, .kup ys => D.eqvs xs ys
  | .kup xs, .tup ys => D.eqvs xs ys
  | .kup xs, .kup ys => D.eqvs xs ys
  | _, _ => false
def D.eqvs : List D → List D → Bool
  | [], [] => true
  | x :: xs, y :: ys => D.eqv x y && D.eqvs xs ys
  | _, _ => false
end
mutual
def D.depth : D → Nat
  | .lst xs => D.depths xs + 1
  | .scr xs => D.depths xs + 1
  | .kup xs => D.depths xs + 1
  | .tup xs => D.depths xs + 1
  | _ => 0
def D.depths : List D → Nat
  | [] => 0
  | x :: xs => max (D.depth x) (D.depths xs)
end
/-- what is compared: a cell's list is read -/
def snap (S : Store) : D → Option D
  | .adr n => match S[n]? with
    | some (.lst xs) => if D.frees xs then some (.lst xs) else none
    | _ => none
  | d => if D.free d then some d else none
/-- one that has no parts -/
def D.flat : D → Bool
  | .non | .bl _ | .int _ | .str _ => true
  | _ => false

def truthy (S : Store) : D → Option Bool
  | .non => some false
  | .bl b => some b
  | .int i => some (i != 0)
  | .str s => some ((s.length : Int) != 0)
  | .tup xs => some (!xs.isEmpty)
  | .lst xs => some (!xs.isEmpty)
  | .scr xs => some (!xs.isEmpty)
  | .kup xs => some (!xs.isEmpty)
  | .adr n => match S[n]? with
    | some (.lst xs) => some (!xs.isEmpty)
    | some (.dic xs) => some (!xs.isEmpty)
    | none => none

def small64 (i : Int) : Bool := decide (-(2 ^ 64) < i) && decide (i < 2 ^ 64)
def mulOk (i j : Int) : Bool := small64 i || small64 j || decide (i.natAbs.log2 + j.natAbs.log2 < 1000000)
def divOk (j : Int) : Bool := decide (0 < j) && decide (j.natAbs.log2 < 9000)
def powOk (i j : Int) : Bool := decide (0 ≤ j) && decide (j ≤ 1000000) && decide (i.natAbs < 2 ^ 64)

def guardR {α : Type} (b : Bool) (r : R α) : R α := match b with
  | true => r
  | false => .stuck
@[simp] theorem guardR_true {α : Type} (r : R α) : guardR true r = r := rfl
@[simp] theorem guardR_false {α : Type} (r : R α) : guardR false r = .stuck := rfl

def binV (o : BO) (S : Store) (x y : D) : R D := match x, y with
  | .int i, .int j => match o with
    | .add => .ok (.int (i + j)) S
    | .sub => .ok (.int (i - j)) S
    | .mul => guardR (mulOk i j) (.ok (.int (i * j)) S)
    | .fdiv => guardR (divOk j) (.ok (.int (i / j)) S)
    | .mod => guardR (decide (0 < j)) (.ok (.int (i % j)) S)
    | .pow => guardR (powOk i j) (.ok (.int (i ^ j.toNat)) S)
    | .and => .ok (.int (Builtin.bitAnd i j)) S
    | .or => .ok (.int (Builtin.bitOr i j)) S
    | .xor => .ok (.int (Builtin.bitXor i j)) S
    | .shl => guardR (powOk i j) (.ok (.int (i * 2 ^ j.toNat)) S)
    | .shr => guardR (decide (0 ≤ j)) (.ok (.int (i / 2 ^ j.toNat)) S)
  | .str a, .str b => match o with
    | .add => guardR (decide (a.length + b.length ≤ sizeLine)) (.ok (.str (a ++ b)) S)
    | _ => .stuck
  | .tup a, .tup b => match o with
    | .add => guardR (decide (a.length + b.length ≤ sizeLine)) (.ok (.tup (a ++ b)) S)
    | _ => .stuck
  | x, .int k => match o with
    | .mul => match asLstW S x with
      | some a => guardR (decide (-(2 ^ 63) ≤ k) && decide (k < 2 ^ 63) && decide (a.length * k.toNat ≤ sizeLine)) (.ok (.lst (List.replicate k.toNat a).flatten) S)
      | none => .stuck
    | _ => .stuck
  | x, y => match o with
    | .add => match asLstW S x, asLstW S y with
      | some a, some b => guardR (decide (a.length + b.length ≤ sizeLine)) (.ok (.lst (a ++ b)) S)
      | _, _ => .stuck
    | _ => .stuck

def eqR (neg : Bool) (S : Store) (x y : D) : R D := match snap S x, snap S y with
  | some a, some b => guardR (decide (a.depth ≤ 64) && decide (b.depth ≤ 64)) (.ok (.bl (if neg then !D.eqv a b else D.eqv a b)) S)
  | _, _ => .stuck
def inR (neg : Bool) (S : Store) (x y : D) : R D := match y with
  | .kup ds => guardR (x.flat && ds.all D.flat) (.ok (.bl (if neg then !ds.any (fun z => D.eqv z x) else ds.any (fun z => D.eqv z x))) S)
  | .tup ds => guardR (x.flat && ds.all D.flat) (.ok (.bl (if neg then !ds.any (fun z => D.eqv z x) else ds.any (fun z => D.eqv z x))) S)
  | y => match asLst S y with
    | some ds => guardR (x.flat && ds.all D.flat) (.ok (.bl (if neg then !ds.any (fun z => D.eqv z x) else ds.any (fun z => D.eqv z x))) S)
    | none => match asDic S y, asKey x with
      | some kvs, some k => .ok (.bl (if neg then !(valD kvs k).isSome else (valD kvs k).isSome)) S
      | _, _ => .stuck
def isR (neg : Bool) (S : Store) (x y : D) : R D := match y with
  | .non => .ok (.bl (if neg then !decide (x = .non) else decide (x = .non))) S
  | .bl b => match x with
    | .bl a => .ok (.bl (if neg then !decide (a = b) else decide (a = b))) S
    | _ => .stuck
  | _ => .stuck
def cmpV (o : CO) (S : Store) (x y : D) : R D := match o with
  | .eq => eqR false S x y
  | .ne => eqR true S x y
  | .is => isR false S x y
  | .isNot => isR true S x y
  | .inn => inR false S x y
  | .notIn => inR true S x y
  | .lt => match x, y with
    | .int i, .int j => .ok (.bl (decide (i < j))) S
    | _, _ => .stuck
  | .le => match x, y with
    | .int i, .int j => .ok (.bl (decide (i ≤ j))) S
    | _, _ => .stuck
  | .gt => match x, y with
    | .int i, .int j => .ok (.bl (decide (j < i))) S
    | _, _ => .stuck
  | .ge => match x, y with
    | .int i, .int j => .ok (.bl (decide (j ≤ i))) S
    | _, _ => .stuck

def optR {α : Type} (o : Option α) (S : Store) : R α := match o with
  | some a => .ok a S
  | none => .stuck
@[simp] theorem optR_some {α : Type} (a : α) (S : Store) : optR (some a) S = .ok a S := rfl
@[simp] theorem optR_none {α : Type} (S : Store) : optR (none : Option α) S = .stuck := rfl

/-- x[i] -/
def ixV (S : Store) (x i : D) : R D := match x, i with
  | .kup xs, .int k => optR (atI xs k) S
  | .tup xs, .int k => optR (atI xs k) S
  | .str z, .int k => match atI z.cps.toList k with
    | some c => .ok (.str ⟨#[c]⟩) S
    | none => .stuck
  | x, i => match asLst S x with
    | some xs => match i with
      | .int k => optR (atI xs k) S
      | _ => .stuck
    | none => match asDic S x, asKey i with
      | some kvs, some k => optR (valD kvs k) S
      | _, _ => .stuck
/-- x[lo:hi] -/
def slV (S : Store) (x : D) (lo hi : Option Int) : R D := match x with
  | .tup xs => .ok (.tup (cutG xs lo hi)) S
  | x => match asLst S x with
    | some xs => .ok (.lst (cutG xs lo hi)) S
    | none => .stuck
def asPart : D → Option (Option Int)
  | .int i => some (some i)
  | _ => none

def tyOf (S : Store) : D → Option TY
  | .bl _ => some .bool
  | .int _ => some .int
  | .str _ => some .str
  | .tup _ => some .tuple
  | .kup _ => some .tuple
  | .lst _ => some .list
  | .scr _ => some .list
  | .adr n => match S[n]? with
    | some (.lst _) => some .list
    | some (.dic _) => some .dict
    | none => none
  | .non => none
def isiV (S : Store) (x : D) (t : TY) : R D := match x with
  | .non => .ok (.bl false) S
  | x => match tyOf S x with
    | some s => .ok (.bl (decide (s = t) || (decide (s = .bool) && decide (t = .int)))) S
    | none => .stuck

def sortI (ns : List Int) : List Int := ns.mergeSort (fun a b => decide (a ≤ b))
def leP (p q : Int × Int) : Bool := !SrtO.lexB q p
def sortP (ps : List (Int × Int)) : List (Int × Int) := ps.mergeSort leP
def pairD (p : Int × Int) : D := .tup [.int p.1, .int p.2]
def asPairs : List D → Option (List (Int × Int))
  | [] => some []
  | .tup [.int i, .int j] :: r => (asPairs r).map ((i, j) :: ·)
  | _ => none
@[simp] theorem asPairs_map (ps : List (Int × Int)) : asPairs (ps.map pairD) = some ps := by
  induction ps with
  | nil => rfl
  | cons n ns ih => simp [asPairs, pairD, ih]
theorem asPairs_eq : ∀ {ds : List D} {ps : List (Int × Int)}, asPairs ds = some ps → ds = ps.map pairD := by
  intro ds
  induction ds with
  | nil => intro ps h; simp [asPairs] at h; subst h; rfl
  | cons d ds ih =>
    intro ps h
    unfold asPairs at h
    split at h
    · simp_all
    · rename_i i j r e
      cases e
      cases hq : asPairs ds with
      | none => rw [hq] at h; cases h
      | some q =>
        rw [hq] at h
        cases h
        rw [ih hq]
        rfl
    · cases h
/-- the keys of a dict, all of them ints -/
def keyInts : List (Key × D) → Option (List Int)
  | [] => some []
  | (.inl i, _) :: r => (keyInts r).map (i :: ·)
  | _ => none
def maxI : List Int → Int
  | [] => 0
  | [x] => x
  | x :: y :: r => let m := maxI (y :: r); if x ≤ m then m else x
def minI : List Int → Int
  | [] => 0
  | [x] => x
  | x :: y :: r => let m := minI (y :: r); if m ≤ x then m else x

def biV (f : BF) (S : Store) (ds : List D) : R D := match f, ds with
  | .len, [.tup xs] => .ok (.int xs.length) S
  | .len, [.kup xs] => .ok (.int xs.length) S
  | .len, [.str z] => .ok (.int z.length) S
  | .len, [x] => match asLst S x with
    | some xs => .ok (.int xs.length) S
    | none => match asDic S x with
      | some kvs => .ok (.int kvs.length) S
      | none => .stuck
  | .sum, [x] => match (asLst S x).bind asInts with
    | some ns => .ok (.int ns.sum) S
    | none => .stuck
  | .all, [x] => match (asLst S x).bind asBls with
    | some bs => .ok (.bl (bs.all id)) S
    | none => .stuck
  | .any, [x] => match (asLst S x).bind asBls with
    | some bs => .ok (.bl (bs.any id)) S
    | none => .stuck
  | .abs, [.int i] => .ok (.int (if i < 0 then -i else i)) S
  | .int, [.int i] => .ok (.int i) S
  | .int, [.bl b] => .ok (.int (if b then 1 else 0)) S
  | .bool, [.int i] => .ok (.bl (i != 0)) S
  | .bool, [.bl b] => .ok (.bl b) S
  | .str, [.int i] => guardR (decide (i.natAbs.log2 < 1920)) (.ok (.str (toString i)) S)
  | .tuple, [.tup xs] => .ok (.tup xs) S
  | .tuple, [x] => match asLst S x with
    | some xs => .ok (.tup xs) S
    | none => .stuck
  | .list, [.tup xs] => .ok (.lst xs) S
  | .list, [x] => match asLst S x with
    | some xs => .ok (.lst xs) S
    | none => .stuck
  | .listM, [.tup xs] => .ok (.adr S.length) (S ++ [.lst xs])
  | .listM, [x] => match asLst S x with
    | some xs => .ok (.adr S.length) (S ++ [.lst xs])
    | none => .stuck
  | .sorted, [x] => match (asLst S x).bind asInts with
    | some ns => .ok (.lst ((sortI ns).map D.int)) S
    | none => match (asDic S x).bind keyInts with
      | some ns => .ok (.lst ((sortI ns).map D.int)) S
      | none => .stuck
  | .sortedP, [x] => match (asLst S x).bind asPairs with
    | some ps => .ok (.lst ((sortP ps).map pairD)) S
    | none => .stuck
  | .max2, [.int i, .int j] => .ok (.int (if j > i then j else i)) S
  | .min2, [.int i, .int j] => .ok (.int (if j < i then j else i)) S
  | .maxL, [x] => match (asLst S x).bind asInts with
    | some ns => guardR (!ns.isEmpty) (.ok (.int (maxI ns)) S)
    | none => .stuck
  | .minL, [x] => match (asLst S x).bind asInts with
    | some ns => guardR (!ns.isEmpty) (.ok (.int (minI ns)) S)
    | none => .stuck
  | _, _ => .stuck

/-- whose method it is -/
def ME.ofDict : ME → Bool
  | .get1 | .get2 => true
  | _ => false
def mkind (m : ME) (S : Store) (x : D) : Bool := match m.ofDict with
  | true => (asDic S x).isSome
  | false => (asLstW S x).isSome
def methV (m : ME) (S : Store) (x : D) (ds : List D) : R D := match x with
  | .adr n => match S[n]? with
    | some (.lst xs) => match m, ds with
      | .append, [y] => guardR (decide (xs.length < sizeLine)) (.ok .non (S.set n (.lst (xs ++ [y]))))
      | .extend, [y] => match asLstW S y with
        | some ys => guardR (decide (xs.length + ys.length ≤ sizeLine)) (.ok .non (S.set n (.lst (xs ++ ys))))
        | none => .stuck
      | .pop, [] => match xs[xs.length - 1]? with
        | some y => .ok y (S.set n (.lst xs.dropLast))
        | none => .stuck
      | .popAt, [.int i] => match ixN xs.length i with
        | some k => match xs[k]? with
          | some y => .ok y (S.set n (.lst (xs.eraseIdx k)))
          | none => .stuck
        | none => .stuck
      | .clear, [] => .ok .non (S.set n (.lst []))
      | _, _ => .stuck
    | some (.dic kvs) => match m, ds with
      | .get1, [k] => match asKey k with
        | some k => .ok ((valD kvs k).getD .non) S
        | none => .stuck
      | .get2, [k, y] => match asKey k with
        | some k => .ok ((valD kvs k).getD y) S
        | none => .stuck
      | _, _ => .stuck
    | none => .stuck
  | _ => .stuck
/-- o[i] = v -/
def setV (S : Store) (o i v : D) : R Unit := match o with
  | .adr n => match S[n]? with
    | some (.lst xs) => match i with
      | .int k => match ixN xs.length k with
        | some j => .ok () (S.set n (.lst (xs.set j v)))
        | none => .stuck
      | _ => .stuck
    | some (.dic kvs) => match asKey i with
      | some k => guardR (decide (kvs.length < sizeLine)) (.ok () (S.set n (.dic (putD kvs k v))))
      | none => .stuck
    | none => .stuck
  | _ => .stuck

/-! ### the written forms -/
/-- a def, by what it does -/
structure FnI where
  name : Str
  ps : List Str
  kps : List (Nat × List Str)
  sem : Store → List D → R D
inductive T where
  | name (i : Nat) | tup (is : List Nat)
mutual
inductive E where
  | var (i : Nat)
  | int (i : Int) | str (s : Str) | bl (b : Bool) | non
  | glob (x : Str) (d : D)
  | tup (es : L) | lst (es : L) | new (es : L) | dic
  | bin (o : BO) (a b : E)
  | neg (a : E)
  | not (a : E)
  | cmp (o : CO) (a b : E)
  | chain (o o' : CO) (a b c : E)
  | and (es : L) | or (es : L)
  | ite (c a b : E)
  | ix (a i : E)
  | sl (a : E) (lo hi : O)
  | rev (a : E)
  | sset (a : E)
  | call (sh : Bool) (f : FnI) (es : L)
  | callk (sh : Bool) (f : FnI) (es : L) (ks : List Str) (kes : L)
  | bi (f : BF) (es : L)
  | isi (a : E) (t : TY)
  | meth (m : ME) (o : E) (es : L)
  | lc (vs : List Nat) (mu : Bool) (t : T) (it : I) (c : O) (e : E)
  | lc2 (vs vs1 : List Nat) (mu : Bool) (t : T) (it : I) (c : O) (t1 : T) (it1 : I) (c1 : O) (e : E)
inductive L where
  | nil | cons (e : E) (es : L)
inductive O where
  | none | some (e : E)
/-- what is walked -/
inductive I where
  | seq (e : E) | rng1 (a : E) | rng2 (a b : E) | enum (a : E) | zip (a b : E) | rev (a : E)
end
mutual
inductive S where
  | asg (t : T) (e : E)
  | par2 (i j : Nat) (a b : E)
  | par3 (i j k : Nat) (a b c : E)
  | aug (i : Nat) (o : BO) (e : E)
  | set (o i e : E)
  | expr (e : E)
  | ret (e : E) | retN
  | ite (c : E) (a b : B)
  | for_ (t : T) (it : I) (b : B)
  | while_ (c : E) (b : B)
  | brk | cont | pass
  | raise (c m : Str)
  | try_ (b : B) (cs : List Str) (hs : List (Str × List Str × Nat × Str))
inductive B where
  | nil | cons (s : S) (r : B)
end
def L.length : L → Nat
  | .nil => 0
  | .cons _ r => r.length + 1

/-! ### how they run -/
/-- the items of a walk, and the cells that have to stay as they are -/
structure Ws where
  ds : List D
  g : List (Nat × Cell)
def Ws.ok (w : Ws) (S : Store) : Bool := w.g.all fun p => decide (S[p.1]? = some p.2)
/-- a list that is walked -/
def lstW (S : Store) (x : D) : Option Ws := match x with
  | .lst xs => some ⟨xs, []⟩
  | .scr xs => some ⟨xs, []⟩
  | .adr n => match S[n]? with
    | some (.lst xs) => some ⟨xs, [(n, .lst xs)]⟩
    | _ => none
  | _ => none
/-- a tuple that is walked -/
def tupW (x : D) : Option (List D) := match x with
  | .tup xs => some xs
  | .kup xs => some xs
  | _ => none
/-- x[::-1] -/
def backV (S : Store) (x : D) : R D := match tupW x with
  | some xs => .ok (.tup xs.reverse) S
  | none => match asLst S x with
    | some xs => .ok (.lst xs.reverse) S
    | none => .stuck
/-- what is walked at a value -/
def seqW (S : Store) (x : D) : Option Ws := match tupW x with
  | some xs => some ⟨xs, []⟩
  | none => lstW S x
def enumG (f : Nat → D → D) : Nat → List D → List D
  | _, [] => []
  | i, x :: xs => f i x :: enumG f (i + 1) xs
def rngOk (i : Int) : Bool := decide (-(2 ^ 62) ≤ i) && decide (i < 2 ^ 62)
def rngL (lo : Int) (n : Nat) : List D := (List.range n).map fun (i : Nat) => D.int (lo + (i : Int))
def zipD (xs ys : List D) : List D := (xs.zip ys).map fun p => D.tup [p.1, p.2]
def enumV (S : Store) (x : D) : R Ws := match lstW S x with
  | some w => .ok ⟨enumG (fun i x => .tup [.int i, x]) 0 w.ds, w.g⟩ S
  | none => .stuck
def zipV (S : Store) (x y : D) : R Ws := match tupW x, tupW y with
  | some xs, some ys => .ok ⟨zipD xs ys, []⟩ S
  | none, none => match lstW S x, lstW S y with
    | some u, some v => .ok ⟨zipD u.ds v.ds, u.g ++ v.g⟩ S
    | _, _ => .stuck
  | _, _ => .stuck
def revW (S : Store) (x : D) : Option Ws := (seqW S x).map fun w => ⟨w.ds.reverse, w.g⟩

/-- sorted(set(xs)), ints -/
def dedI : List Int → List Int
  | [] => []
  | x :: r => if x ∈ r then dedI r else x :: dedI r
def ssetV (S : Store) (x : D) : R D := match (asLst S x).bind asInts with
  | some ns => guardR (decide (ns.length ≤ 60)) (.ok (.lst ((sortI (dedI ns)).map D.int)) S)
  | none => .stuck

/-- how targets take a value -/
def asgs : List Nat → List D → Env → Option Env
  | [], [], ρ => some ρ
  | i :: is, d :: ds, ρ => asgs is ds (ρ.set i (some d))
  | _, _, _ => none
def asgT : T → D → Env → Option Env
  | .name i, d, ρ => some (ρ.set i (some d))
  | .tup is, .tup ds, ρ => asgs is ds ρ
  | .tup _, _, _ => none

/-- the loop of a comprehension -/
def lcLoop (w : Ws) (turn : D → List D → Store → R (List D)) : List D → List D → Store → R (List D)
  | [], acc, S => guardR (w.ok S) (.ok acc S)
  | d :: ds, acc, S => guardR (w.ok S) (match turn d acc S with
    | .ok acc' S' => lcLoop w turn ds acc' S'
    | _ => .stuck)
def endL (mu : Bool) (acc : List D) (S : Store) : R D := match mu with
  | true => .ok (.adr S.length) (S ++ [.lst acc])
  | false => .ok (.lst acc) S

def callV (sh : Bool) (f : FnI) (ds : List D) (S : Store) : R D := guardR (decide (ds.length = f.ps.length)) (match sh with
  | true => f.sem S ds
  | false => guardR (D.frees ds) (match f.sem [] ds with
    | .ok d _ => guardR (D.free d) (.ok d S)
    | .exc c _ => .exc c S
    | .stuck => .stuck))
/-- the values of keywords behind the written ones, in the parameters' order -/
def argK (ps ks : List Str) (us ws : List D) : List D := us ++ (ps.drop us.length).map fun p => ((ks.zip ws).lookup p).getD .non

mutual
def evE : E → Env → Store → R D
  | .var i, ρ, S => match ρ[i]? with
    | some (some d) => .ok d S
    | _ => .stuck
  | .int i, _, S => .ok (.int i) S
  | .str s, _, S => .ok (.str s) S
  | .bl b, _, S => .ok (.bl b) S
  | .non, _, S => .ok .non S
  | .glob _ d, _, S => .ok d S
  | .tup es, ρ, S => (evL es ρ S).bind fun ds S => .ok (.tup ds) S
  | .lst es, ρ, S => (evL es ρ S).bind fun ds S => .ok (.lst ds) S
  | .new es, ρ, S => (evL es ρ S).bind fun ds S => .ok (.adr S.length) (S ++ [.lst ds])
  | .dic, _, S => .ok (.adr S.length) (S ++ [.dic []])
  | .bin o a b, ρ, S => (evE a ρ S).bind fun x S => (evE b ρ S).bind fun y S => binV o S x y
  | .neg a, ρ, S => (evE a ρ S).bind fun x S => match x with
    | .int i => .ok (.int (-i)) S
    | _ => .stuck
  | .not a, ρ, S => (evE a ρ S).bind fun x S => match truthy S x with
    | some b => .ok (.bl (!b)) S
    | none => .stuck
  | .cmp o a b, ρ, S => (evE a ρ S).bind fun x S => (evE b ρ S).bind fun y S => cmpV o S x y
  | .chain o o' a b c, ρ, S => (evE a ρ S).bind fun x S => (evE b ρ S).bind fun y S => (cmpV o S x y).bind fun z S => match z with
    | .bl true => (evE c ρ S).bind fun w S => cmpV o' S y w
    | .bl false => .ok (.bl false) S
    | _ => .stuck
  | .and es, ρ, S => evAnd es ρ S
  | .or es, ρ, S => evOr es ρ S
  | .ite c a b, ρ, S => (evE c ρ S).bind fun x S => match truthy S x with
    | some true => evE a ρ S
    | some false => evE b ρ S
    | none => .stuck
  | .ix a i, ρ, S => (evE a ρ S).bind fun x S => (evE i ρ S).bind fun y S => ixV S x y
  | .sl a lo hi, ρ, S => (evE a ρ S).bind fun x S => (evO lo ρ S).bind fun l S => (evO hi ρ S).bind fun h S => slV S x l h
  | .rev a, ρ, S => (evE a ρ S).bind fun x S => backV S x
  | .sset a, ρ, S => (evE a ρ S).bind fun x S => ssetV S x
  | .call sh f es, ρ, S => (evL es ρ S).bind fun ds S => callV sh f ds S
  | .callk sh f es ks kes, ρ, S => (evL es ρ S).bind fun us S => (evL kes ρ S).bind fun ws S => callV sh f (argK f.ps ks us ws) S
  | .bi f es, ρ, S => (evL es ρ S).bind fun ds S => biV f S ds
  | .isi a t, ρ, S => (evE a ρ S).bind fun x S => isiV S x t
  | .meth m o es, ρ, S => (evE o ρ S).bind fun x S => guardR (mkind m S x) ((evL es ρ S).bind fun ds S => methV m S x ds)
  | .lc vs mu t it c e, ρ, S => (evI it ρ S).bind fun w S =>
      (lcLoop w (fun d acc S => match asgT t d (wipeE ρ vs) with
        | some ρ1 => (evC c ρ1 S).bind fun b S => match b with
          | true => (evE e ρ1 S).bind fun y S => guardR (decide (acc.length < sizeLine)) (.ok (acc ++ [y]) S)
          | false => .ok acc S
        | none => .stuck) w.ds [] S).bind fun acc S => endL mu acc S
  | .lc2 vs vs1 mu t it c t1 it1 c1 e, ρ, S => (evI it ρ S).bind fun w S =>
      (lcLoop w (fun d acc S => match asgT t d (wipeE ρ vs) with
        | some ρ1 => (evC c ρ1 S).bind fun b S => match b with
          | true => (evI it1 ρ1 S).bind fun w1 S => lcLoop w1 (fun d1 acc S => match asgT t1 d1 (wipeE ρ1 vs1) with
              | some ρ2 => (evC c1 ρ2 S).bind fun b S => match b with
                | true => (evE e ρ2 S).bind fun y S => guardR (decide (acc.length < sizeLine)) (.ok (acc ++ [y]) S)
                | false => .ok acc S
              | none => .stuck) w1.ds acc S
          | false => .ok acc S
        | none => .stuck) w.ds [] S).bind fun acc S => endL mu acc S
def evL : L → Env → Store → R (List D)
  | .nil, _, S => .ok [] S
  | .cons e es, ρ, S => (evE e ρ S).bind fun d S => (evL es ρ S).bind fun ds S => .ok (d :: ds) S
def evAnd : L → Env → Store → R D
  | .nil, _, _ => .stuck
  | .cons e es, ρ, S => match es with
    | .nil => evE e ρ S
    | .cons _ _ => (evE e ρ S).bind fun d S => match truthy S d with
      | some true => evAnd es ρ S
      | some false => .ok d S
      | none => .stuck
def evOr : L → Env → Store → R D
  | .nil, _, _ => .stuck
  | .cons e es, ρ, S => match es with
    | .nil => evE e ρ S
    | .cons _ _ => (evE e ρ S).bind fun d S => match truthy S d with
      | some true => .ok d S
      | some false => evOr es ρ S
      | none => .stuck
/-- a part of a slice -/
def evO : O → Env → Store → R (Option Int)
  | .none, _, S => .ok none S
  | .some e, ρ, S => (evE e ρ S).bind fun d S => match d with
    | .int i => .ok (some i) S
    | _ => .stuck
/-- a clause's test -/
def evC : O → Env → Store → R Bool
  | .none, _, S => .ok true S
  | .some e, ρ, S => (evE e ρ S).bind fun d S => optR (truthy S d) S
def evI : I → Env → Store → R Ws
  | .seq e, ρ, S => (evE e ρ S).bind fun x S => optR (seqW S x) S
  | .rng1 a, ρ, S => (evE a ρ S).bind fun x S => match x with
    | .int j => guardR (rngOk j) (.ok ⟨rngL 0 j.toNat, []⟩ S)
    | _ => .stuck
  | .rng2 a b, ρ, S => (evE a ρ S).bind fun x S => (evE b ρ S).bind fun y S => match x, y with
    | .int i, .int j => guardR (rngOk i && rngOk j) (.ok ⟨rngL i (j - i).toNat, []⟩ S)
    | _, _ => .stuck
  | .enum a, ρ, S => (evE a ρ S).bind fun x S => enumV S x
  | .zip a b, ρ, S => (evE a ρ S).bind fun x S => (evE b ρ S).bind fun y S => zipV S x y
  | .rev a, ρ, S => (evE a ρ S).bind fun x S => optR (revW S x) S
end

/-- the end of a statement -/
inductive Fl where
  | next | ret (d : D) | brk | cont
inductive RS where
  | fl (f : Fl) (ρ : Env) (S : Store) | exc (c : Str) (ρ : Env) (S : Store) | stuck
/-- an expression's outcome within a statement -/
def R.then {α : Type} (r : R α) (ρ : Env) (f : α → Store → RS) : RS := match r with
  | .ok a S => f a S
  | .exc c S => .exc c ρ S
  | .stuck => .stuck
@[simp] theorem R.then_ok {α : Type} (a : α) (S : Store) (ρ : Env) (f : α → Store → RS) : (R.ok a S).then ρ f = f a S := rfl
@[simp] theorem R.then_exc {α : Type} (c : Str) (S : Store) (ρ : Env) (f : α → Store → RS) : (R.exc c S).then ρ f = .exc c ρ S := rfl
@[simp] theorem R.then_stuck {α : Type} (ρ : Env) (f : α → Store → RS) : (R.stuck : R α).then ρ f = .stuck := rfl
def forLoop (w : Ws) (t : T) (body : Env → Store → RS) : List D → Env → Store → RS
  | [], ρ, S => match w.ok S with
    | true => .fl .next ρ S
    | false => .stuck
  | d :: ds, ρ, S => match w.ok S with
    | true => match asgT t d ρ with
      | some ρ1 => match body ρ1 S with
        | .fl .next ρ2 S2 => forLoop w t body ds ρ2 S2
        | .fl .cont ρ2 S2 => forLoop w t body ds ρ2 S2
        | .fl .brk ρ2 S2 => .fl .next ρ2 S2
        | r => r
      | none => .stuck
    | false => .stuck
def whileLoop (c : Env → Store → R D) (body : Env → Store → RS) : Nat → Env → Store → RS
  | 0, _, _ => .stuck
  | n + 1, ρ, S => (c ρ S).then ρ fun d S => match truthy S d with
    | some true => match body ρ S with
      | .fl .next ρ2 S2 => whileLoop c body n ρ2 S2
      | .fl .cont ρ2 S2 => whileLoop c body n ρ2 S2
      | .fl .brk ρ2 S2 => .fl .next ρ2 S2
      | r => r
    | some false => .fl .next ρ S
    | none => .stuck
/-- a clause: its class, those of cs that it takes, the slot and the text that it stores -/
def handle : List (Str × List Str × Nat × Str) → Str → Env → Store → RS
  | [], c, ρ, S => .exc c ρ S
  | (_, l, i, m) :: r, c, ρ, S => match decide (c ∈ l) with
    | true => .fl .next (ρ.set i (some (.str m))) S
    | false => handle r c ρ S
mutual
/-- n: how many turns a while may take -/
def evS (n : Nat) : PX.S → Env → Store → RS
  | .asg t e, ρ, S => (evE e ρ S).then ρ fun d S => match asgT t d ρ with
    | some ρ1 => .fl .next ρ1 S
    | none => .stuck
  | .par2 i j a b, ρ, S => (evE a ρ S).then ρ fun x S => (evE b ρ S).then ρ fun y S => .fl .next ((ρ.set i (some x)).set j (some y)) S
  | .par3 i j k a b c, ρ, S => (evE a ρ S).then ρ fun x S => (evE b ρ S).then ρ fun y S => (evE c ρ S).then ρ fun z S => .fl .next (((ρ.set i (some x)).set j (some y)).set k (some z)) S
  | .aug i o e, ρ, S => match ρ[i]? with
    | some (some x) => (evE e ρ S).then ρ fun y S => (match x, y with
      | .int _, .int _ => binV o S x y
      | _, _ => .stuck).then ρ fun z S => .fl .next (ρ.set i (some z)) S
    | _ => .stuck
  | .set o i e, ρ, S => (evE e ρ S).then ρ fun v S => (evE o ρ S).then ρ fun x S => (evE i ρ S).then ρ fun y S => (setV S x y v).then ρ fun _ S => .fl .next ρ S
  | .expr e, ρ, S => (evE e ρ S).then ρ fun _ S => .fl .next ρ S
  | .ret e, ρ, S => (evE e ρ S).then ρ fun d S => .fl (.ret d) ρ S
  | .retN, ρ, S => .fl (.ret .non) ρ S
  | .ite c a b, ρ, S => (evE c ρ S).then ρ fun d S => match truthy S d with
    | some true => evB n a ρ S
    | some false => evB n b ρ S
    | none => .stuck
  | .for_ t it b, ρ, S => (evI it ρ S).then ρ fun w S => forLoop w t (evB n b) w.ds ρ S
  | .while_ c b, ρ, S => whileLoop (evE c) (evB n b) n ρ S
  | .brk, ρ, S => .fl .brk ρ S
  | .cont, ρ, S => .fl .cont ρ S
  | .pass, ρ, S => .fl .next ρ S
  | .raise c _, ρ, S => .exc c ρ S
  | .try_ b cs hs, ρ, S => match evB n b ρ S with
    | .exc c ρ' S' => match decide (c ∈ cs) with
      | true => handle hs c ρ' S'
      | false => .stuck
    | r => r
def evB (n : Nat) : B → Env → Store → RS
  | .nil, ρ, S => .fl .next ρ S
  | .cons s r, ρ, S => match evS n s ρ S with
    | .fl .next ρ' S' => evB n r ρ' S'
    | q => q
end
/-- a def's body at its arguments; m: the number of its names -/
def runB (n m : Nat) (b : B) (S : Store) (ds : List D) : R D := match evB n b (ds.map some ++ List.replicate (m - ds.length) none) S with
  | .fl .next _ S' => .ok .non S'
  | .fl (.ret d) _ S' => .ok d S'
  | .exc c _ S' => .exc c S'
  | _ => .stuck
end PX

/-! PX3: the machine's operators keep the plain ones. -/
namespace PX
open PySem L2

section
variable {K : PySem.W.Frag} {H : Hp} {bar io : List Addr} {S : Store}
/-- a new object that stays -/
theorem Ext.new {p : Addr} {o : HO} (hp : H p = none) : Ext H bar io (upd H p o) bar io := by
  refine ⟨⟨[], by simp, by simp⟩, fun _ h => .inl h, fun _ h => h, fun a u h _ => ?_, fun a h => ?_⟩
  · rw [upd_ne (ne_of_none h hp)]; exact h
  · by_cases e : a = p
    · subst e; rw [upd_same] at h; cases h
    · rw [upd_ne e] at h; exact h
theorem StRep.new {p : Addr} {o : HO} (st : StRep K H bar io S) (hp : H p = none) : StRep K (upd H p o) bar io S := by
  refine st.mono (Ext.new hp) (fun a ha => ?_) fun a ha => ?_
  · have := st.bal a (st.sub a ha)
    rw [upd_ne (show a ≠ p from fun e => by rw [e, hp] at this; exact this)]
  · have := st.bal a ha
    rw [upd_ne (show a ≠ p from fun e => by rw [e, hp] at this; exact this)]; exact this
theorem StRep.notBar {p : Addr} (st : StRep K H bar io S) (hp : H p = none) : p ∉ bar := fun h => by have := st.bal p h; rw [hp] at this; exact this
/-- a new cell -/
theorem Ext.cell {p : Addr} {o : HO} (hp : H p = none) : Ext H bar io (upd H p o) (p :: bar) (io ++ [p]) := by
  refine ⟨⟨[p], rfl, by simpa using hp⟩, fun q h => ?_, fun q h => List.mem_cons_of_mem _ h, fun a u h _ => ?_, fun a h => ?_⟩
  · rcases List.mem_cons.mp h with e | h
    · exact .inr (e ▸ hp)
    · exact .inl h
  · rw [upd_ne (ne_of_none h hp)]; exact h
  · by_cases e : a = p
    · subst e; rw [upd_same] at h; cases h
    · rw [upd_ne e] at h; exact h
theorem StRep.cell' {p : Addr} {o : HO} {c : Cell} (st : StRep K H bar io S) (hp : H p = none) (r : CellRep K (upd H p o) (p :: bar) (io ++ [p]) o c) : StRep K (upd H p o) (p :: bar) (io ++ [p]) (S ++ [c]) := by
  have x : Ext H bar io (upd H p o) (p :: bar) (io ++ [p]) := Ext.cell hp
  have nb := st.notBar hp
  refine ⟨by simp [st.len], ?_, fun a ha => ?_, fun a ha => ?_, fun n d hn => ?_⟩
  · refine List.nodup_append.mpr ⟨st.nd, List.nodup_cons.mpr ⟨by simp, List.nodup_nil⟩, fun a ha b hb e => ?_⟩
    have : b = p := by simpa using hb
    rw [e, this] at ha
    exact nb (st.sub p ha)
  · rcases List.mem_append.mp ha with h | h
    · exact List.mem_cons_of_mem _ (st.sub a h)
    · have : a = p := by simpa using h
      rw [this]; exact List.mem_cons_self
  · by_cases e : a = p
    · rw [e, upd_same]; exact r.mutb
    · rw [upd_ne e]
      rcases List.mem_cons.mp ha with h | h
      · exact absurd h e
      · exact st.bal a h
  · by_cases hl : n < S.length
    · rw [List.getElem?_append_left hl] at hn
      obtain ⟨a, u, e1, e2, q⟩ := st.cell n d hn
      refine ⟨a, u, ?_, ?_, q.mono x st.live⟩
      · rw [List.getElem?_append_left (by rw [← st.len]; exact hl)]; exact e1
      · rw [upd_ne (ne_of_none e2 hp)]; exact e2
    · have hl' : S.length ≤ n := Nat.le_of_not_lt hl
      rw [List.getElem?_append_right hl'] at hn
      have : n - S.length = 0 := by
        by_cases z : n - S.length = 0
        · exact z
        · rw [List.getElem?_eq_none (by simp; omega)] at hn; cases hn
      rw [this] at hn
      have e : c = d := by simpa using hn
      subst e
      refine ⟨p, o, ?_, upd_same, r⟩
      rw [List.getElem?_append_right (by rw [← st.len]; exact hl'), ← st.len, this]
      rfl
/-- a cell is written -/
theorem Ext.wr {a : Addr} {o : HO} (ha : a ∈ io) : Ext H bar io (upd H a o) bar io := by
  refine ⟨⟨[], by simp, by simp⟩, fun _ h => .inl h, fun _ h => h, fun b u h hb => ?_, fun b h => ?_⟩
  · rw [upd_ne (show b ≠ a from fun e => hb (e ▸ ha))]; exact h
  · by_cases e : b = a
    · subst e; rw [upd_same] at h; cases h
    · rw [upd_ne e] at h; exact h
theorem StRep.wr {n : Nat} {a : Addr} {o : HO} {c : Cell} (st : StRep K H bar io S) (ha : io[n]? = some a) (r : CellRep K (upd H a o) bar io o c) : StRep K (upd H a o) bar io (S.set n c) := by
  have hm : a ∈ io := List.mem_of_getElem? ha
  have x : Ext H bar io (upd H a o) bar io := Ext.wr hm
  refine ⟨by simp [st.len], st.nd, st.sub, fun b hb => ?_, fun m d hd => ?_⟩
  · by_cases e : b = a
    · rw [e, upd_same]; exact r.mutb
    · rw [upd_ne e]; exact st.bal b hb
  · by_cases e : n = m
    · subst e
      have hl : n < S.length := by rw [st.len]; exact (List.getElem?_eq_some_iff.mp ha).1
      rw [List.getElem?_set_self hl] at hd
      cases hd
      exact ⟨a, o, ha, upd_same, r⟩
    · rw [List.getElem?_set_ne e] at hd
      obtain ⟨b, u, e1, e2, q⟩ := st.cell m d hd
      refine ⟨b, u, e1, ?_, q.mono x st.live⟩
      rw [upd_ne fun z => ?_]
      · exact e2
      · subst z
        obtain ⟨h1, g1⟩ := List.getElem?_eq_some_iff.mp ha
        obtain ⟨h2, g2⟩ := List.getElem?_eq_some_iff.mp e1
        exact e ((List.getElem_inj st.nd).mp (g1.trans g2.symm))

/-- a list that is read -/
theorem asLst_rep {x : V} {d : D} {xs : List D} (st : StRep K H bar io S) (r : Rep K H bar io x d) (h : asLst S d = some xs) : ∃ a vs, x = .ref a ∧ SqL K H a vs ∧ vs.length ≤ sizeLine ∧ Reps K H bar io vs xs := by
  cases r with
  | lst e b z r => cases h; exact ⟨_, _, rfl, .inl (.inl e), z, r⟩
  | scr e z r => cases h; exact ⟨_, _, rfl, .inl (.inr ⟨_, e⟩), z, r⟩
  | scrK e c dd d z v r => cases h; exact ⟨_, _, rfl, .inr ⟨_, _, _, e, c, dd, d, z, v⟩, by rw [v.length]; simpa using z, r⟩
  | @adr a n e =>
    have h : (match S[n]? with | some (.lst xs) => some xs | _ => none) = some xs := h
    cases hc : S[n]? with
    | none => rw [hc] at h; cases h
    | some c =>
      rw [hc] at h
      cases c with
      | dic _ => cases h
      | lst ys =>
        cases h
        obtain ⟨a', o, e1, e2, q⟩ := st.cell n _ hc
        rw [e] at e1; cases e1
        cases q with
        | lst z q => exact ⟨_, _, rfl, .inl (.inl e2), z, q⟩
  | _ => cases h
theorem asLstW_rep {x : V} {d : D} {xs : List D} (st : StRep K H bar io S) (r : Rep K H bar io x d) (h : asLstW S d = some xs) : ∃ a vs, x = .ref a ∧ H a = some (.lst vs) ∧ vs.length ≤ sizeLine ∧ Reps K H bar io vs xs := by
  cases r with
  | lst e b z r => cases h; exact ⟨_, _, rfl, e, z, r⟩
  | @adr a n e =>
    have h : (match S[n]? with | some (.lst xs) => some xs | _ => none) = some xs := h
    cases hc : S[n]? with
    | none => rw [hc] at h; cases h
    | some c =>
      rw [hc] at h
      cases c with
      | dic _ => cases h
      | lst ys =>
        cases h
        obtain ⟨a', o, e1, e2, q⟩ := st.cell n _ hc
        rw [e] at e1; cases e1
        cases q with
        | lst z q => exact ⟨_, _, rfl, e2, z, q⟩
  | _ => cases h
theorem asDic_rep {x : V} {d : D} {xs : List (Key × D)} (st : StRep K H bar io S) (r : Rep K H bar io x d) (h : asDic S d = some xs) : ∃ a vs, x = .ref a ∧ H a = some (.dK vs) ∧ vs.length ≤ sizeLine ∧ RepK K H bar io vs xs := by
  cases r with
  | @adr a n e =>
    have h : (match S[n]? with | some (.dic xs) => some xs | _ => none) = some xs := h
    cases hc : S[n]? with
    | none => rw [hc] at h; cases h
    | some c =>
      rw [hc] at h
      cases c with
      | lst _ => cases h
      | dic ys =>
        cases h
        obtain ⟨a', o, e1, e2, q⟩ := st.cell n _ hc
        rw [e] at e1; cases e1
        cases q with
        | dic z q => exact ⟨_, _, rfl, e2, z, q⟩
  | _ => cases h
theorem asKey_rep {x : V} {d : D} {k : Key} (r : Rep K H bar io x d) (h : asKey d = some k) : x = kV k := by
  cases r <;> simp [asKey] at h <;> subst h <;> rfl
theorem keyD_rep {x : V} {k : Key} (r : Rep K H bar io x (keyD k)) : x = kV k := by
  cases k <;> (cases r; rfl)
/-- entries -/
theorem RepK.val (k : Key) : ∀ {vs : List (Key × V)} {ds : List (Key × D)}, RepK K H bar io vs ds → (valV vs k).isSome = (valD ds k).isSome ∧ ∀ d, valD ds k = some d → ∃ v, valV vs k = some v ∧ Rep K H bar io v d
  | _, _, .nil => ⟨rfl, fun d h => by simp [valD] at h⟩
  | _, _, .cons (k := k') (v := v) (d := d) r t => by
    by_cases e : k' = k
    · rw [valV_pos (p := (k', v)) e]
      have : ∀ l : List (Key × D), valD ((k', d) :: l) k = some d := fun l => by simp [valD, List.find?_cons, e]
      rw [this]
      exact ⟨rfl, fun d' h => by cases h; exact ⟨v, rfl, r⟩⟩
    · rw [valV_neg (p := (k', v)) e]
      have : ∀ l : List (Key × D), valD ((k', d) :: l) k = valD l k := fun l => by simp [valD, List.find?_cons, e]
      rw [this]
      exact RepK.val k t
theorem RepK.any (k : Key) : ∀ {vs : List (Key × V)} {ds : List (Key × D)}, RepK K H bar io vs ds → (vs.any fun kv => decide (kv.1 = k)) = ds.any fun kv => decide (kv.1 = k)
  | _, _, .nil => rfl
  | _, _, .cons r t => by rw [List.any_cons, List.any_cons, RepK.any k t]
theorem RepK.repl (k : Key) {v : V} {d : D} (r : Rep K H bar io v d) : ∀ {vs : List (Key × V)} {ds : List (Key × D)}, RepK K H bar io vs ds → RepK K H bar io (vs.map fun kv => if kv.1 = k then (kv.1, v) else kv) (ds.map fun kv => if kv.1 = k then (kv.1, d) else kv)
  | _, _, .nil => .nil
  | _, _, .cons (k := k') r' t => by
    rw [List.map_cons, List.map_cons]
    by_cases e : k' = k
    · simp only [e, if_true]
      exact .cons r (RepK.repl k r t)
    · simp only [e, if_false]
      exact .cons r' (RepK.repl k r t)
theorem RepK.snoc {k : Key} {v : V} {d : D} (r : Rep K H bar io v d) : ∀ {vs : List (Key × V)} {ds : List (Key × D)}, RepK K H bar io vs ds → RepK K H bar io (vs ++ [(k, v)]) (ds ++ [(k, d)])
  | _, _, .nil => .cons r .nil
  | _, _, .cons r' t => .cons r' (RepK.snoc r t)
theorem RepK.put (k : Key) {v : V} {d : D} (r : Rep K H bar io v d) {vs : List (Key × V)} {ds : List (Key × D)} (h : RepK K H bar io vs ds) : RepK K H bar io (putK vs k v) (putD ds k d) := by
  unfold putK putD
  rw [h.any k]
  split
  · exact h.repl k r
  · exact h.snoc r
/-- a tuple -/
theorem tup_rep {x : V} {xs : List D} (r : Rep K H bar io x (.tup xs)) : ∃ a vs, x = .ref a ∧ SqT K H a vs ∧ vs.length ≤ sizeLine ∧ Reps K H bar io vs xs := by
  cases r with
  | tup h z r => exact ⟨_, _, rfl, .inl (.inl h), z, r⟩
theorem tup_repH {x : V} {xs : List D} (r : Rep K H bar io x (.tup xs)) : ∃ a vs, x = .ref a ∧ H a = some (.tup vs) ∧ vs.length ≤ sizeLine ∧ Reps K H bar io vs xs := by
  cases r with
  | tup h z r => exact ⟨_, _, rfl, h, z, r⟩
theorem kup_rep {x : V} {xs : List D} (r : Rep K H bar io x (.kup xs)) : ∃ a vs, x = .ref a ∧ SqT K H a vs ∧ vs.length ≤ sizeLine ∧ Reps K H bar io vs xs := by
  cases r with
  | kup h c d z v r => exact ⟨_, _, rfl, .inr ⟨_, _, _, h, c, d, z, v⟩, by rw [v.length]; simpa using z, r⟩

/-! ### == -/
mutual
def D.py : D → PyData
  | .non => .none
  | .bl b => .bool b
  | .int i => .int i
  | .str s => .str s
  | .tup xs => .tuple (D.pys xs)
  | .lst xs => .list (D.pys xs)
  | .scr xs => .list (D.pys xs)
  | .kup xs => .tuple (D.pys xs)
  | .adr _ => .none
def D.pys : List D → List PyData
  | [] => []
  | x :: xs => D.py x :: D.pys xs
end
end
mutual
theorem eqv_py : ∀ a b : D, a.free = true → b.free = true → PyData.eqv a.py b.py = D.eqv a b
  | .non, b, _, hb => by cases b <;> simp_all [D.py, PyData.eqv, D.eqv, D.free]
  | .bl x, b, _, hb => by cases b <;> simp_all [D.py, PyData.eqv, D.eqv, D.free]
  | .int x, b, _, hb => by cases b <;> simp_all [D.py, PyData.eqv, D.eqv, D.free]
  | .str x, b, _, hb => by cases b <;> simp_all [D.py, PyData.eqv, D.eqv, D.free]
  | .tup xs, b, ha, hb => by
    cases b <;> first
      | (simp only [D.py, PyData.eqv, D.eqv, D.free] at *; exact eqvs_py xs _ ha hb)
      | simp_all [D.py, PyData.eqv, D.eqv, D.free]
  | .lst xs, b, ha, hb => by
    cases b <;> first
      | (simp only [D.py, PyData.eqv, D.eqv, D.free] at *; exact eqvs_py xs _ ha hb)
      | simp_all [D.py, PyData.eqv, D.eqv, D.free]
  | .scr xs, b, ha, hb => by
    cases b <;> first
      | (simp only [D.py, PyData.eqv, D.eqv, D.free] at *; exact eqvs_py xs _ ha hb)
      | simp_all [D.py, PyData.eqv, D.eqv, D.free]
  | .kup xs, b, ha, hb => by
    cases b <;> first
      | (simp only [D.py, PyData.eqv, D.eqv, D.free] at *; exact eqvs_py xs _ ha hb)
      | simp_all [D.py, PyData.eqv, D.eqv, D.free]
  | .adr _, _, ha, _ => by simp [D.free] at ha
theorem eqvs_py : ∀ a b : List D, D.frees a = true → D.frees b = true → PyData.eqvAll (D.pys a) (D.pys b) = D.eqvs a b
  | [], b, _, _ => by cases b <;> simp [D.pys, PyData.eqvAll, D.eqvs]
  | x :: xs, b, ha, hb => by
    cases b with
    | nil => simp [D.pys, PyData.eqvAll, D.eqvs]
    | cons y ys =>
      simp only [D.frees, Bool.and_eq_true] at ha hb
      simp only [D.pys, PyData.eqvAll, D.eqvs]
      rw [eqv_py x y ha.1 hb.1, eqvs_py xs ys ha.2 hb.2]
end
mutual
theorem depth_py : ∀ a : D, a.free = true → PyData.depth a.py = a.depth
  | .non, _ => by simp [D.py, PyData.depth, D.depth]
  | .bl _, _ => by simp [D.py, PyData.depth, D.depth]
  | .int _, _ => by simp [D.py, PyData.depth, D.depth]
  | .str _, _ => by simp [D.py, PyData.depth, D.depth]
  | .tup xs, h => by simp only [D.py, PyData.depth, D.depth]; rw [depths_py xs (by simpa [D.free] using h)]
  | .lst xs, h => by simp only [D.py, PyData.depth, D.depth]; rw [depths_py xs (by simpa [D.free] using h)]
  | .scr xs, h => by simp only [D.py, PyData.depth, D.depth]; rw [depths_py xs (by simpa [D.free] using h)]
  | .kup xs, h => by simp only [D.py, PyData.depth, D.depth]; rw [depths_py xs (by simpa [D.free] using h)]
  | .adr _, h => by simp [D.free] at h
theorem depths_py : ∀ a : List D, D.frees a = true → PyData.depthAll (D.pys a) = D.depths a
  | [], _ => by simp [D.pys, PyData.depthAll, D.depths]
  | x :: xs, h => by
    simp only [D.frees, Bool.and_eq_true] at h
    simp only [D.pys, PyData.depthAll, D.depths]
    rw [depth_py x h.1, depths_py xs h.2]
end
section
variable {K : PySem.W.Frag} {H : Hp} {bar io : List Addr} {S : Store}
mutual
theorem Rep.dp : ∀ {v : V} {d : D}, d.free = true → Rep K H bar io v d → Dp K H v d.py ∧ d.py.canLay0 = true
  | _, _, _, .non => ⟨.non, by simp [D.py, PyData.canLay0]⟩
  | _, _, _, .bl b => ⟨.bl b, by simp [D.py, PyData.canLay0]⟩
  | _, _, _, .int i => ⟨.int i, by simp [D.py, PyData.canLay0]⟩
  | _, _, _, .str s _ k => ⟨.str s, by simp [D.py, PyData.canLay0, k]⟩
  | _, _, f, .tup h z r => by
    obtain ⟨a, b⟩ := Reps.dp (by simpa [D.free] using f) r
    exact ⟨.tup (.inl (.inl h)) a, by simpa [D.py, PyData.canLay0] using b⟩
  | _, _, f, .kup h c d z v r => by
    obtain ⟨a, b⟩ := Reps.dp (by simpa [D.free] using f) r
    exact ⟨.tup (.inr ⟨_, _, _, h, c, d, z, v⟩) a, by simpa [D.py, PyData.canLay0] using b⟩
  | _, _, f, .lst h b z r => by
    obtain ⟨a, b⟩ := Reps.dp (by simpa [D.free] using f) r
    exact ⟨.lst (.inl (.inl h)) a, by simpa [D.py, PyData.canLay0] using b⟩
  | _, _, f, .scr h z r => by
    obtain ⟨a, b⟩ := Reps.dp (by simpa [D.free] using f) r
    exact ⟨.lst (.inl (.inr ⟨_, h⟩)) a, by simpa [D.py, PyData.canLay0] using b⟩
  | _, _, f, .scrK h c dd d z v r => by
    obtain ⟨a, b⟩ := Reps.dp (by simpa [D.free] using f) r
    exact ⟨.lst (.inr ⟨_, _, _, h, c, dd, d, z, v⟩) a, by simpa [D.py, PyData.canLay0] using b⟩
  | _, _, f, .adr h => by simp [D.free] at f
theorem Reps.dp : ∀ {vs : List V} {ds : List D}, D.frees ds = true → Reps K H bar io vs ds → DpAll K H vs (D.pys ds) ∧ PyData.canLayAll0 (D.pys ds) = true
  | _, _, _, .nil => ⟨.nil, by simp [D.pys, PyData.canLayAll0]⟩
  | _, _, f, .cons r t => by
    simp only [D.frees, Bool.and_eq_true] at f
    obtain ⟨a, b⟩ := Rep.dp f.1 r
    obtain ⟨c, d⟩ := Reps.dp f.2 t
    exact ⟨.cons a c, by simp [D.pys, PyData.canLayAll0, b, d]⟩
end
theorem snap_rep {x : V} {d d' : D} (st : StRep K H bar io S) (r : Rep K H bar io x d) (h : snap S d = some d') : d'.free = true ∧ Dp K H x d'.py ∧ d'.py.canLay0 = true := by
  have easy : ∀ {d : D}, Rep K H bar io x d → (if D.free d = true then some d else none) = some d' → d'.free = true ∧ Dp K H x d'.py ∧ d'.py.canLay0 = true := fun {d} r h => by
    split at h
    · rename_i f
      cases h
      obtain ⟨a, b⟩ := r.dp f
      exact ⟨f, a, b⟩
    · cases h
  cases r with
  | @adr a n e =>
    have h : (match S[n]? with | some (.lst xs) => if D.frees xs = true then some (D.lst xs) else none | _ => none) = some d' := h
    cases hc : S[n]? with
    | none => rw [hc] at h; cases h
    | some c =>
      rw [hc] at h
      cases c with
      | dic _ => cases h
      | lst ys =>
        have h : (if D.frees ys = true then some (D.lst ys) else none) = some d' := h
        split at h
        · rename_i f
          cases h
          obtain ⟨a', o, e1, e2, q⟩ := st.cell n _ hc
          rw [e] at e1; cases e1
          cases q with
          | lst z q =>
            obtain ⟨a1, a2⟩ := q.dp f
            exact ⟨by simpa [D.free] using f, .lst (.inl (.inl e2)) a1, by simpa [D.py, PyData.canLay0] using a2⟩
        · cases h
  | non => exact easy .non h
  | bl b => exact easy (.bl b) h
  | int i => exact easy (.int i) h
  | str s z k => exact easy (.str s z k) h
  | tup a b c => exact easy (.tup a b c) h
  | lst a b c d => exact easy (.lst a b c d) h
  | scr a b c => exact easy (.scr a b c) h
  | scrK a b c d e f g => exact easy (.scrK a b c d e f g) h
  | kup a b c d e f => exact easy (.kup a b c d e f) h
end

/-! ### operators as rules -/
/-- f of two values; it may lay new things -/
def rOp (K : PySem.W.Frag) (f : Store → D → D → R D) : R2 := fun x y H Q => ∃ bar io S dx dy d S', StRep K H bar io S ∧ Rep K H bar io x dx ∧ Rep K H bar io y dy ∧ f S dx dy = .ok d S' ∧
  ∀ v H' bar' io', Ext H bar io H' bar' io' → StRep K H' bar' io' S' → Rep K H' bar' io' v d → Q v H'
theorem guardR_ok {α : Type} {b : Bool} {r : R α} {d : α} {S : Store} (h : guardR b r = .ok d S) : b = true ∧ r = .ok d S := by
  cases b
  · cases h
  · exact ⟨rfl, h⟩
theorem small64_iff {i : Int} (h : small64 i = true) : -(2 ^ 64) < i ∧ i < 2 ^ 64 := by
  simpa [small64] using h
theorem powOk_iff {i j : Int} (h : powOk i j = true) : CPow i j := by
  simp only [powOk, Bool.and_eq_true, decide_eq_true_eq] at h
  exact ⟨h.1.1, h.1.2, h.2⟩
section
variable {X : Cx}
def opOf : BO → Operator
  | .add => .Add | .sub => .Sub | .mul => .Mult | .fdiv => .FloorDiv | .mod => .Mod | .pow => .Pow
  | .and => .BitAnd | .or => .BitOr | .xor => .BitXor | .shl => .LShift | .shr => .RShift
theorem op_int (o : BO) {i j : Int} {d : D} {S S' : Store} {H : Hp} {Q : VK} {pins : List (Addr × Obj)} {s : Shared} {σ : St} {v u : Value} (I : Inv X pins σ H s) (rx : RelV (.int i) v) (ry : RelV (.int j) u)
    (h : binV o S (.int i) (.int j) = .ok d S') (q : ∀ k, d = .int k → S' = S → Q (.int k) H) : wpAny (model X.prog X.w) X.A (binaryOp (opOf o) v u) (EP X pins σ Q) X.xe s := by
  cases o
  case add => cases h; exact op_add pins s σ H _ _ v u Q I rx ry ⟨i, j, rfl, rfl, q _ rfl rfl⟩
  case sub => cases h; exact op_sub pins s σ H _ _ v u Q I rx ry ⟨i, j, rfl, rfl, q _ rfl rfl⟩
  case mul =>
    obtain ⟨g, h⟩ := guardR_ok h
    cases h
    simp only [mulOk, Bool.or_eq_true, decide_eq_true_eq] at g
    rcases g with (g | g) | g
    · exact op_mul pins s σ H _ _ v u Q I rx ry ⟨i, j, rfl, rfl, .inl (small64_iff g), q _ rfl rfl⟩
    · exact op_mul pins s σ H _ _ v u Q I rx ry ⟨i, j, rfl, rfl, .inr (small64_iff g), q _ rfl rfl⟩
    · exact op_mulW pins s σ H _ _ v u Q I rx ry ⟨i, j, rfl, rfl, g, q _ rfl rfl⟩
  case fdiv =>
    obtain ⟨g, h⟩ := guardR_ok h
    cases h
    simp only [divOk, Bool.and_eq_true, decide_eq_true_eq] at g
    exact op_fdivW pins s σ H _ _ v u Q I rx ry ⟨i, j, rfl, rfl, g, q _ rfl rfl⟩
  case mod =>
    obtain ⟨g, h⟩ := guardR_ok h
    cases h
    exact op_mod pins s σ H _ _ v u Q I rx ry ⟨i, j, rfl, rfl, of_decide_eq_true g, q _ rfl rfl⟩
  case pow =>
    obtain ⟨g, h⟩ := guardR_ok h
    cases h
    exact op_pow pins s σ H _ _ v u Q I rx ry ⟨i, j, rfl, rfl, powOk_iff g, q _ rfl rfl⟩
  case and => cases h; exact op_and pins s σ H _ _ v u Q I rx ry ⟨i, j, rfl, rfl, q _ rfl rfl⟩
  case or => cases h; exact op_or pins s σ H _ _ v u Q I rx ry ⟨i, j, rfl, rfl, q _ rfl rfl⟩
  case xor => cases h; exact op_xor pins s σ H _ _ v u Q I rx ry ⟨i, j, rfl, rfl, q _ rfl rfl⟩
  case shl =>
    obtain ⟨g, h⟩ := guardR_ok h
    cases h
    exact op_shl pins s σ H _ _ v u Q I rx ry ⟨i, j, rfl, rfl, powOk_iff g, q _ rfl rfl⟩
  case shr =>
    obtain ⟨g, h⟩ := guardR_ok h
    cases h
    exact op_shr pins s σ H _ _ v u Q I rx ry ⟨i, j, rfl, rfl, of_decide_eq_true g, q _ rfl rfl⟩
end
end PX

/-! PX4: operators, comparisons, items, slices, built-ins, methods as rules of the layer. -/
namespace PX
open PySem L2
theorem len_rep {α : Type} (xs : List α) : ∀ k : Nat, (List.replicate k xs).flatten.length = xs.length * k
  | 0 => by simp
  | k + 1 => by rw [List.replicate_succ, List.flatten_cons, List.length_append, len_rep xs k, Nat.mul_succ, Nat.add_comm]
section
variable {X : Cx}
theorem op_bin (o : BO) : OpR X (binaryOp (opOf o)) (rOp X.K (binV o)) := by
  intro pins s σ H x y v u Q I rx ry h
  obtain ⟨bar, io, S, dx, dy, d, S', st, r1, r2, h, q⟩ := h
  have lay : ∀ {f : V → Hp → Prop}, True := fun {_} => trivial
  unfold binV at h
  split at h
  · rename_i i j
    cases r1; cases r2
    exact op_int (S := S) o I rx ry (S' := S') (d := d) h fun k e eS => by subst e; subst eS; exact q _ _ _ _ Ext.refl st (.int k)
  · rename_i a b
    cases r1 with
    | str _ za ka =>
    cases r2 with
    | str _ zb kb =>
    split at h
    · obtain ⟨g, h⟩ := guardR_ok h
      cases h
      have g := of_decide_eq_true g
      refine op_add_str pins s σ H _ _ v u Q I rx ry ⟨a, b, rfl, rfl, g, q _ _ _ _ Ext.refl st (.str _ ?_ ?_)⟩
      · rw [PySem.Str.length_append]; exact g
      · simp only [PyData.strOk] at ka kb ⊢
        show (a.cps ++ b.cps).all _ = true
        rw [Array.all_append, ka, kb]; rfl
    · cases h
  · rename_i a b
    obtain ⟨p1, vs1, rfl, h1, z1, q1⟩ := tup_rep r1
    obtain ⟨p2, vs2, rfl, h2, z2, q2⟩ := tup_rep r2
    split at h
    · obtain ⟨g, h⟩ := guardR_ok h
      cases h
      have g := of_decide_eq_true g
      rw [← q1.length, ← q2.length] at g
      refine op_catA pins s σ H _ _ v u Q I rx ry ⟨p1, p2, vs1, vs2, rfl, rfl, h1, h2, g, fun e => ?_, fun _ e => ?_, fun _ _ p hp => ?_⟩
      · subst e; cases q1; exact q _ _ _ _ Ext.refl st (by simpa using r2)
      · subst e; cases q2; exact q _ _ _ _ Ext.refl st (by simpa using r1)
      · have x1 : Ext H bar io (upd H p (.tup (vs1 ++ vs2))) bar io := Ext.new hp
        exact q _ _ _ _ x1 (st.new hp) (.tup upd_same (by rw [List.length_append]; exact g) ((q1.append q2).mono x1 st.live))
    · cases h
  · rename_i k _
    cases r2
    split at h
    · split at h
      · rename_i a ha
        obtain ⟨g, h⟩ := guardR_ok h
        cases h
        simp only [Bool.and_eq_true, decide_eq_true_eq] at g
        obtain ⟨p1, vs1, rfl, h1, z1, q1⟩ := asLstW_rep st r1 ha
        rw [← q1.length] at g
        refine op_rep pins s σ H _ _ v u Q I rx ry ⟨p1, k, vs1, rfl, rfl, h1, g.1.1, g.1.2, g.2, fun p hp => ?_⟩
        have x1 : Ext H bar io (upd H p (.lst (List.replicate k.toNat vs1).flatten)) bar io := Ext.new hp
        have rr := (q1.rep k.toNat).mono x1 st.live
        refine q _ _ _ _ x1 (st.new hp) (.lst upd_same (st.notBar hp) ?_ rr)
        rw [len_rep]; exact g.2
      · cases h
    · cases h
  · split at h
    · split at h
      · rename_i a b ha hb
        obtain ⟨g, h⟩ := guardR_ok h
        cases h
        have g := of_decide_eq_true g
        obtain ⟨p1, vs1, rfl, h1, z1, q1⟩ := asLstW_rep st r1 ha
        obtain ⟨p2, vs2, rfl, h2, z2, q2⟩ := asLstW_rep st r2 hb
        rw [← q1.length, ← q2.length] at g
        refine op_cat pins s σ H _ _ v u Q I rx ry ⟨p1, p2, vs1, vs2, rfl, rfl, h1, h2, g, fun p hp => ?_⟩
        have x1 : Ext H bar io (upd H p (.lst (vs1 ++ vs2))) bar io := Ext.new hp
        exact q _ _ _ _ x1 (st.new hp) (.lst upd_same (st.notBar hp) (by rw [List.length_append]; exact g) ((q1.append q2).mono x1 st.live))
      · cases h
    · cases h

/-! ### comparisons -/
theorem op_eq2 (hu : X.A.units + 64 < cLine) : OpR X (compareOp .Eq) (rOp X.K (eqR false)) := by
  intro pins s σ H x y v u Q I rx ry h
  obtain ⟨bar, io, S, dx, dy, d, S', st, r1, r2, h, q⟩ := h
  unfold eqR at h
  split at h
  · rename_i a b ha hb
    obtain ⟨g, h⟩ := guardR_ok h
    cases h
    simp only [Bool.and_eq_true, decide_eq_true_eq] at g
    obtain ⟨f1, d1, c1⟩ := snap_rep st r1 ha
    obtain ⟨f2, d2, c2⟩ := snap_rep st r2 hb
    refine op_eqD hu pins s σ H _ _ v u Q I rx ry ⟨a.py, b.py, d1, d2, ?_, ?_, ?_⟩
    · simp only [SeqAt.shaped, c1, Bool.true_and, decide_eq_true_eq]; rw [depth_py a f1]; exact g.1
    · simp only [SeqAt.shaped, c2, Bool.true_and, decide_eq_true_eq]; rw [depth_py b f2]; exact g.2
    · rw [eqv_py a b f1 f2]; exact q _ _ _ _ Ext.refl st (.bl _)
  · cases h
theorem op_ne2 (hu : X.A.units + 64 < cLine) : OpR X (compareOp .NotEq) (rOp X.K (eqR true)) := by
  intro pins s σ H x y v u Q I rx ry h
  obtain ⟨bar, io, S, dx, dy, d, S', st, r1, r2, h, q⟩ := h
  unfold eqR at h
  split at h
  · rename_i a b ha hb
    obtain ⟨g, h⟩ := guardR_ok h
    cases h
    simp only [Bool.and_eq_true, decide_eq_true_eq] at g
    obtain ⟨f1, d1, c1⟩ := snap_rep st r1 ha
    obtain ⟨f2, d2, c2⟩ := snap_rep st r2 hb
    refine op_neD hu pins s σ H _ _ v u Q I rx ry ⟨a.py, b.py, d1, d2, ?_, ?_, ?_⟩
    · simp only [SeqAt.shaped, c1, Bool.true_and, decide_eq_true_eq]; rw [depth_py a f1]; exact g.1
    · simp only [SeqAt.shaped, c2, Bool.true_and, decide_eq_true_eq]; rw [depth_py b f2]; exact g.2
    · rw [eqv_py a b f1 f2]; exact q _ _ _ _ Ext.refl st (.bl _)
  · cases h
section
variable {K : PySem.W.Frag} {H : Hp} {bar io : List Addr} {S : Store}
theorem flat_rep {v : V} {d : D} (r : Rep K H bar io v d) (f : d.flat = true) : flatV v = true := by
  cases r <;> first | rfl | simp [D.flat] at f
theorem flats_rep : ∀ {vs : List V} {ds : List D}, Reps K H bar io vs ds → ds.all D.flat = true → vs.all flatV = true
  | _, _, .nil, _ => rfl
  | _, _, .cons r t, f => by
    simp only [List.all_cons, Bool.and_eq_true] at f ⊢
    exact ⟨flat_rep r f.1, flats_rep t f.2⟩
theorem eqV_rep {v u : V} {d e : D} (r : Rep K H bar io v d) (q : Rep K H bar io u e) (f : d.flat = true) (g : e.flat = true) : eqV v u = D.eqv d e := by
  cases r <;> cases q <;> first
    | (simp [D.flat] at f; done)
    | (simp [D.flat] at g; done)
    | rfl
    | (simp [eqV, D.eqv, b2i]; done)
    | (simp only [eqV, D.eqv]; rfl)
theorem inV_rep {v : V} {d : D} (r : Rep K H bar io v d) (f : d.flat = true) : ∀ {vs : List V} {ds : List D}, Reps K H bar io vs ds → ds.all D.flat = true → inV v vs = ds.any fun z => D.eqv z d
  | _, _, .nil, _ => rfl
  | _, _, .cons r' t, g => by
    simp only [List.all_cons, Bool.and_eq_true] at g
    have ih := inV_rep r f t g.2
    unfold inV at ih ⊢
    rw [List.any_cons, List.any_cons, ih, eqV_rep r' r g.1 f]
theorem asLst_none_tup {xs : List D} : asLst S (.tup xs) = none := rfl
end
theorem op_in2 (hu : X.A.units + 1 < cLine) : OpR X (compareOp .In) (rOp X.K (inR false)) := by
  intro pins s σ H x y v u Q I rx ry h
  obtain ⟨bar, io, S, dx, dy, d, S', st, r1, r2, h, q⟩ := h
  unfold inR at h
  split at h
  · rename_i ds
    obtain ⟨g, h⟩ := guardR_ok h
    cases h
    simp only [Bool.and_eq_true] at g
    obtain ⟨p1, vs1, rfl, h1, z1, q1⟩ := kup_rep r2
    refine op_in_seq pins s σ H _ _ v u Q I rx ry ⟨p1, vs1, rfl, .inr h1, flat_rep r1 g.1, flats_rep q1 g.2, ?_⟩
    rw [inV_rep r1 g.1 q1 g.2]
    exact q _ _ _ _ Ext.refl st (.bl _)
  · rename_i ds
    obtain ⟨g, h⟩ := guardR_ok h
    cases h
    simp only [Bool.and_eq_true] at g
    obtain ⟨p1, vs1, rfl, h1, z1, q1⟩ := tup_rep r2
    refine op_in_seq pins s σ H _ _ v u Q I rx ry ⟨p1, vs1, rfl, .inr h1, flat_rep r1 g.1, flats_rep q1 g.2, ?_⟩
    rw [inV_rep r1 g.1 q1 g.2]
    exact q _ _ _ _ Ext.refl st (.bl _)
  · split at h
    · rename_i ds hd
      obtain ⟨g, h⟩ := guardR_ok h
      cases h
      simp only [Bool.and_eq_true] at g
      obtain ⟨p1, vs1, rfl, h1, z1, q1⟩ := asLst_rep st r2 hd
      refine op_in_seq pins s σ H _ _ v u Q I rx ry ⟨p1, vs1, rfl, .inl h1, flat_rep r1 g.1, flats_rep q1 g.2, ?_⟩
      rw [inV_rep r1 g.1 q1 g.2]
      exact q _ _ _ _ Ext.refl st (.bl _)
    · split at h
      · rename_i kvs k hk he
        cases h
        obtain ⟨p1, vs1, rfl, h1, z1, q1⟩ := asDic_rep st r2 hk
        have ek := asKey_rep r1 he
        subst ek
        cases ry
        refine d_in hu I (DGet.k (k := k) h1) rx fun s' I' => ⟨.bl _, H, I', rfl, ?_⟩
        rw [(q1.val k).1]
        exact q _ _ _ _ Ext.refl st (.bl _)
      · cases h
theorem op_notIn2 (hu : X.A.units + 1 < cLine) : OpR X (compareOp .NotIn) (rOp X.K (inR true)) := by
  intro pins s σ H x y v u Q I rx ry h
  obtain ⟨bar, io, S, dx, dy, d, S', st, r1, r2, h, q⟩ := h
  unfold inR at h
  split at h
  · rename_i ds
    obtain ⟨g, h⟩ := guardR_ok h
    cases h
    simp only [Bool.and_eq_true] at g
    obtain ⟨p1, vs1, rfl, h1, z1, q1⟩ := kup_rep r2
    refine op_notIn_seq pins s σ H _ _ v u Q I rx ry ⟨p1, vs1, rfl, .inr h1, flat_rep r1 g.1, flats_rep q1 g.2, ?_⟩
    rw [inV_rep r1 g.1 q1 g.2]
    exact q _ _ _ _ Ext.refl st (.bl _)
  · rename_i ds
    obtain ⟨g, h⟩ := guardR_ok h
    cases h
    simp only [Bool.and_eq_true] at g
    obtain ⟨p1, vs1, rfl, h1, z1, q1⟩ := tup_rep r2
    refine op_notIn_seq pins s σ H _ _ v u Q I rx ry ⟨p1, vs1, rfl, .inr h1, flat_rep r1 g.1, flats_rep q1 g.2, ?_⟩
    rw [inV_rep r1 g.1 q1 g.2]
    exact q _ _ _ _ Ext.refl st (.bl _)
  · split at h
    · rename_i ds hd
      obtain ⟨g, h⟩ := guardR_ok h
      cases h
      simp only [Bool.and_eq_true] at g
      obtain ⟨p1, vs1, rfl, h1, z1, q1⟩ := asLst_rep st r2 hd
      refine op_notIn_seq pins s σ H _ _ v u Q I rx ry ⟨p1, vs1, rfl, .inl h1, flat_rep r1 g.1, flats_rep q1 g.2, ?_⟩
      rw [inV_rep r1 g.1 q1 g.2]
      exact q _ _ _ _ Ext.refl st (.bl _)
    · split at h
      · rename_i kvs k hk he
        cases h
        obtain ⟨p1, vs1, rfl, h1, z1, q1⟩ := asDic_rep st r2 hk
        have ek := asKey_rep r1 he
        subst ek
        cases ry
        refine d_notIn hu I (DGet.k (k := k) h1) rx fun s' I' => ⟨.bl _, H, I', rfl, ?_⟩
        rw [(q1.val k).1]
        exact q _ _ _ _ Ext.refl st (.bl _)
      · cases h
theorem non_rep {K : PySem.W.Frag} {H : Hp} {bar io : List Addr} {v : V} {d : D} (r : Rep K H bar io v d) : decide (v = .non) = decide (d = .non) := by
  cases r <;> first | rfl | simp
theorem op_is2 : OpR X (compareOp .Is) (rOp X.K (isR false)) := by
  intro pins s σ H x y v u Q I rx ry h
  obtain ⟨bar, io, S, dx, dy, d, S', st, r1, r2, h, q⟩ := h
  unfold isR at h
  split at h
  · cases h
    cases r2
    refine op_isN pins s σ H _ _ v u Q I rx ry ⟨rfl, ?_⟩
    rw [non_rep r1]
    exact q _ _ _ _ Ext.refl st (.bl _)
  · split at h
    · cases h
      cases r1; cases r2
      exact op_isBl pins s σ H _ _ v u Q I rx ry ⟨_, _, rfl, rfl, q _ _ _ _ Ext.refl st (.bl _)⟩
    · cases h
  · cases h
theorem op_isNot2 : OpR X (compareOp .IsNot) (rOp X.K (isR true)) := by
  intro pins s σ H x y v u Q I rx ry h
  obtain ⟨bar, io, S, dx, dy, d, S', st, r1, r2, h, q⟩ := h
  unfold isR at h
  split at h
  · cases h
    cases r2
    refine op_notN pins s σ H _ _ v u Q I rx ry ⟨rfl, ?_⟩
    rw [non_rep r1]
    exact q _ _ _ _ Ext.refl st (.bl _)
  · split at h
    · cases h
      cases r1; cases r2
      exact op_notBl pins s σ H _ _ v u Q I rx ry ⟨_, _, rfl, rfl, q _ _ _ _ Ext.refl st (.bl _)⟩
    · cases h
  · cases h
def cmpOf : CO → CmpOp
  | .eq => .Eq | .ne => .NotEq | .lt => .Lt | .le => .LtE | .gt => .Gt | .ge => .GtE | .is => .Is | .isNot => .IsNot | .inn => .In | .notIn => .NotIn
theorem op_cmp (hu : X.A.units + 64 < cLine) (o : CO) : OpR X (compareOp (cmpOf o)) (rOp X.K (cmpV o)) := by
  cases o
  case eq => exact op_eq2 hu
  case ne => exact op_ne2 hu
  case is => exact op_is2
  case isNot => exact op_isNot2
  case inn => exact op_in2 (by omega)
  case notIn => exact op_notIn2 (by omega)
  case lt =>
    intro pins s σ H x y v u Q I rx ry h
    obtain ⟨bar, io, S, dx, dy, d, S', st, r1, r2, h, q⟩ := h
    simp only [cmpV] at h
    split at h
    · cases h; cases r1; cases r2
      exact op_lt pins s σ H _ _ v u Q I rx ry ⟨_, _, rfl, rfl, q _ _ _ _ Ext.refl st (.bl _)⟩
    · cases h
  case le =>
    intro pins s σ H x y v u Q I rx ry h
    obtain ⟨bar, io, S, dx, dy, d, S', st, r1, r2, h, q⟩ := h
    simp only [cmpV] at h
    split at h
    · cases h; cases r1; cases r2
      exact op_le pins s σ H _ _ v u Q I rx ry ⟨_, _, rfl, rfl, q _ _ _ _ Ext.refl st (.bl _)⟩
    · cases h
  case gt =>
    intro pins s σ H x y v u Q I rx ry h
    obtain ⟨bar, io, S, dx, dy, d, S', st, r1, r2, h, q⟩ := h
    simp only [cmpV] at h
    split at h
    · cases h; cases r1; cases r2
      exact op_gt pins s σ H _ _ v u Q I rx ry ⟨_, _, rfl, rfl, q _ _ _ _ Ext.refl st (.bl _)⟩
    · cases h
  case ge =>
    intro pins s σ H x y v u Q I rx ry h
    obtain ⟨bar, io, S, dx, dy, d, S', st, r1, r2, h, q⟩ := h
    simp only [cmpV] at h
    split at h
    · cases h; cases r1; cases r2
      exact op_ge pins s σ H _ _ v u Q I rx ry ⟨_, _, rfl, rfl, q _ _ _ _ Ext.refl st (.bl _)⟩
    · cases h

/-! ### items, slices -/
theorem optR_ok {α : Type} {o : Option α} {S S' : Store} {d : α} (h : optR o S = .ok d S') : o = some d ∧ S' = S := by
  cases o with
  | none => cases h
  | some a => cases h; exact ⟨rfl, rfl⟩
theorem atI_rep {K : PySem.W.Frag} {H : Hp} {bar io : List Addr} {vs : List V} {ds : List D} {i : Int} {d : D} (r : Reps K H bar io vs ds) (h : atI ds i = some d) : ∃ v, atI vs i = some v ∧ Rep K H bar io v d := by
  unfold atI at h ⊢
  rw [r.length]
  cases e : ixN ds.length i with
  | none => rw [e] at h; cases h
  | some j =>
    rw [e] at h
    exact r.get h
theorem ix_any (hu : X.A.units + 1 < cLine) : IxR X (rOp X.K ixV) := by
  intro value slice pins s σ H x y v u Q I rx ry h hsub
  obtain ⟨bar, io, S, dx, dy, d, S', st, r1, r2, h, q⟩ := h
  unfold ixV at h
  split at h
  · rename_i xs k
    obtain ⟨hv, e⟩ := optR_ok h
    subst e
    cases r2
    obtain ⟨p1, vs1, rfl, h1, z1, q1⟩ := kup_rep r1
    obtain ⟨w, e1, rw1⟩ := atI_rep q1 hv
    exact ix_tup value slice pins s σ H _ _ v u Q I rx ry (by exact ⟨p1, vs1, k, w, rfl, rfl, h1, e1, q _ _ _ _ Ext.refl st rw1⟩) hsub
  · rename_i xs k
    obtain ⟨hv, e⟩ := optR_ok h
    subst e
    cases r2
    obtain ⟨p1, vs1, rfl, h1, z1, q1⟩ := tup_rep r1
    obtain ⟨w, e1, rw1⟩ := atI_rep q1 hv
    exact ix_tup value slice pins s σ H _ _ v u Q I rx ry (by exact ⟨p1, vs1, k, w, rfl, rfl, h1, e1, q _ _ _ _ Ext.refl st rw1⟩) hsub
  · rename_i z k
    cases r2
    cases r1 with
    | str _ zl ks =>
    split at h
    · rename_i c hc
      cases h
      refine ix_str value slice pins s σ H _ _ v u Q I rx ry ⟨z, k, c, rfl, rfl, zl, hc, q _ _ _ _ Ext.refl st (.str _ ?_ ?_)⟩ hsub
      · show 1 ≤ sizeLine; rw [sizeLine_eq]; decide
      · obtain ⟨j, _, e2, _⟩ := atI_get hc
        have hm : c ∈ z.cps.toList := List.mem_of_getElem? e2
        simp only [PyData.strOk, Array.all_eq_true_iff_forall_mem] at ks ⊢
        intro x hx
        have : x = c := by simpa using hx
        rw [this]
        exact ks c (by simpa using hm)
    · cases h
  · split at h
    · rename_i xs hx
      split at h
      · rename_i k _
        obtain ⟨hv, e⟩ := optR_ok h
        subst e
        cases r2
        obtain ⟨p1, vs1, rfl, h1, z1, q1⟩ := asLst_rep st r1 hx
        obtain ⟨w, e1, rw1⟩ := atI_rep q1 hv
        exact ix_list value slice pins s σ H _ _ v u Q I rx ry (by exact ⟨p1, vs1, _, w, rfl, rfl, h1, e1, q _ _ _ _ Ext.refl st rw1⟩) hsub
      · cases h
    · split at h
      · rename_i kvs k hk he
        obtain ⟨hv, e⟩ := optR_ok h
        subst e
        obtain ⟨p1, vs1, rfl, h1, z1, q1⟩ := asDic_rep st r1 hk
        have ek := asKey_rep r2 he
        subst ek
        cases rx
        obtain ⟨w, e1, rw1⟩ := (q1.val k).2 d hv
        have g : DGet H p1 (kV k) (some w) := by have := DGet.k (k := k) h1; rw [e1] at this; exact this
        exact PyProof.Rows.tail_any (dict_typeIs I g) PySem.F.slot_dict_getitem.lookup (d_getItem hu I g ry fun w' s' I' rw' => ⟨w, H, I', rw', q _ _ _ _ Ext.refl st rw1⟩) hsub
      · cases h
def rSl2 (K : PySem.W.Frag) : V → Option Int → Option Int → Hp → VK → Prop := fun x lo hi H Q => ∃ bar io S dx d S', StRep K H bar io S ∧ Rep K H bar io x dx ∧ slV S dx lo hi = .ok d S' ∧
  ∀ v H' bar' io', Ext H bar io H' bar' io' → StRep K H' bar' io' S' → Rep K H' bar' io' v d → Q v H'
theorem cutG_rep {K : PySem.W.Frag} {H : Hp} {bar io : List Addr} {vs : List V} {ds : List D} (r : Reps K H bar io vs ds) (lo hi : Option Int) : Reps K H bar io (cutV vs lo hi) (cutG ds lo hi) := by
  unfold cutV cutG
  rw [r.length]
  exact (r.drop _).take _
theorem sl_any : SlR X (rSl2 X.K) := by
  intro pins s σ H x v vl vu lo hi sl Q I rx hs pl pu h
  obtain ⟨bar, io, S, dx, d, S', st, r1, h, q⟩ := h
  unfold slV at h
  split at h
  · rename_i xs
    cases h
    obtain ⟨p1, vs1, rfl, h1, z1, q1⟩ := tup_repH r1
    refine sl_tupA pins s σ H _ v vl vu lo hi sl Q I rx hs pl pu ⟨p1, vs1, rfl, .inl (.inl h1), fun e => ?_, fun _ p hp => ?_⟩
    · refine q _ _ _ _ Ext.refl st (.tup h1 z1 ?_)
      have r := cutG_rep q1 lo hi
      unfold cutV at r
      rw [e.1, e.2] at r
      simpa using r
    · have x1 : Ext H bar io (upd H p (.tup (cutV vs1 lo hi))) bar io := Ext.new hp
      exact q _ _ _ _ x1 (st.new hp) (.tup upd_same (Nat.le_trans (cutV_length _ _ _) z1) ((cutG_rep q1 lo hi).mono x1 st.live))
  · split at h
    · rename_i xs hx
      cases h
      obtain ⟨p1, vs1, rfl, h1, z1, q1⟩ := asLst_rep st r1 hx
      refine sl_list pins s σ H _ v vl vu lo hi sl Q I rx hs pl pu ⟨p1, vs1, rfl, h1, fun p hp => ?_⟩
      have x1 : Ext H bar io (upd H p (.lst (cutV vs1 lo hi))) bar io := Ext.new hp
      exact q _ _ _ _ x1 (st.new hp) (.lst upd_same (st.notBar hp) (Nat.le_trans (cutV_length _ _ _) z1) ((cutG_rep q1 lo hi).mono x1 st.live))
    · cases h
end
end PX

/-! PX5: built-in functions, methods, stores as rules of the layer. -/
namespace PX
open PySem L2 PyProof.Rows
/-! ### sorting -/
theorem sortI_uniq {ns ms : List Int} (hp : ms.Perm ns) (hs : ms.Pairwise (· ≤ ·)) : ms = sortI ns := by
  have h1 : (sortI ns).Perm ns := List.mergeSort_perm _ _
  have h2 : (sortI ns).Pairwise (fun a b => decide (a ≤ b) = true) := List.pairwise_mergeSort (fun a b c h1 h2 => by simp at *; omega) (fun a b => by simp; omega) ns
  refine List.Perm.eq_of_pairwise (le := fun a b : Int => a ≤ b) (fun a b _ _ h1 h2 => by omega) hs (h2.imp fun h => of_decide_eq_true h) (hp.trans h1.symm)
theorem leP_iff {p q : Int × Int} : leP p q = true ↔ p.1 < q.1 ∨ (p.1 = q.1 ∧ p.2 ≤ q.2) := by
  unfold leP
  rw [Bool.not_eq_true', SrtO.lexB_no]
  omega
theorem sortP_uniq {ps ms : List (Int × Int)} (hp : ms.Perm ps) (hs : ms.Pairwise (fun a b => leP a b = true)) : ms = sortP ps := by
  have h1 : (sortP ps).Perm ps := List.mergeSort_perm _ _
  have h2 : (sortP ps).Pairwise (fun a b => leP a b = true) := List.pairwise_mergeSort (fun a b c h1 h2 => by rw [leP_iff] at *; omega) (fun a b => by
    rw [Bool.or_eq_true, leP_iff, leP_iff]; omega) ps
  refine List.Perm.eq_of_pairwise (le := fun a b => leP a b = true) (fun a b _ _ h1 h2 => ?_) hs h2 (hp.trans h1.symm)
  rw [leP_iff] at h1 h2
  exact Prod.ext (by omega) (by omega)

section
variable {X : Cx}
/-- sorted(d) of a dict whose keys are ints -/
def rSortD : List V → Hp → VK → Prop := fun xs H Q => ∃ (a : Addr) (kvs : List (Key × V)) (ks : List Int), xs = [.ref a] ∧ Rd H a (.dK kvs) ∧ kvs.map (·.1) = ks.map Sum.inl ∧
  ∀ (ys : List Int) p, ys.Perm ks → ys.Pairwise (· ≤ ·) → H p = none → Q (.ref p) (upd H p (.lst (ys.map V.int)))
theorem ints_of_keys : ∀ {us : List Value} {ks : List Int}, us.length = ks.length → (∀ (j : Nat) (v : Value), us[j]? = some v → ∃ (x : Int) (t : Tok), ks[j]? = some x ∧ v = Value.int x t) → PyProof.Rows.IntsAre us ks
  | [], [], _, _ => .nil
  | u :: us, k :: ks, hl, h => by
    obtain ⟨x, t, e1, e2⟩ := h 0 u rfl
    obtain rfl : k = x := Option.some.inj e1
    subst e2
    exact .cons _ _ (ints_of_keys (by simpa using hl) fun j v e => by
      obtain ⟨x, t, a, b⟩ := h (j + 1) v (by simpa using e)
      exact ⟨x, t, by simpa using a, b⟩)
  | [], _ :: _, hl, _ => by simp at hl
  | _ :: _, [], hl, _ => by simp at hl
theorem cr_sortD (hcalm : X.calm = true) : CallR X (.builtin "sorted") rSortD := by
  intro pins s σ H xs us Q I r q
  obtain ⟨a, kvs, ks, rfl, hd, hks, q⟩ := q
  obtain ⟨u, rfl, rx⟩ := vals1 r
  cases rx
  obtain ⟨z, lo, vs, rel, dd⟩ := dk_rd I.hok hd
  obtain ⟨ep, hat⟩ := dd.dictAt
  have hkeys : vs.map (·.1) = ks.map Sum.inl := rel.keys.symm.trans hks
  have hl : vs.length = ks.length := by simpa using congrArg List.length hkeys
  have hz : vs.length ≤ sizeLine := by rw [← rel.length]; exact z
  refine Calls.call_function_entry PyProof.Rows.kind_sorted PyProof.Rows.plain_sorted PyProof.Rows.entry_sorted (PyProof.Rows.args_sorted1 _) ?_
  unfold Builtin.«sorted»
  refine wpAny_bind (m := checkCount "sorted" 1 1 _) (wpAny_pure ?_)
  refine wpAny_bind (PySem.W.kdu_collect (A := X.A.in1) (PySem.W.kdl_dict (knd := mixKind X.prog X.w) (kvs := vs) (ep := ep) lo) (I.ok.hd hcalm) hat hz fun h' tk acc hk hacc => ?_)
  have hal : acc.toList.length = ks.length := by rw [Array.length_toList, hacc.1, hl]
  have hI : PyProof.Rows.IntsAre acc.toList ks := ints_of_keys hal fun j v e => by
    obtain ⟨k, x, e1, e2⟩ := hacc.2 j v (by rw [← Array.getElem?_toList]; exact e)
    have e3 : (ks.map (Sum.inl : Int → Key))[j]? = some k := by rw [← hkeys, List.getElem?_map, e1]; rfl
    rw [List.getElem?_map] at e3
    cases e4 : ks[j]? with
    | none => rw [e4] at e3; cases e3
    | some y =>
      rw [e4] at e3
      obtain rfl : Sum.inl y = k := Option.some.inj e3
      obtain ⟨t, ev⟩ := Value.isInt_shape (k := y) (v := v) e2
      exact ⟨y, t, rfl, ev⟩
  have I1 : Inv X pins σ H { s with heap := h', toks := tk } := I.kept hk
  have hz2 : acc.toList.length ≤ sizeLine := by rw [hal, ← hl]; exact hz
  refine wpAny_bind (wpAny_newList ?_ hz2)
  have hoL : (h'.push (seqObj "list" acc.toList.toArray 0)).get? h'.objs.size = some (seqObj "list" acc.toList.toArray 0) := Heap.get?_push_size _ rfl
  show wpAny _ _ _ _ _ { s with heap := h'.push (seqObj "list" acc.toList.toArray 0), toks := tk }
  refine wpAny_bind (wpAny_holding (wpAny_call_entry PyProof.Rows.slot_list_sort ⟨_, hoL, rfl⟩ PyProof.Rows.entry_list_sort
    (SrtO.list_sort_ord SrtO.swo_int (s := { s with heap := h'.push (seqObj "list" acc.toList.toArray 0), toks := tk }) hoL hz2 (fun h2 => SrtO.ints_sortable hI h2) fun out h1 h2 => ⟨_, rfl, ?_⟩)
    (PyProof.Rows.args_list_sort _)))
  obtain ⟨k1, k2, k3⟩ := SrtO.ints_out hI h1 h2
  obtain ⟨e', he'⟩ := PyProof.Rows.sortedHeap_at (vs := acc.toList) (out := out.toArray) hoL
  have hlen : ((out.map SrtO.iv).map V.int).length ≤ sizeLine := by
    rw [List.length_map, k2.length_eq, ← hal]
    exact hz2
  refine wpAny_pure ⟨_, rfl, .ref h'.objs.size, upd H h'.objs.size (.lst ((out.map SrtO.iv).map V.int)), I1.laid (t' := tk) (fun b u e => ?_) (Nat.le_refl _) ⟨hlen, out, e', vals_of_ints k1, he'⟩, rfl, q _ _ k2 k3 (I1.hok.fresh (Nat.le_refl _))⟩
  have hb : b < h'.objs.size := Heap.lt_size e
  rw [PyProof.Rows.sortedHeap_old (Nat.ne_of_lt hb) (by rw [size_push']; exact Nat.lt_succ_of_lt hb)]
  exact Heap.get?_push_of_some _ e

/-! ### built-in functions by data -/
def bfV : BF → Value
  | .len => .builtin "len" | .sum => .builtin "sum" | .all => .builtin "all" | .any => .builtin "any" | .abs => .builtin "abs"
  | .int => .type "int" | .bool => .type "bool" | .str => .type "str" | .tuple => .type "tuple" | .list => .type "list" | .listM => .type "list"
  | .sorted => .builtin "sorted" | .sortedP => .builtin "sorted" | .max2 => .builtin "max" | .min2 => .builtin "min" | .maxL => .builtin "max" | .minL => .builtin "min"
def rBi (K : PySem.W.Frag) (f : BF) : List V → Hp → VK → Prop := fun vs H Q => ∃ bar io S ds d S', StRep K H bar io S ∧ Reps K H bar io vs ds ∧ biV f S ds = .ok d S' ∧
  ∀ v H' bar' io', Ext H bar io H' bar' io' → StRep K H' bar' io' S' → Rep K H' bar' io' v d → Q v H'
theorem maxI_mem : ∀ {ns : List Int}, ns ≠ [] → maxI ns ∈ ns ∧ ∀ y ∈ ns, y ≤ maxI ns
  | [], h => absurd rfl h
  | [x], _ => by simp [maxI]
  | x :: y :: r, _ => by
    obtain ⟨h1, h2⟩ := maxI_mem (ns := y :: r) (by simp)
    unfold maxI
    by_cases h : x ≤ maxI (y :: r)
    · simp only [h, if_true]
      exact ⟨List.mem_cons_of_mem _ h1, fun z hz => (List.mem_cons.mp hz).elim (fun e => e ▸ h) (h2 z)⟩
    · simp only [h, if_false]
      exact ⟨List.mem_cons_self, fun z hz => (List.mem_cons.mp hz).elim (fun e => by rw [e]; omega) fun m => by have := h2 z m; omega⟩
theorem minI_mem : ∀ {ns : List Int}, ns ≠ [] → minI ns ∈ ns ∧ ∀ y ∈ ns, minI ns ≤ y
  | [], h => absurd rfl h
  | [x], _ => by simp [minI]
  | x :: y :: r, _ => by
    obtain ⟨h1, h2⟩ := minI_mem (ns := y :: r) (by simp)
    unfold minI
    by_cases h : minI (y :: r) ≤ x
    · simp only [h, if_true]
      exact ⟨List.mem_cons_of_mem _ h1, fun z hz => (List.mem_cons.mp hz).elim (fun e => e ▸ h) (h2 z)⟩
    · simp only [h, if_false]
      exact ⟨List.mem_cons_self, fun z hz => (List.mem_cons.mp hz).elim (fun e => by rw [e]; omega) fun m => by have := h2 z m; omega⟩
theorem keyInts_eq : ∀ {kvs : List (Key × D)} {ks : List Int}, keyInts kvs = some ks → kvs.map (·.1) = ks.map Sum.inl
  | [], ks, h => by simp [keyInts] at h; subst h; rfl
  | (.inl i, d) :: r, ks, h => by
    simp only [keyInts, Option.map_eq_some_iff] at h
    obtain ⟨q, h1, h2⟩ := h
    subst h2
    rw [List.map_cons, List.map_cons, keyInts_eq h1]
  | (.inr i, d) :: r, ks, h => by simp [keyInts] at h
theorem RepK.keys {K : PySem.W.Frag} {H : Hp} {bar io : List Addr} : ∀ {vs : List (Key × V)} {ds : List (Key × D)}, RepK K H bar io vs ds → vs.map (·.1) = ds.map (·.1)
  | _, _, .nil => rfl
  | _, _, .cons _ t => by rw [List.map_cons, List.map_cons, RepK.keys t]
/-- a list of ints that is read -/
theorem ints_rep {K : PySem.W.Frag} {H : Hp} {bar io : List Addr} {S : Store} {x : V} {d : D} {ns : List Int} (st : StRep K H bar io S) (r : Rep K H bar io x d) (h : (asLst S d).bind asInts = some ns) : ∃ a, x = .ref a ∧ SqL K H a (ns.map V.int) ∧ ns.length ≤ sizeLine := by
  cases e : asLst S d with
  | none => rw [e] at h; cases h
  | some xs =>
    rw [e] at h
    obtain ⟨a, vs, rfl, h1, z1, q1⟩ := asLst_rep st r e
    have e2 := asInts_eq (show asInts xs = some ns from h)
    subst e2
    have e3 := q1.ints
    subst e3
    exact ⟨a, rfl, h1, by simpa using z1⟩
theorem bls_rep {K : PySem.W.Frag} {H : Hp} {bar io : List Addr} {S : Store} {x : V} {d : D} {ns : List Bool} (st : StRep K H bar io S) (r : Rep K H bar io x d) (h : (asLst S d).bind asBls = some ns) : ∃ a, x = .ref a ∧ SqL K H a (ns.map V.bl) := by
  cases e : asLst S d with
  | none => rw [e] at h; cases h
  | some xs =>
    rw [e] at h
    obtain ⟨a, vs, rfl, h1, z1, q1⟩ := asLst_rep st r e
    have e2 := asBls_eq (show asBls xs = some ns from h)
    subst e2
    have e3 := q1.bls
    subst e3
    exact ⟨a, rfl, h1⟩
/-- a new list, a new cell -/
theorem new_lst {K : PySem.W.Frag} {H : Hp} {bar io : List Addr} {S : Store} {vs : List V} {ds : List D} {p : Addr} (st : StRep K H bar io S) (r : Reps K H bar io vs ds) (z : vs.length ≤ sizeLine) (hp : H p = none) :
    Ext H bar io (upd H p (.lst vs)) bar io ∧ StRep K (upd H p (.lst vs)) bar io S ∧ Rep K (upd H p (.lst vs)) bar io (.ref p) (.lst ds) :=
  ⟨Ext.new hp, st.new hp, .lst upd_same (st.notBar hp) z (r.mono (Ext.new hp) st.live)⟩
theorem new_tup {K : PySem.W.Frag} {H : Hp} {bar io : List Addr} {S : Store} {vs : List V} {ds : List D} {p : Addr} (st : StRep K H bar io S) (r : Reps K H bar io vs ds) (z : vs.length ≤ sizeLine) (hp : H p = none) :
    Ext H bar io (upd H p (.tup vs)) bar io ∧ StRep K (upd H p (.tup vs)) bar io S ∧ Rep K (upd H p (.tup vs)) bar io (.ref p) (.tup ds) :=
  ⟨Ext.new hp, st.new hp, .tup upd_same z (r.mono (Ext.new hp) st.live)⟩
theorem new_cell {K : PySem.W.Frag} {H : Hp} {bar io : List Addr} {S : Store} {vs : List V} {ds : List D} {p : Addr} (st : StRep K H bar io S) (r : Reps K H bar io vs ds) (z : vs.length ≤ sizeLine) (hp : H p = none) :
    Ext H bar io (upd H p (.lst vs)) (p :: bar) (io ++ [p]) ∧ StRep K (upd H p (.lst vs)) (p :: bar) (io ++ [p]) (S ++ [.lst ds]) ∧ Rep K (upd H p (.lst vs)) (p :: bar) (io ++ [p]) (.ref p) (.adr S.length) :=
  ⟨Ext.cell hp, st.cell' hp (.lst z (r.mono (Ext.cell hp) st.live)), .adr (by rw [st.len]; simp)⟩
theorem new_dic {K : PySem.W.Frag} {H : Hp} {bar io : List Addr} {S : Store} {p : Addr} (st : StRep K H bar io S) (hp : H p = none) :
    Ext H bar io (upd H p (.dK [])) (p :: bar) (io ++ [p]) ∧ StRep K (upd H p (.dK [])) (p :: bar) (io ++ [p]) (S ++ [.dic []]) ∧ Rep K (upd H p (.dK [])) (p :: bar) (io ++ [p]) (.ref p) (.adr S.length) :=
  ⟨Ext.cell hp, st.cell' hp (.dic (Nat.zero_le _) .nil), .adr (by rw [st.len]; simp)⟩
theorem toString_ok (i : Int) (h : i.natAbs.log2 < 1920) : (Str.ofString (toString i)).length ≤ sizeLine ∧ PyData.strOk (Str.ofString (toString i)) = true := by
  refine ⟨int_text_fits h, ?_⟩
  rw [Str.ofString_eq_toList]
  unfold PyData.strOk
  simp only [List.all_toArray, List.all_map, List.all_eq_true, Function.comp, decide_eq_true_eq]
  intro c _
  have := c.valid
  simp only [UInt32.isValidChar, Nat.isValidChar] at this
  show c.val.toNat < 1114112
  omega
/-- pairs of ints, as the machine holds them -/
def pairOf (H : Hp) (v : V) : Int × Int := match v with
  | .ref t => match H t with
    | some (.tup [.int i, .int j]) => (i, j)
    | _ => (0, 0)
  | _ => (0, 0)
theorem pairs_rep {K : PySem.W.Frag} {H : Hp} {bar io : List Addr} {v : V} {p : Int × Int} (r : Rep K H bar io v (pairD p)) : (∃ t, v = V.ref t ∧ H t = some (.tup [.int p.1, .int p.2])) ∧ pairOf H v = p := by
  obtain ⟨a', ws, rfl, hT, _, q⟩ := tup_repH r
  obtain ⟨w1, w2, rfl, q1, q2⟩ := q.two
  cases q1; cases q2
  refine ⟨⟨a', rfl, hT⟩, ?_⟩
  simp only [pairOf, hT]
theorem pairs_map {K : PySem.W.Frag} {H : Hp} {bar io : List Addr} : ∀ {vs : List V} {ps : List (Int × Int)}, Reps K H bar io vs (ps.map pairD) → vs.map (pairOf H) = ps ∧ ∀ x ∈ vs, Rep K H bar io x (pairD (pairOf H x))
  | [], [], _ => ⟨rfl, by simp⟩
  | [], p :: ps, h => by cases h
  | v :: vs, [], h => by cases h
  | v :: vs, p :: ps, h => by
    rw [List.map_cons] at h
    cases h with
    | cons r t =>
      obtain ⟨h1, h2⟩ := pairs_map t
      have e := (pairs_rep r).2
      refine ⟨by rw [List.map_cons, h1, e], fun x hx => ?_⟩
      rcases List.mem_cons.mp hx with rfl | hx
      · rw [e]; exact r
      · exact h2 x hx
theorem reps_map {K : PySem.W.Frag} {H : Hp} {bar io : List Addr} {f : V → D} : ∀ {vs : List V}, (∀ x ∈ vs, Rep K H bar io x (f x)) → Reps K H bar io vs (vs.map f)
  | [], _ => .nil
  | v :: vs, h => .cons (h v List.mem_cons_self) (reps_map fun x hx => h x (List.mem_cons_of_mem _ hx))
theorem call_bi (hc : X.calm = true) (f : BF) : CallR X (bfV f) (rBi X.K f) := by
  intro pins s σ H xs us Q I r h
  obtain ⟨bar, io, S, ds, d, S', st, rs, h, q⟩ := h
  have oneL : ∀ {x : D}, ds = [x] → ∃ w, xs = [w] ∧ Rep X.K H bar io w x := fun {x} e => by subst e; exact rs.one
  unfold biV at h
  split at h
  case h_1 ys =>
    cases h
    obtain ⟨w, rfl, rw1⟩ := rs.one
    obtain ⟨p1, vs1, rfl, h1, z1, q1⟩ := tup_rep rw1
    exact call_len_seq pins s σ H _ us Q I r ⟨p1, vs1, rfl, .inr h1, by rw [q1.length]; exact q _ _ _ _ Ext.refl st (.int _)⟩
  case h_2 ys =>
    cases h
    obtain ⟨w, rfl, rw1⟩ := rs.one
    obtain ⟨p1, vs1, rfl, h1, z1, q1⟩ := kup_rep rw1
    exact call_len_seq pins s σ H _ us Q I r ⟨p1, vs1, rfl, .inr h1, by rw [q1.length]; exact q _ _ _ _ Ext.refl st (.int _)⟩
  case h_3 z =>
    cases h
    obtain ⟨w, rfl, rw1⟩ := rs.one
    cases rw1 with
    | str _ zl ks => exact call_len_str pins s σ H _ us Q I r ⟨z, rfl, zl, q _ _ _ _ Ext.refl st (.int _)⟩
  case h_4 x _ _ _ =>
    obtain ⟨w, rfl, rw1⟩ := rs.one
    split at h
    · rename_i ys hy
      cases h
      obtain ⟨p1, vs1, rfl, h1, z1, q1⟩ := asLst_rep st rw1 hy
      exact call_len_seq pins s σ H _ us Q I r ⟨p1, vs1, rfl, .inl h1, by rw [q1.length]; exact q _ _ _ _ Ext.refl st (.int _)⟩
    · split at h
      · rename_i kvs hk
        cases h
        obtain ⟨p1, vs1, rfl, h1, z1, q1⟩ := asDic_rep st rw1 hk
        obtain ⟨u, rfl, rx⟩ := vals1 r
        cases rx
        exact d_len I (.inl h1) fun t s' I' => ⟨.int _, H, I', ⟨t, rfl⟩, by rw [q1.length]; exact q _ _ _ _ Ext.refl st (.int _)⟩
      · cases h
  case h_5 x =>
    obtain ⟨w, rfl, rw1⟩ := rs.one
    split at h
    · rename_i ns hn
      cases h
      obtain ⟨a, rfl, h1, _⟩ := ints_rep st rw1 hn
      exact cr_sum hc pins s σ H _ us Q I r ⟨a, ns, rfl, h1, q _ _ _ _ Ext.refl st (.int _)⟩
    · cases h
  case h_6 x =>
    obtain ⟨w, rfl, rw1⟩ := rs.one
    split at h
    · rename_i ns hn
      cases h
      obtain ⟨a, rfl, h1⟩ := bls_rep st rw1 hn
      exact cr_all hc pins s σ H _ us Q I r ⟨a, ns, rfl, h1, q _ _ _ _ Ext.refl st (.bl _)⟩
    · cases h
  case h_7 x =>
    obtain ⟨w, rfl, rw1⟩ := rs.one
    split at h
    · rename_i ns hn
      cases h
      obtain ⟨a, rfl, h1⟩ := bls_rep st rw1 hn
      exact cr_any hc pins s σ H _ us Q I r ⟨a, ns, rfl, h1, q _ _ _ _ Ext.refl st (.bl _)⟩
    · cases h
  case h_8 i =>
    cases h
    obtain ⟨w, rfl, rw1⟩ := rs.one
    cases rw1
    exact call_abs pins s σ H _ us Q I r ⟨i, rfl, q _ _ _ _ Ext.refl st (.int _)⟩
  case h_9 i =>
    cases h
    obtain ⟨w, rfl, rw1⟩ := rs.one
    cases rw1
    exact call_int1 pins s σ H _ us Q I r (.inl ⟨i, rfl, q _ _ _ _ Ext.refl st (.int _)⟩)
  case h_10 b =>
    cases h
    obtain ⟨w, rfl, rw1⟩ := rs.one
    cases rw1
    exact call_int1 pins s σ H _ us Q I r (.inr ⟨b, rfl, q _ _ _ _ Ext.refl st (.int _)⟩)
  case h_11 i =>
    cases h
    obtain ⟨w, rfl, rw1⟩ := rs.one
    cases rw1
    exact call_bool1 pins s σ H _ us Q I r (.inl ⟨i, rfl, q _ _ _ _ Ext.refl st (.bl _)⟩)
  case h_12 b =>
    cases h
    obtain ⟨w, rfl, rw1⟩ := rs.one
    cases rw1
    exact call_bool1 pins s σ H _ us Q I r (.inr ⟨b, rfl, q _ _ _ _ Ext.refl st (.bl _)⟩)
  case h_13 i =>
    obtain ⟨g, h⟩ := guardR_ok h
    cases h
    obtain ⟨w, rfl, rw1⟩ := rs.one
    cases rw1
    have g := of_decide_eq_true g
    obtain ⟨l1, l2⟩ := toString_ok i g
    exact call_str_int pins s σ H _ us Q I r ⟨i, rfl, g, q _ _ _ _ Ext.refl st (.str _ l1 l2)⟩
  case h_14 ys =>
    cases h
    obtain ⟨w, rfl, rw1⟩ := rs.one
    obtain ⟨p1, vs1, rfl, h1, z1, q1⟩ := tup_rep rw1
    exact call_tuple_of pins s σ H _ us Q I r ⟨p1, vs1, rfl, .inr ⟨h1, q _ _ _ _ Ext.refl st rw1⟩⟩
  case h_15 x _ =>
    obtain ⟨w, rfl, rw1⟩ := rs.one
    split at h
    · rename_i ys hy
      cases h
      obtain ⟨p1, vs1, rfl, h1, z1, q1⟩ := asLst_rep st rw1 hy
      refine call_tuple_of pins s σ H _ us Q I r ⟨p1, vs1, rfl, .inl ⟨h1, fun l hl => ?_⟩⟩
      obtain ⟨x1, x2, x3⟩ := new_tup st q1 z1 hl
      exact q _ _ _ _ x1 x2 x3
    · cases h
  case h_16 ys =>
    cases h
    obtain ⟨w, rfl, rw1⟩ := rs.one
    obtain ⟨p1, vs1, rfl, h1, z1, q1⟩ := tup_rep rw1
    refine call_list_of pins s σ H _ us Q I r ⟨p1, vs1, rfl, .inr h1, fun l hl => ?_⟩
    obtain ⟨x1, x2, x3⟩ := new_lst st q1 z1 hl
    exact q _ _ _ _ x1 x2 x3
  case h_17 x _ =>
    obtain ⟨w, rfl, rw1⟩ := rs.one
    split at h
    · rename_i ys hy
      cases h
      obtain ⟨p1, vs1, rfl, h1, z1, q1⟩ := asLst_rep st rw1 hy
      refine call_list_of pins s σ H _ us Q I r ⟨p1, vs1, rfl, .inl h1, fun l hl => ?_⟩
      obtain ⟨x1, x2, x3⟩ := new_lst st q1 z1 hl
      exact q _ _ _ _ x1 x2 x3
    · cases h
  case h_18 ys =>
    cases h
    obtain ⟨w, rfl, rw1⟩ := rs.one
    obtain ⟨p1, vs1, rfl, h1, z1, q1⟩ := tup_rep rw1
    refine call_list_of pins s σ H _ us Q I r ⟨p1, vs1, rfl, .inr h1, fun l hl => ?_⟩
    obtain ⟨x1, x2, x3⟩ := new_cell st q1 z1 hl
    exact q _ _ _ _ x1 x2 x3
  case h_19 x _ =>
    obtain ⟨w, rfl, rw1⟩ := rs.one
    split at h
    · rename_i ys hy
      cases h
      obtain ⟨p1, vs1, rfl, h1, z1, q1⟩ := asLst_rep st rw1 hy
      refine call_list_of pins s σ H _ us Q I r ⟨p1, vs1, rfl, .inl h1, fun l hl => ?_⟩
      obtain ⟨x1, x2, x3⟩ := new_cell st q1 z1 hl
      exact q _ _ _ _ x1 x2 x3
    · cases h
  case h_20 x =>
    obtain ⟨w, rfl, rw1⟩ := rs.one
    split at h
    · rename_i ns hn
      cases h
      obtain ⟨a, rfl, h1, z1⟩ := ints_rep st rw1 hn
      refine cr_sortedI pins s σ H _ us Q I r ⟨a, ns, rfl, h1, fun ns' p hp hs hn => ?_⟩
      rw [sortI_uniq hp hs]
      obtain ⟨x1, x2, x3⟩ := new_lst st (Reps.of_ints (ns := sortI ns)) (by rw [List.length_map]; unfold sortI; rw [List.length_mergeSort]; exact z1) hn
      exact q _ _ _ _ x1 x2 x3
    · split at h
      · rename_i ns hn
        cases h
        cases e : asDic S x with
        | none => rw [e] at hn; cases hn
        | some kvs =>
          rw [e] at hn
          obtain ⟨p1, vs1, rfl, h1, z1, q1⟩ := asDic_rep st rw1 e
          have ek := keyInts_eq (show keyInts kvs = some ns from hn)
          refine cr_sortD hc pins s σ H _ us Q I r ⟨p1, vs1, ns, rfl, .inl h1, q1.keys.trans ek, fun ys p hp hs hn => ?_⟩
          rw [sortI_uniq hp hs]
          obtain ⟨x1, x2, x3⟩ := new_lst st (Reps.of_ints (ns := sortI ns)) (by
            rw [List.length_map]; unfold sortI; rw [List.length_mergeSort]
            have := congrArg List.length (q1.keys.trans ek)
            simp only [List.length_map] at this
            rw [← this]; exact z1) hn
          exact q _ _ _ _ x1 x2 x3
      · cases h
  case h_21 x =>
    obtain ⟨w, rfl, rw1⟩ := rs.one
    split at h
    · rename_i ps hn
      cases h
      cases e : asLst S x with
      | none => rw [e] at hn; cases hn
      | some xs1 =>
        rw [e] at hn
        obtain ⟨p1, vs1, rfl, h1, z1, q1⟩ := asLst_rep st rw1 e
        have ep := asPairs_eq (show asPairs xs1 = some ps from hn)
        subst ep
        obtain ⟨m1, m2⟩ := pairs_map q1
        refine cr_sortedPO pins s σ H _ us Q I r ⟨p1, vs1, pairOf H, rfl, h1, fun y hy => (pairs_rep (m2 y hy)).1, fun ys p hs hb hn => ?_⟩
        have hm : ys.map (pairOf H) = sortP ps := by
          refine sortP_uniq ?_ ?_
          · rw [← m1]; exact hb.perm.map _
          · refine List.pairwise_map.mpr (hs.imp fun {a b} hab => ?_)
            unfold leP
            rw [Bool.not_eq_true']
            exact hab
        have hr : Reps X.K H bar io ys ((sortP ps).map pairD) := by
          rw [← hm, List.map_map]
          exact reps_map fun x hx => m2 x (hb.perm.mem_iff.mp hx)
        obtain ⟨x1, x2, x3⟩ := new_lst st hr (by rw [hb.perm.length_eq]; exact z1) hn
        exact q _ _ _ _ x1 x2 x3
    · cases h
  case h_22 i j =>
    cases h
    obtain ⟨w, w2, rfl, rw1, rw2⟩ := rs.two
    cases rw1; cases rw2
    exact call_max2 hc pins s σ H _ us Q I r ⟨i, j, rfl, q _ _ _ _ Ext.refl st (.int _)⟩
  case h_23 i j =>
    cases h
    obtain ⟨w, w2, rfl, rw1, rw2⟩ := rs.two
    cases rw1; cases rw2
    exact call_min2 hc pins s σ H _ us Q I r ⟨i, j, rfl, q _ _ _ _ Ext.refl st (.int _)⟩
  case h_24 x =>
    obtain ⟨w, rfl, rw1⟩ := rs.one
    split at h
    · rename_i ns hn
      obtain ⟨g, h⟩ := guardR_ok h
      cases h
      obtain ⟨a, rfl, h1, z1⟩ := ints_rep st rw1 hn
      have hne : ns ≠ [] := fun e => by subst e; simp at g
      refine cr_max hc pins s σ H _ us Q I r ⟨a, ns, rfl, h1, List.length_pos_iff.mpr hne, fun m hm hl => ?_⟩
      have e : m = maxI ns := Int.le_antisymm ((maxI_mem hne).2 m hm) (hl _ (maxI_mem hne).1)
      rw [e]
      exact q _ _ _ _ Ext.refl st (.int _)
    · cases h
  case h_25 x =>
    obtain ⟨w, rfl, rw1⟩ := rs.one
    split at h
    · rename_i ns hn
      obtain ⟨g, h⟩ := guardR_ok h
      cases h
      obtain ⟨a, rfl, h1, z1⟩ := ints_rep st rw1 hn
      have hne : ns ≠ [] := fun e => by subst e; simp at g
      refine cr_min hc pins s σ H _ us Q I r ⟨a, ns, rfl, h1, List.length_pos_iff.mpr hne, fun m hm hl => ?_⟩
      have e : m = minI ns := Int.le_antisymm (hl _ (minI_mem hne).1) ((minI_mem hne).2 m hm)
      rw [e]
      exact q _ _ _ _ Ext.refl st (.int _)
    · cases h
  case h_26 => cases h
end
end PX

/-! PX6: methods and stores as rules of the layer. -/
namespace PX
open PySem L2 PyProof.Rows
def ME.ty (m : ME) : String := if m.ofDict then "dict" else "list"
def ME.name : ME → Str
  | .append => "append" | .extend => "extend" | .pop => "pop" | .popAt => "pop" | .get1 => "get" | .get2 => "get" | .clear => "clear"
def ME.id : ME → String
  | .append => "list.append" | .extend => "list.extend" | .pop => "list.pop" | .popAt => "list.pop" | .get1 => "dict.get" | .get2 => "dict.get" | .clear => "list.clear"
theorem ME.plain : ∀ m : ME, PlainAttrs m.ty
  | .append => PySem.F.plainAttrs_list
  | .extend => PySem.F.plainAttrs_list
  | .pop => PySem.F.plainAttrs_list
  | .popAt => PySem.F.plainAttrs_list
  | .clear => PySem.F.plainAttrs_list
  | .get1 => PySem.F.plainAttrs_dict
  | .get2 => PySem.F.plainAttrs_dict
theorem ME.slot : ∀ m : ME, Slot m.ty m.name m.id
  | .append => PySem.F.slot_list_append
  | .extend => PySem.F.slot_list_extend
  | .pop => PySem.F.slot_list_pop
  | .popAt => PySem.F.slot_list_pop
  | .clear => PySem.F.slot_list_clear
  | .get1 => PySem.F.slot_dict_get
  | .get2 => PySem.F.slot_dict_get
theorem ME.type : ∀ m : ME, typeOf (.builtin m.id) = pure (.type "method_descriptor")
  | .append => PySem.F.type_list_append
  | .extend => PySem.F.type_list_extend
  | .pop => PySem.F.type_list_pop
  | .popAt => PySem.F.type_list_pop
  | .clear => PySem.F.type_list_clear
  | .get1 => PySem.F.type_dict_get
  | .get2 => PySem.F.type_dict_get
def rMe (K : PySem.W.Frag) (m : ME) : V → List V → Hp → VK → Prop := fun x vs H Q => ∃ bar io S dx ds d S', StRep K H bar io S ∧ Rep K H bar io x dx ∧ Reps K H bar io vs ds ∧ methV m S dx ds = .ok d S' ∧
  ∀ v H' bar' io', Ext H bar io H' bar' io' → StRep K H' bar' io' S' → Rep K H' bar' io' v d → Q v H'
section
variable {K : PySem.W.Frag} {H : Hp} {bar io : List Addr} {S : Store}
/-- a cell at its address -/
theorem cell_at {x : V} {n : Nat} {c : Cell} (st : StRep K H bar io S) (r : Rep K H bar io x (.adr n)) (h : S[n]? = some c) : ∃ a o, x = .ref a ∧ io[n]? = some a ∧ H a = some o ∧ CellRep K H bar io o c := by
  cases r with
  | adr e =>
    obtain ⟨a, o, e1, e2, q⟩ := st.cell n c h
    rw [e] at e1; cases e1
    exact ⟨_, o, rfl, e, e2, q⟩
/-- a list's cell is written -/
theorem wr_lst {n : Nat} {a : Addr} {vs : List V} {ds : List D} (st : StRep K H bar io S) (ha : io[n]? = some a) (r : Reps K H bar io vs ds) (z : vs.length ≤ sizeLine) :
    Ext H bar io (upd H a (.lst vs)) bar io ∧ StRep K (upd H a (.lst vs)) bar io (S.set n (.lst ds)) :=
  ⟨Ext.wr (List.mem_of_getElem? ha), st.wr ha (.lst z (r.mono (Ext.wr (List.mem_of_getElem? ha)) st.live))⟩
theorem wr_dic {n : Nat} {a : Addr} {vs : List (Key × V)} {ds : List (Key × D)} (st : StRep K H bar io S) (ha : io[n]? = some a) (r : RepK K H bar io vs ds) (z : vs.length ≤ sizeLine) :
    Ext H bar io (upd H a (.dK vs)) bar io ∧ StRep K (upd H a (.dK vs)) bar io (S.set n (.dic ds)) :=
  ⟨Ext.wr (List.mem_of_getElem? ha), st.wr ha (.dic z (r.mono (Ext.wr (List.mem_of_getElem? ha)) st.live))⟩
end
theorem RepK.none_of {K : PySem.W.Frag} {H : Hp} {bar io : List Addr} {k : Key} {vs : List (Key × V)} {ds : List (Key × D)} (r : RepK K H bar io vs ds) (e : valD ds k = none) : valV vs k = none := by
  have h := (r.val k).1
  rw [e] at h
  cases z : valV vs k with
  | none => rfl
  | some _ => rw [z] at h; cases h
section
variable {X : Cx}
theorem Reps.dropLast {K : PySem.W.Frag} {H : Hp} {bar io : List Addr} {vs : List V} {ds : List D} (h : Reps K H bar io vs ds) : Reps K H bar io vs.dropLast ds.dropLast := by
  rw [List.dropLast_eq_take, List.dropLast_eq_take, h.length]
  exact h.take _
theorem mt_me (hu : X.A.units + 1 < cLine) (m : ME) : MtR X m.id (rMe X.K m) := by
  intro pins s σ H x xs v us Q I rx rxs h
  obtain ⟨bar, io, S, dx, ds, d, S', st, r1, rs, h, q⟩ := h
  unfold methV at h
  split at h
  · rename_i n
    split at h
    · rename_i ys hc
      obtain ⟨a, o, rfl, ha, hH, cr⟩ := cell_at st r1 hc
      cases cr with
      | lst zl r =>
      split at h
      · rename_i y
        obtain ⟨g, h⟩ := guardR_ok h
        cases h
        have g := of_decide_eq_true g
        obtain ⟨w, rfl, rw1⟩ := rs.one
        rw [← r.length] at g
        obtain ⟨x1, x2⟩ := wr_lst st ha (r.append (.cons rw1 .nil)) (by rw [List.length_append]; exact g)
        exact mt_append pins s σ H _ _ v us Q I rx rxs ⟨a, _, w, rfl, rfl, hH, g, q _ _ _ _ x1 x2 .non⟩
      · rename_i y
        split at h
        · rename_i zs hz
          obtain ⟨g, h⟩ := guardR_ok h
          cases h
          have g := of_decide_eq_true g
          obtain ⟨w, rfl, rw1⟩ := rs.one
          obtain ⟨b, vs2, rfl, hb, z2, q2⟩ := asLstW_rep st rw1 hz
          rw [← r.length, ← q2.length] at g
          obtain ⟨x1, x2⟩ := wr_lst st ha (r.append q2) (by rw [List.length_append]; exact g)
          exact mt_extend pins s σ H _ _ v us Q I rx rxs ⟨a, b, _, vs2, rfl, rfl, hH, hb, g, q _ _ _ _ x1 x2 .non⟩
        · cases h
      · split at h
        · rename_i y hy
          cases h
          cases rs
          rw [← r.length] at hy
          obtain ⟨w, e1, rw1⟩ := r.get hy
          obtain ⟨x1, x2⟩ := wr_lst st ha r.dropLast (by rw [List.length_dropLast]; omega)
          exact mt_pop pins s σ H _ _ v us Q I rx rxs ⟨a, _, w, rfl, rfl, hH, e1, q _ _ _ _ x1 x2 (rw1.mono x1 st.live)⟩
        · cases h
      · rename_i i
        split at h
        · rename_i k hk
          split at h
          · rename_i y hy
            cases h
            obtain ⟨w, rfl, rw1⟩ := rs.one
            cases rw1
            rw [← r.length] at hk
            obtain ⟨w2, e1, rw2⟩ := r.get hy
            obtain ⟨k1, k2, k3, k4⟩ := ixN_seq hk
            obtain ⟨x1, x2⟩ := wr_lst st ha (r.eraseIdx k) (Nat.le_trans (len_erase _ _) zl)
            have hl := line63
            have hz : sizeLine = 16777216 := sizeLine_eq
            exact mt_popAt pins s σ H _ _ v us Q I rx rxs ⟨a, _, i, k, w2, rfl, rfl, hH, by omega, by omega, k1, e1, q _ _ _ _ x1 x2 (rw2.mono x1 st.live)⟩
          · cases h
        · cases h
      · cases h
        cases rs
        obtain ⟨x1, x2⟩ := wr_lst st ha (.nil : Reps X.K H bar io [] []) (Nat.zero_le _)
        exact mt_clear pins s σ H _ _ v us Q I rx rxs ⟨a, _, rfl, rfl, hH, q _ _ _ _ x1 x2 .non⟩
      · cases h
    · rename_i kvs hc
      obtain ⟨a, o, rfl, ha, hH, cr⟩ := cell_at st r1 hc
      cases cr with
      | dic zl r =>
      cases rx
      split at h
      · rename_i k
        split at h
        · rename_i k' hk
          cases h
          obtain ⟨w, rfl, rw1⟩ := rs.one
          have ek := asKey_rep rw1 hk
          subst ek
          obtain ⟨u, rfl, ru⟩ := vals1 rxs
          refine d_get1 hu I (DGet.k (k := k') hH) ru fun w' s' I' rw' => ⟨_, H, I', rw', q _ _ _ _ Ext.refl st ?_⟩
          cases e : valD kvs k' with
          | none =>
            rw [r.none_of e]
            exact .non
          | some d' =>
            obtain ⟨v', e1, r'⟩ := (r.val k').2 d' e
            rw [e1]
            exact r'
        · cases h
      · rename_i k y
        split at h
        · rename_i k' hk
          cases h
          obtain ⟨w, w2, rfl, rw1, rw2⟩ := rs.two
          have ek := asKey_rep rw1 hk
          subst ek
          obtain ⟨u, u2, rfl, ru, ru2⟩ := vals2 rxs
          refine d_get2 hu I (DGet.k (k := k') hH) ru ru2 fun w' s' I' rw' => ⟨_, H, I', rw', q _ _ _ _ Ext.refl st ?_⟩
          cases e : valD kvs k' with
          | none =>
            rw [r.none_of e]
            exact rw2
          | some d' =>
            obtain ⟨v', e1, r'⟩ := (r.val k').2 d' e
            rw [e1]
            exact r'
        · cases h
      · cases h
    · cases h
  · cases h
theorem kind_rep {m : ME} {S : Store} {H : Hp} {bar io : List Addr} {x : V} {d : D} (st : StRep X.K H bar io S) (r : Rep X.K H bar io x d) (h : mkind m S d = true) : tyV X.K m.ty x H := by
  unfold mkind at h
  unfold ME.ty
  cases e : m.ofDict with
  | true =>
    rw [e] at h
    have h : (asDic S d).isSome = true := h
    cases hd : asDic S d with
    | none => rw [hd] at h; cases h
    | some kvs =>
      obtain ⟨a, vs, rfl, hH, _, _⟩ := asDic_rep st r hd
      exact .inr (.inr (.inl ⟨rfl, .inl ⟨_, hH⟩⟩))
  | false =>
    rw [e] at h
    have h : (asLstW S d).isSome = true := h
    cases hd : asLstW S d with
    | none => rw [hd] at h; cases h
    | some kvs =>
      obtain ⟨a, vs, rfl, hH, _, _⟩ := asLstW_rep st r hd
      exact .inl ⟨rfl, _, .inl (.inl hH)⟩
/-- o[i] = v -/
def rSet (K : PySem.W.Frag) : TSet := fun o i v H Q => ∃ bar io S do_ di dv S', StRep K H bar io S ∧ Rep K H bar io o do_ ∧ Rep K H bar io i di ∧ Rep K H bar io v dv ∧ setV S do_ di dv = .ok () S' ∧
  ∀ H' bar' io', Ext H bar io H' bar' io' → StRep K H' bar' io' S' → Q H'
theorem set_any (hu : X.A.units + 1 < cLine) : PSet X (rSet X.K) := by
  intro pins s σ H o i v ov iv u Q I ro ri rv h
  obtain ⟨bar, io, S, do_, di, dv, S', st, r1, r2, r3, h, q⟩ := h
  unfold setV at h
  split at h
  · rename_i n
    split at h
    · rename_i ys hc
      obtain ⟨a, ob, rfl, ha, hH, cr⟩ := cell_at st r1 hc
      cases cr with
      | lst zl r =>
      split at h
      · rename_i k
        split at h
        · rename_i j hj
          cases h
          cases r2
          rw [← r.length] at hj
          obtain ⟨x1, x2⟩ := wr_lst st ha (Reps.set r3 j r) (by rw [List.length_set]; exact zl)
          exact set_list pins s σ H _ _ v ov iv u Q I ro ri rv ⟨a, _, k, j, rfl, rfl, hH, hj, q _ _ _ x1 x2⟩
        · cases h
      · cases h
    · rename_i kvs hc
      obtain ⟨a, ob, rfl, ha, hH, cr⟩ := cell_at st r1 hc
      cases cr with
      | dic zl r =>
      split at h
      · rename_i k hk
        obtain ⟨g, h⟩ := guardR_ok h
        cases h
        have g := of_decide_eq_true g
        have ek := asKey_rep r2 hk
        subst ek
        cases ro
        rw [← r.length] at g
        obtain ⟨x1, x2⟩ := wr_dic st ha (r.put k r3) (Nat.le_trans (length_putK _ _ _) g)
        exact d_setItem hu I (DPut.k hH g) ri rv fun s' I' => ⟨_, I', q _ _ _ x1 x2⟩
      · cases h
    · cases h
  · cases h
end
end PX

/-! PX7: readings by data, and the steps of expressions. -/
namespace PX
open PySem L2

/-! ### no exception comes of an operator -/
def R.noX {α : Type} (r : R α) : Prop := ∀ c S, r ≠ .exc c S
theorem noX_ok {α : Type} {a : α} {S : Store} : (R.ok a S).noX := fun _ _ h => by cases h
theorem noX_stuck {α : Type} : (R.stuck : R α).noX := fun _ _ h => by cases h
theorem noX_guard {α : Type} {b : Bool} {r : R α} (h : r.noX) : (guardR b r).noX := by cases b; exact noX_stuck; exact h
theorem noX_opt {α : Type} {o : Option α} {S : Store} : (optR o S).noX := by cases o; exact noX_stuck; exact noX_ok
local macro_rules | `(tactic| trivial) => `(tactic| first | exact noX_ok | exact noX_stuck | exact noX_opt | (refine noX_guard ?_; trivial))
theorem binV_noX (o : BO) (S : Store) (x y : D) : (binV o S x y).noX := by unfold binV; (repeat' split) <;> trivial
theorem eqR_noX (n : Bool) (S : Store) (x y : D) : (eqR n S x y).noX := by unfold eqR; (repeat' split) <;> trivial
theorem inR_noX (n : Bool) (S : Store) (x y : D) : (inR n S x y).noX := by unfold inR; (repeat' split) <;> trivial
theorem isR_noX (n : Bool) (S : Store) (x y : D) : (isR n S x y).noX := by unfold isR; (repeat' split) <;> trivial
theorem cmpV_noX (o : CO) (S : Store) (x y : D) : (cmpV o S x y).noX := by
  cases o <;> simp only [cmpV] <;> first
    | exact eqR_noX _ _ _ _
    | exact inR_noX _ _ _ _
    | exact isR_noX _ _ _ _
    | (split <;> trivial)
theorem ixV_noX (S : Store) (x y : D) : (ixV S x y).noX := by unfold ixV; (repeat' split) <;> trivial
theorem slV_noX (S : Store) (x : D) (l h : Option Int) : (slV S x l h).noX := by unfold slV; (repeat' split) <;> trivial
theorem isiV_noX (S : Store) (x : D) (t : TY) : (isiV S x t).noX := by unfold isiV; (repeat' split) <;> trivial
theorem biV_noX (f : BF) (S : Store) (ds : List D) : (biV f S ds).noX := by unfold biV; (repeat' split) <;> trivial
theorem methV_noX (m : ME) (S : Store) (x : D) (ds : List D) : (methV m S x ds).noX := by unfold methV; (repeat' split) <;> trivial
theorem setV_noX (S : Store) (x i v : D) : (setV S x i v).noX := by unfold setV; (repeat' split) <;> trivial

/-! ### readings -/
section
variable (K : PySem.W.Frag) (mg : Str → Option Value)
/-- what has to hold behind an outcome -/
def Aft {α β : Type} (P : Hp → List Addr → List Addr → β → α → Prop) (H : Hp) (bar io : List Addr) (σ : St) (ρ : Env) (W : WX) (Q : β → Hp → Prop) : R α → Prop
  | .ok a S' => ∀ b H' bar' io', Ext H bar io H' bar' io' → Wd K H' bar' io' σ ρ S' → P H' bar' io' b a → Q b H'
  | .exc c S' => ∀ H' bar' io' C, Ext H bar io H' bar' io' → Wd K H' bar' io' σ ρ S' → mg c = some (.ref C) → W (.ref C) none σ H'
  | .stuck => False
def tG {α β : Type} (P : Hp → List Addr → List Addr → β → α → Prop) (m : Env → Store → R α) (W : WX) : St → Hp → (β → Hp → Prop) → Prop := fun σ H Q => ∃ bar io ρ S, Wd K H bar io σ ρ S ∧ Aft K mg P H bar io σ ρ W Q (m ρ S)
abbrev PRep : Hp → List Addr → List Addr → V → D → Prop := fun H bar io v d => Rep K H bar io v d
abbrev PReps : Hp → List Addr → List Addr → List V → List D → Prop := fun H bar io v d => Reps K H bar io v d
abbrev PEq {α : Type} : Hp → List Addr → List Addr → α → α → Prop := fun _ _ _ b a => b = a
abbrev tE (m : Env → Store → R D) (W : WX) : TE := tG K mg (PRep K) m W
abbrev tL (m : Env → Store → R (List D)) (W : WX) : TA := tG K mg (PReps K) m W
abbrev tQ {α : Type} (m : Env → Store → R α) (W : WX) : St → Hp → (α → Hp → Prop) → Prop := tG K mg PEq m W
/-- .. as a test -/
def tst (m : Env → Store → R D) : Env → Store → R Bool := fun ρ S => (m ρ S).bind fun d S => optR (truthy S d) S
end
section
variable {K : PySem.W.Frag} {mg : Str → Option Value} {α β γ δ : Type} {P : Hp → List Addr → List Addr → β → α → Prop} {P2 : Hp → List Addr → List Addr → δ → γ → Prop}
  {H H1 : Hp} {bar io bar1 io1 : List Addr} {σ : St} {ρ : Env} {W : WX}
theorem Aft.imp {Q Q' : β → Hp → Prop} {r : R α} (h : Aft K mg P H bar io σ ρ W Q r) (f : ∀ b H, Q b H → Q' b H) : Aft K mg P H bar io σ ρ W Q' r := by
  cases r with
  | ok a S => exact fun b H' bar' io' x w p => f b H' (h b H' bar' io' x w p)
  | exc c S => exact h
  | stuck => exact h
theorem Aft.mono {Q : β → Hp → Prop} {r : R α} (x : Ext H bar io H1 bar1 io1) (h : Aft K mg P H bar io σ ρ W Q r) : Aft K mg P H1 bar1 io1 σ ρ W Q r := by
  cases r with
  | ok a S => exact fun b H' bar' io' y w p => h b H' bar' io' (x.trans y) w p
  | exc c S => exact fun H' bar' io' C y w e => h H' bar' io' C (x.trans y) w e
  | stuck => exact h
/-- the first part, then the rest -/
theorem Aft.bind {Q : δ → Hp → Prop} {r : R α} {f : α → Store → R γ} (h : Aft K mg P2 H bar io σ ρ W Q (r.bind f)) :
    Aft K mg P H bar io σ ρ W (fun b H1 => ∃ bar1 io1 S1 a, Ext H bar io H1 bar1 io1 ∧ Wd K H1 bar1 io1 σ ρ S1 ∧ P H1 bar1 io1 b a ∧ r = .ok a S1 ∧ Aft K mg P2 H1 bar1 io1 σ ρ W Q (f a S1)) r := by
  cases r with
  | ok a S => exact fun b H' bar' io' x w p => ⟨bar', io', S, a, x, w, p, rfl, Aft.mono x h⟩
  | exc c S => exact h
  | stuck => exact h
/-- an operator's outcome -/
theorem Aft.op {Q : β → Hp → Prop} {r : R α} (h : Aft K mg P H bar io σ ρ W Q r) (n : r.noX) : ∃ a S', r = .ok a S' ∧ ∀ b H' bar' io', Ext H bar io H' bar' io' → Wd K H' bar' io' σ ρ S' → P H' bar' io' b a → Q b H' := by
  cases r with
  | ok a S => exact ⟨a, S, rfl, h⟩
  | exc c S => exact absurd rfl (n c S)
  | stuck => exact h.elim
/-- an outcome at once -/
theorem Aft.now {Q : β → Hp → Prop} {a : α} {S : Store} {b : β} (h : Aft K mg P H bar io σ ρ W Q (.ok a S)) (w : Wd K H bar io σ ρ S) (p : P H bar io b a) : Q b H := h b H bar io Ext.refl w p
theorem Wd.mono' {S S' : Store} (w : Wd K H bar io σ ρ S) (x : Ext H bar io H1 bar1 io1) (st : StRep K H1 bar1 io1 S') : Wd K H1 bar1 io1 σ ρ S' := ⟨w.env.mono x w.st.live, st⟩
end
section
variable {X : Cx} {W : WX}
/-- another reading of the same -/
theorem _root_.L2.PE.imp {e : Expr} {t t' : TE} (h : PE X e t) (f : ∀ σ H Q, t' σ H Q → t σ H Q) : PE X e t' := ⟨fun pins s σ H Q I q => h.run pins s σ H Q I (f σ H Q q)⟩
theorem _root_.L2.PT.imp {e : Expr} {t t' : TT} (h : PT X e t) (f : ∀ σ H Q, t' σ H Q → t σ H Q) : PT X e t' := ⟨fun pins s σ H Q I q => h.run pins s σ H Q I (f σ H Q q)⟩
theorem _root_.L2.PW.imp {e : Expr} {t t' : TT} (h : PW X e t) (f : ∀ σ H Q, t' σ H Q → t σ H Q) : PW X e t' := ⟨fun wh pins s σ H Q I q => h.run wh pins s σ H Q I (f σ H Q q)⟩
theorem _root_.L2.PA.imp {e : List Expr} {t t' : TA} (h : PA X e t) (f : ∀ σ H Q, t' σ H Q → t σ H Q) : PA X e t' := ⟨fun pos pins s σ H Q I q => h.run pos pins s σ H Q I (f σ H Q q)⟩
theorem _root_.L2.PO.imp {e : Option Expr} {t t' : TO} (h : PO X e t) (f : ∀ σ H Q, t' σ H Q → t σ H Q) : PO X e t' := ⟨fun pins s σ H Q I q => h.run pins s σ H Q I (f σ H Q q)⟩
theorem _root_.L2.PTs.imp {e : List Expr} {t t' : TT} (h : PTs X e t) (f : ∀ σ H Q, t' σ H Q → t σ H Q) : PTs X e t' := ⟨fun pins s σ H Q I q => h.run pins s σ H Q I (f σ H Q q)⟩
theorem _root_.L2.PS.imp {e : Stmt} {t t' : TS} (h : PS X e t) (f : ∀ D σ H, t' D σ H → t D σ H) : PS X e t' := ⟨fun pins s σ H D I q => h.run pins s σ H D I (f D σ H q)⟩
theorem _root_.L2.PSs.imp {e : List Stmt} {t t' : TS} (h : PSs X e t) (f : ∀ D σ H, t' D σ H → t D σ H) : PSs X e t' := ⟨fun pins s σ H D I q => h.run pins s σ H D I (f D σ H q)⟩
theorem _root_.L2.PI.imp {tg e : Expr} {t t' : TI} (h : PI X tg e t) (f : ∀ σ H R, t' σ H R → t σ H R) : PI X tg e t' := ⟨fun pins s σ H Q I q => h.run pins s σ H Q I (f σ H Q q)⟩

abbrev XE' (X : Cx) (W : WX) (e : Expr) (m : Env → Store → R D) : Prop := PE X e (tE X.K X.mg m W)
abbrev XT (X : Cx) (W : WX) (e : Expr) (m : Env → Store → R D) : Prop := PT X e (tQ X.K X.mg (tst m) W)
abbrev XW (X : Cx) (W : WX) (e : Expr) (m : Env → Store → R D) : Prop := PW X e (tQ X.K X.mg (tst m) W)
abbrev XL (X : Cx) (W : WX) (es : List Expr) (m : Env → Store → R (List D)) : Prop := PA X es (tL X.K X.mg m W)

/-! ### the steps -/
theorem x_var {i : Nat} {x : Str} {pos : Pos} (hN : X.N[i]? = some x) (hv : Vis X.env.scope x) (hd : (x == ("__debug__" : Str)) = false) (hcd : (x == ("__classdict__" : Str)) = false) : XE' X W (.Name x pos) (evE (.var i)) := by
  refine (pe_var hN hv hd hcd).imp fun σ H Q ⟨bar, io, ρ, S, wd, h⟩ => ?_
  simp only [evE] at h
  split at h
  · rename_i d hd
    obtain ⟨v, e, r⟩ := wd.env.2 i d hd
    exact ⟨v, e, h.now wd r⟩
  · exact h.elim
theorem x_int {i : Int} {j : Nat} {pos : Pos} : XE' X W (.Constant (.int i) j pos) (evE (.int i)) :=
  pe_int.imp fun σ H Q ⟨bar, io, ρ, S, wd, h⟩ => Aft.now (b := V.int i) h wd (.int i)
theorem x_bl {i : Bool} {j : Nat} {pos : Pos} : XE' X W (.Constant (.bool i) j pos) (evE (.bl i)) :=
  pe_bl.imp fun σ H Q ⟨bar, io, ρ, S, wd, h⟩ => Aft.now (b := V.bl i) h wd (.bl i)
theorem x_non {j : Nat} {pos : Pos} : XE' X W (.Constant .none j pos) (evE .non) :=
  pe_non.imp fun σ H Q ⟨bar, io, ρ, S, wd, h⟩ => Aft.now (b := V.non) h wd .non
theorem x_str {z : Str} {j : Nat} {pos : Pos} (h1 : z.length ≤ sizeLine) (h2 : PyData.strOk z = true) : XE' X W (.Constant (.str z) j pos) (evE (.str z)) :=
  pe_str.imp fun σ H Q ⟨bar, io, ρ, S, wd, h⟩ => Aft.now (b := V.str z) h wd (.str z h1 h2)
/-- a constant of the module -/
def GlobOk (K : PySem.W.Frag) (mg : Str → Option Value) (x : Str) (d : D) : Prop := ∃ v u, mg x = some u ∧ RelV v u ∧ ∀ H bar io, Rep K H bar io v d
theorem x_glob {x : Str} {d : D} {pos : Pos} (hg : Gl X x) (ok : GlobOk X.K X.mg x d) (hd : (x == ("__debug__" : Str)) = false) : XE' X W (.Name x pos) (evE (.glob x d)) := by
  obtain ⟨v, u, hm, r, q⟩ := ok
  exact (pe_glob hg hm r hd).imp fun σ H Q ⟨bar, io, ρ, S, wd, h⟩ => Aft.now (b := v) h wd (q H bar io)
section
variable {a b c : Expr} {ma mb mc : Env → Store → R D} {pos : Pos}
/-- two values, then an operator -/
theorem two_op {f : Store → D → D → R D} (n : ∀ S x y, (f S x y).noX) {σ : St} {H : Hp} {Q : VK} (h : tE X.K X.mg (fun ρ S => (ma ρ S).bind fun x S => (mb ρ S).bind fun y S => f S x y) W σ H Q) :
    tOp (rOp X.K f) (tE X.K X.mg ma W) (tE X.K X.mg mb W) σ H Q := by
  obtain ⟨bar, io, ρ, S, wd, h⟩ := h
  refine ⟨bar, io, ρ, S, wd, (Aft.bind (P := PRep X.K) h).imp fun x H1 ⟨bar1, io1, S1, d1, x1, wd1, r1, _, h1⟩ => ?_⟩
  refine ⟨bar1, io1, ρ, S1, wd1, (Aft.bind (P := PRep X.K) h1).imp fun y H2 ⟨bar2, io2, S2, d2, x2, wd2, r2, _, h2⟩ => ?_⟩
  obtain ⟨d, S', e, q⟩ := h2.op (n _ _ _)
  exact ⟨bar2, io2, S2, d1, d2, d, S', wd2.st, r1.mono x2 wd1.st.live, r2, e, fun v H' bar' io' x st r => q v H' bar' io' x (wd2.mono' x st) r⟩
theorem x_bin (o : BO) (ha : XE' X W a ma) (hb : XE' X W b mb) : XE' X W (.BinOp a (opOf o) b pos) (fun ρ S => (ma ρ S).bind fun x S => (mb ρ S).bind fun y S => binV o S x y) :=
  (pe_op (op_bin o) ha hb).imp fun σ H Q h => two_op (binV_noX o) h
theorem x_neg (ha : XE' X W a ma) : XE' X W (.UnaryOp .USub a pos) (fun ρ S => (ma ρ S).bind fun x S => match x with
    | .int i => .ok (.int (-i)) S
    | _ => .stuck) := by
  refine (pe_un un_neg ha).imp fun σ H Q ⟨bar, io, ρ, S, wd, h⟩ => ?_
  refine ⟨bar, io, ρ, S, wd, (Aft.bind (P := PRep X.K) h).imp fun x H1 ⟨bar1, io1, S1, d1, x1, wd1, r1, _, h1⟩ => ?_⟩
  split at h1
  · cases r1
    exact ⟨_, rfl, h1.now wd1 (.int _)⟩
  · exact h1.elim
theorem tru_rep {K : PySem.W.Frag} {H : Hp} {bar io : List Addr} {S : Store} {x : V} {d : D} {k : Bool} (st : StRep K H bar io S) (r : Rep K H bar io x d) (h : truthy S d = some k) : TruV K x H k := by
  cases r with
  | non => cases h; rfl
  | bl b => cases h; rfl
  | int i => cases h; rfl
  | str s z _ => cases h; exact ⟨z, rfl⟩
  | tup hh z q => cases h; exact .inr (.inl ⟨_, .inl (.inl hh), by cases q <;> rfl⟩)
  | lst hh b z q => cases h; exact .inl ⟨_, .inl (.inl hh), by cases q <;> rfl⟩
  | scr hh z q => cases h; exact .inl ⟨_, .inl (.inr ⟨_, hh⟩), by cases q <;> rfl⟩
  | scrK a b dd c e v q => cases h; exact .inl ⟨_, .inr ⟨_, _, _, a, b, dd, c, e, v⟩, by cases q <;> rfl⟩
  | kup a b c e v q => cases h; exact .inr (.inl ⟨_, .inr ⟨_, _, _, a, b, c, e, v⟩, by cases q <;> rfl⟩)
  | @adr a n e =>
    have h : (match S[n]? with | some (.lst xs) => some (!xs.isEmpty) | some (.dic xs) => some (!xs.isEmpty) | none => none) = some k := h
    cases hc : S[n]? with
    | none => rw [hc] at h; cases h
    | some c =>
      rw [hc] at h
      obtain ⟨a', o, e1, e2, q⟩ := st.cell n _ hc
      rw [e] at e1; cases e1
      cases q with
      | lst z q => cases h; exact .inl ⟨_, .inl (.inl e2), by cases q <;> rfl⟩
      | dic z q => cases h; exact .inr (.inr ⟨_, e2, by cases q <;> rfl⟩)
theorem x_not (ha : XE' X W a ma) : XE' X W (.UnaryOp .Not a pos) (fun ρ S => (ma ρ S).bind fun x S => match truthy S x with
    | some b => .ok (.bl (!b)) S
    | none => .stuck) := by
  refine (pe_notT ha).imp fun σ H Q ⟨bar, io, ρ, S, wd, h⟩ => ?_
  refine ⟨bar, io, ρ, S, wd, (Aft.bind (P := PRep X.K) h).imp fun x H1 ⟨bar1, io1, S1, d1, x1, wd1, r1, _, h1⟩ => ?_⟩
  split at h1
  · rename_i k hk
    exact ⟨k, tru_rep wd1.st r1 hk, h1.now wd1 (.bl _)⟩
  · exact h1.elim
theorem x_cmp (hu : X.A.units + 64 < cLine) (o : CO) (ha : XE' X W a ma) (hb : XE' X W b mb) (hm : behindInMarks (cmpOf o) b = false) : XE' X W (.Compare a [cmpOf o] [b] pos) (fun ρ S => (ma ρ S).bind fun x S => (mb ρ S).bind fun y S => cmpV o S x y) :=
  (pe_cmpR (op_cmp hu o) ha hb hm).imp fun σ H Q h => two_op (cmpV_noX o) h
theorem x_ix (hu : X.A.units + 1 < cLine) (ha : XE' X W a ma) (hb : XE' X W b mb) (hs : PlainIx b) : XE' X W (.Subscript a b pos) (fun ρ S => (ma ρ S).bind fun x S => (mb ρ S).bind fun y S => ixV S x y) :=
  (pe_ix (ix_any hu) ha hb hs).imp fun σ H Q h => two_op ixV_noX h
theorem cmp_bl {o : CO} {S S' : Store} {x y d : D} (h : cmpV o S x y = .ok d S') : (∃ k, d = .bl k) ∧ S' = S := by
  have g : ∀ {b : Bool} {k : Bool} {S S' : Store} {d : D}, guardR b (.ok (.bl k) S) = .ok d S' → (∃ k, d = .bl k) ∧ S' = S := fun {b k S S' d} h => by
    obtain ⟨_, h⟩ := guardR_ok h
    cases h; exact ⟨⟨_, rfl⟩, rfl⟩
  cases o <;> simp only [cmpV] at h
  case eq | ne => unfold eqR at h; split at h; exact g h; cases h
  case inn | notIn =>
    unfold inR at h
    split at h
    · exact g h
    · exact g h
    · split at h
      · exact g h
      · split at h
        · cases h; exact ⟨⟨_, rfl⟩, rfl⟩
        · cases h
  case is | isNot =>
    unfold isR at h
    repeat' split at h
    all_goals first | (cases h; exact ⟨⟨_, rfl⟩, rfl⟩) | cases h
  all_goals (split at h <;> cases h; exact ⟨⟨_, rfl⟩, rfl⟩)
theorem x_chain (hu : X.A.units + 64 < cLine) (o o' : CO) (ha : XE' X W a ma) (hb : XE' X W b mb) (hc : XE' X W c mc) (hm : lastMarks [cmpOf o, cmpOf o'] [b, c] = false) :
    XE' X W (.Compare a [cmpOf o, cmpOf o'] [b, c] pos) (fun ρ S => (ma ρ S).bind fun x S => (mb ρ S).bind fun y S => (cmpV o S x y).bind fun z S => match z with
    | .bl true => (mc ρ S).bind fun w S => cmpV o' S y w
    | .bl false => .ok (.bl false) S
    | _ => .stuck) := by
  refine (pe_chain (op_cmp hu o) (op_cmp hu o') ha hb hc hm).imp fun σ H Q ⟨bar, io, ρ, S, wd, h⟩ => ?_
  refine ⟨bar, io, ρ, S, wd, (Aft.bind (P := PRep X.K) h).imp fun x H1 ⟨bar1, io1, S1, d1, x1, wd1, r1, _, h1⟩ => ?_⟩
  refine ⟨bar1, io1, ρ, S1, wd1, (Aft.bind (P := PRep X.K) h1).imp fun y H2 ⟨bar2, io2, S2, d2, x2, wd2, r2, _, h2⟩ => ?_⟩
  have h3 := Aft.bind (P := PRep X.K) h2
  obtain ⟨d, S', e, q⟩ := h3.op (cmpV_noX _ _ _ _)
  obtain ⟨⟨k, rfl⟩, rfl⟩ := cmp_bl e
  refine ⟨bar2, io2, S', d1, d2, .bl k, S', wd2.st, r1.mono x2 wd1.st.live, r2, e, fun v H' bar' io' x st r => ?_⟩
  obtain ⟨bar3, io3, S3, d3, x3, wd3, r3, e3, h4⟩ := q v H' bar' io' x (wd2.mono' x st) r
  rw [e] at e3; cases e3
  cases r3
  refine ⟨k, rfl, ?_⟩
  cases k with
  | false => exact h4.now wd3 (.bl _)
  | true =>
    refine ⟨bar3, io3, ρ, S', wd3, (Aft.bind (P := PRep X.K) h4).imp fun w H4 ⟨bar4, io4, S4, d4, x4, wd4, r4, _, h5⟩ => ?_⟩
    obtain ⟨d, S', e, q⟩ := h5.op (cmpV_noX _ _ _ _)
    exact ⟨bar4, io4, S4, d2, d4, d, S', wd4.st, (r2.mono x3 wd2.st.live).mono x4 wd3.st.live, r4, e, fun v H' bar' io' x st r => q v H' bar' io' x (wd4.mono' x st) r⟩
end
end
end PX

/-! PXR: t[::-1], t a tuple. -/
namespace PX
open PySem PySem.Spec PyProof.Rows L2 HT
section
variable {prog : Program} {w : World} {A : Around} {E : Value → Shared → Prop} {s : Shared}
theorem sliceApplied_back {sl : Addr} {vs : Value} {n : Nat} {Q : Int × Int × Nat → Shared → Prop} (hs : s.heap.IsSliceOf sl .none .none vs) (ps : IsPart vs (some (-1)))
    (h : Q ((n : Int) - 1, -1, n) s) : wpAny (model prog w) A (Builtin.Slice.sliceApplied (.ref sl) (pure (n : Int))) Q E s := by
  obtain ⟨os, hos, hcs, hds⟩ := id hs
  unfold Builtin.Slice.sliceApplied Builtin.Slice.sliceFields
  refine wpAny_bind (wpAny_bind (wpAny_field hos hds (x := .none) rfl (wpAny_bind (wpAny_field hos hds (x := .none) rfl (wpAny_bind (wpAny_field hos hds (x := vs) rfl (wpAny_pure ?_)))))))
  refine wpAny_bind (slicePart_ ps ?_)
  show wpAny _ _ (if ((-1 : Int) == 0) = true then _ else _) _ _ s
  rw [if_neg (by decide)]
  refine wpAny_bind (slicePart_none (wpAny_bind (slicePart_none (wpAny_bind (wpAny_pure ?_)))))
  have e1 : Builtin.Slice.sliceAdjust none none (-1) (n : Int) = ((n : Int) - 1, -1) := by
    unfold Builtin.Slice.sliceAdjust
    simp
  have e2 : Builtin.Slice.slicePlaces ((n : Int) - 1) (-1) (-1) = n := by
    unfold Builtin.Slice.slicePlaces
    rw [if_neg (by decide)]
    by_cases hn : n = 0
    · subst hn; rfl
    · rw [if_pos (by omega)]
      have : ((n : Int) - 1 - -1 - 1) / (- -1) + 1 = (n : Int) := by
        rw [show (- -1 : Int) = 1 from rfl, Int.ediv_one]
        omega
      rw [this]
      exact Int.toNat_natCast n
  show wpAny _ _ (match Builtin.Slice.sliceAdjust none none (-1) (n : Int) with | (lo, hi) => pure (lo, (-1 : Int), Builtin.Slice.slicePlaces lo hi (-1))) _ _ s
  rw [e1]
  show wpAny _ _ (pure ((n : Int) - 1, (-1 : Int), Builtin.Slice.slicePlaces ((n : Int) - 1) (-1) (-1))) _ _ s
  rw [e2]
  exact wpAny_pure h
theorem fm_congr {α β : Type} {f g : α → Option β} : ∀ {l : List α}, (∀ x ∈ l, f x = g x) → l.filterMap f = l.filterMap g
  | [], _ => rfl
  | x :: l, h => by rw [List.filterMap_cons, List.filterMap_cons, h x List.mem_cons_self, fm_congr fun y hy => h y (List.mem_cons_of_mem _ hy)]
theorem pick_back (xs : Array Value) : ((List.range xs.size).filterMap fun (m : Nat) => xs[((xs.size : Int) - 1 + (m : Int) * (-1)).toNat]?).toArray = xs.toList.reverse.toArray := by
  congr 1
  have e : ∀ m ∈ List.range xs.size, (fun (m : Nat) => xs[((xs.size : Int) - 1 + (m : Int) * (-1)).toNat]?) m = (fun (m : Nat) => xs.toList.reverse[m]?) m := fun m hm => by
    have hm := List.mem_range.mp hm
    have e1 : ((xs.size : Int) - 1 + (m : Int) * (-1)).toNat = xs.size - 1 - m := by omega
    dsimp only
    rw [e1, List.getElem?_reverse (by simpa using hm), Array.length_toList, Array.getElem?_toList]
  rw [fm_congr e]
  have : ∀ l : List Value, (List.range l.length).filterMap (fun m => l[m]?) = l := fun l => by
    induction l with
    | nil => rfl
    | cons x l ih =>
      rw [List.length_cons, List.range_succ_eq_map, List.filterMap_cons]
      simp only [List.getElem?_cons_zero, List.filterMap_map]
      rw [show ((fun m => (x :: l)[m]?) ∘ Nat.succ) = fun m => l[m]? from by funext m; simp]
      rw [ih]
  have h2 := this xs.toList.reverse
  rw [List.length_reverse, Array.length_toList] at h2
  exact h2
theorem getItem_tuple_back {t sl : Addr} {items : Array Value} {vs : Value} {Q : Value → Shared → Prop} (ht : IsTup s.heap t items) (hs : s.heap.IsSliceOf sl .none .none vs) (ps : IsPart vs (some (-1)))
    (h : Q (.ref s.heap.objs.size) { s with heap := s.heap.push { cls := .type "tuple", data := .seq items.toList.reverse.toArray } }) (hsz : items.size ≤ sizeLine) : wpAny (model prog w) A (getItem (.ref t) (.ref sl)) Q E s := by
  have htake : sizeOk (.seq items.toList.reverse.toArray) := by
    show items.toList.reverse.toArray.size ≤ sizeLine
    rw [List.size_toArray, List.length_reverse, Array.length_toList]
    exact hsz
  obtain ⟨os, hos, hcs, hds⟩ := id hs
  have hTs : s.TypeIs (.ref sl) "slice" := ⟨os, hos, hcs⟩
  unfold getItem
  try with_reducible refine wpAny_holding ?_
  first | refine wpAny_bind (wpAny_pure ?_) | skip
  refine wpAny_bind (wpAny_sequenceKey ht.typeIs (by decide) ?_)
  refine wpAny_bind (wpAny_callSpecial?_slot (name := Str.ofString "__getitem__") ht.typeIs PyProof.Rows.slot_tuple_getitem
    (wpAny_call_entry PyProof.Rows.slot_tuple_getitem ht.typeIs entry_tuple_getitem ?_ (args_tuple_getitem _ _)))
  show wpAny _ _ (Builtin.Tuple.tupleItemsOf (.ref t) >>= _) _ _ s
  refine wpAny_bind (tupleItemsOf_ ht ?_)
  refine wpAny_bind (wpAny_typeOf hTs ?_)
  rw [if_pos (by decide)]
  refine wpAny_bind (sliceApplied_back hs ps ?_)
  have hno : ¬ ((((items.size : Int) - 1) == 0 && (-1 : Int) == 1 && items.size == items.size) = true) := by
    intro q
    rw [Bool.and_eq_true, Bool.and_eq_true] at q
    exact absurd q.1.2 (by decide)
  show wpAny _ _ (if (((items.size : Int) - 1) == 0 && (-1 : Int) == 1 && items.size == items.size) = true then _ else _) _ _ s
  rw [if_neg hno, pick_back]
  first
    | exact wpAny_bind (m := Builtin.Tuple.tupleExact _) (wpAny_newObj_type (wpAny_pure ⟨_, rfl, wpAny_pure h⟩) htake)
    | exact wpAny_bind (m := Builtin.Tuple.tupleExact _) (wpAny_newObj_type (wpAny_bind (wpAny_pure (wpAny_pure ⟨_, rfl, wpAny_pure h⟩))) htake)
    | exact wpAny_bind (wpAny_bind (m := Builtin.Tuple.tupleExact _) (wpAny_newObj_type (wpAny_pure (wpAny_pure ⟨_, rfl, wpAny_pure h⟩)) htake))
    | exact wpAny_bind (wpAny_bind (m := Builtin.Tuple.tupleExact _) (wpAny_newObj_type (wpAny_pure ⟨_, rfl, wpAny_pure h⟩) htake))
end
section
variable {X : Cx}
/-- a list or a tuple, from behind -/
def tBack (K : PySem.W.Frag) (te : TE) : TE := fun σ H Q => te σ H fun x H1 => ∃ a xs, x = .ref a ∧ ((SqL K H1 a xs ∧ ∀ p, H1 p = none → Q (.ref p) (upd H1 p (.lst xs.reverse))) ∨ (SqT K H1 a xs ∧ ∀ p, H1 p = none → Q (.ref p) (upd H1 p (.tup xs.reverse))))
theorem pe_back {e : Expr} {te : TE} {k : Nat} {p1 p2 p3 pos : Pos} (he : PE X e te) : PE X (.Subscript e (.Slice none none (some (.UnaryOp .USub (.Constant (.int 1) k p1) p2)) p3) pos) (tBack X.K te) := by
  refine ⟨fun pins s σ H Q I h => ?_⟩
  refine Subscript_ (thn (he.run pins s σ H _ I h) fun v s1 ⟨x, H1, I1, r1, q1⟩ => ?_)
  obtain ⟨a, xs, ex, q⟩ := q1
  subst ex
  cases r1
  have hst : PO X (some (.UnaryOp .USub (.Constant (.int 1) k p1) p2)) (tPart (tUn (rU fun i => .int (-i)) (tC (.int 1)))) := po_some (pe_un un_neg pe_int)
  refine wpAny_Slice (thn (po_none.run pins s1 σ H1 (fun o H2 => o = none ∧ H2 = H1) I1 ⟨rfl, rfl⟩) fun vl s2 ⟨l, H2, I2, pl, el, e2⟩ => ?_)
  subst el e2
  refine thn (po_none.run pins s2 σ H2 (fun o H3 => o = none ∧ H3 = H2) I2 ⟨rfl, rfl⟩) fun vu s3 ⟨u, H3, I3, pu, eu, e3⟩ => ?_
  subst eu e3
  refine thn (hst.run pins s3 σ H3 (fun o H4 => o = some (-1) ∧ H4 = H3) I3 ⟨1, rfl, -1, rfl, rfl, rfl⟩) fun vs s4 ⟨o, H4, I4, ps, eo, e4⟩ => ?_
  subst eo e4
  have I5 : Inv X pins σ H4 { s4 with heap := s4.heap.push { cls := .type "slice", data := .fields #[vl, vu, vs] } } := I4.kept (t' := s4.toks) fun b ob q => Heap.get?_push_of_some _ q
  show wpAny (model X.prog X.w) X.A (subscriptTail e (.Slice none none (some (.UnaryOp .USub (.Constant (.int 1) k p1) p2)) p3) (.ref a) (.ref s4.heap.objs.size)) (EP X pins σ Q) X.xe { s4 with heap := s4.heap.push { cls := .type "slice", data := .fields #[vl, vu, vs] } }
  rcases q with ⟨hx, q⟩ | ⟨hx, q⟩
  · obtain ⟨its, r, ht, hz⟩ := I5.list hx
    have hlen := r.length
    refine tail_any (ops := [.ref a, .ref s4.heap.objs.size]) ht.isList.typeIs (PySem.slot_list_getitem.lookup) ?_ (by with_unfolding_all rfl)
    refine wpAny_getItem_list_slice ht.isList (Heap.IsSliceOf.new _ vl vu vs) pl pu ps (by decide) ?_ (by rw [List.size_toArray]; omega)
    rw [PySem.W.krv_pick]
    refine ⟨.ref _, _, I5.laid (t' := s4.toks) (o := .lst xs.reverse) (fun b ob q => Heap.get?_push_of_some _ q) (Nat.le_refl _) ?_, rfl, q _ (I5.hok.fresh (Nat.le_refl _))⟩
    exact ⟨by rw [List.length_reverse]; exact hz, _, 0, r.reverse, Heap.get?_push_size _ rfl⟩
  · obtain ⟨its, r, ht, hz⟩ := I5.tuple hx
    have hlen := r.length
    cases pl
    cases pu
    refine tail_any (ops := [.ref a, .ref s4.heap.objs.size]) ht.typeIs (PyProof.Rows.slot_tuple_getitem.lookup) ?_ (by with_unfolding_all rfl)
    refine getItem_tuple_back ht (Heap.IsSliceOf.new _ .none .none vs) ps ?_ (by rw [List.size_toArray]; omega)
    refine ⟨.ref _, _, I5.laid (t' := s4.toks) (o := .tup xs.reverse) (fun b ob q => Heap.get?_push_of_some _ q) (Nat.le_refl _) ?_, rfl, q _ (I5.hok.fresh (Nat.le_refl _))⟩
    exact ⟨by rw [List.length_reverse]; exact hz, its.reverse, r.reverse, ⟨_, Heap.get?_push_size _ rfl, rfl, _, rfl⟩⟩
end
end PX

/-! PX8: tests, displays, slices, calls. -/
namespace PX
open PySem L2
section
variable {X : Cx} {W : WX} {a b c : Expr} {es : List Expr} {ma mb mc : Env → Store → R D} {ml : Env → Store → R (List D)} {pos : Pos}
theorem optR_noX {α : Type} (o : Option α) (S : Store) : (optR o S).noX := noX_opt
/-! ### tests -/
/-- a value, then its truth -/
theorem tst_truth {σ : St} {H : Hp} {Q : Bool → Hp → Prop} (h : tQ X.K X.mg (tst ma) W σ H Q) : tE X.K X.mg ma W σ H fun x H' => ∃ k, TruV X.K x H' k ∧ Q k H' := by
  obtain ⟨bar, io, ρ, S, wd, h⟩ := h
  refine ⟨bar, io, ρ, S, wd, (Aft.bind (P := PRep X.K) h).imp fun x H1 ⟨bar1, io1, S1, d1, x1, wd1, r1, _, h1⟩ => ?_⟩
  obtain ⟨k, S', e, q⟩ := h1.op (optR_noX _ _)
  obtain ⟨e, rfl⟩ := optR_ok e
  exact ⟨k, tru_rep wd1.st r1 e, q k H1 bar1 io1 Ext.refl wd1 rfl⟩
theorem t_plain (ha : XE' X W a ma) (he : ∀ whole, isTrue a X.env whole = (do let v ← whole; standAt a.pos; holding [v] (PySem.truthy v))) : XT X W a ma :=
  (pt_truth ha he).imp fun σ H Q h => tst_truth h
theorem t_not (ha : XT X W a ma) : XT X W (.UnaryOp .Not a pos) (fun ρ S => (ma ρ S).bind fun x S => match truthy S x with
    | some b => .ok (.bl (!b)) S
    | none => .stuck) := by
  refine (pt_not ha).imp fun σ H Q ⟨bar, io, ρ, S, wd, h⟩ => ⟨bar, io, ρ, S, wd, ?_⟩
  unfold tst at h ⊢
  dsimp only at h
  cases e : ma ρ S with
  | stuck => rw [e] at h; exact h.elim
  | exc c S' => rw [e] at h; exact h
  | ok d S' =>
    rw [e] at h
    simp only [R.bind_ok] at h ⊢
    cases e2 : truthy S' d with
    | none => rw [e2] at h; exact h.elim
    | some k =>
      rw [e2] at h
      intro b H' bar' io' x w p
      subst p
      exact h _ H' bar' io' x w rfl
/-- of an operator that gives a truth -/
theorem bl_tst {r : R D} {H : Hp} {bar io : List Addr} {σ : St} {ρ : Env} {Q : Bool → Hp → Prop} (hb : ∀ d S', r = .ok d S' → ∃ k, d = .bl k) (h : Aft X.K X.mg PEq H bar io σ ρ W Q (r.bind fun d S => optR (truthy S d) S)) :
    Aft X.K X.mg (PRep X.K) H bar io σ ρ W (fun x H' => ∃ k, x = .bl k ∧ Q k H') r := by
  refine (Aft.bind (P := PRep X.K) h).imp fun x H1 ⟨bar1, io1, S1, d1, x1, wd1, r1, e1, h1⟩ => ?_
  obtain ⟨k, rfl⟩ := hb _ _ e1
  cases r1
  exact ⟨k, rfl, Aft.now (b := k) h1 wd1 rfl⟩
theorem R.bind_eq_ok {α β : Type} {r : R α} {f : α → Store → R β} {b : β} {S' : Store} (h : r.bind f = .ok b S') : ∃ a S, r = .ok a S ∧ f a S = .ok b S' := by
  cases r with
  | ok a S => exact ⟨a, S, rfl, h⟩
  | exc c S => cases h
  | stuck => cases h
theorem t_cmp (hu : X.A.units + 64 < cLine) (o : CO) (ha : XE' X W a ma) (hb : XE' X W b mb) (hm : behindInMarks (cmpOf o) b = false) : XT X W (.Compare a [cmpOf o] [b] pos) (fun ρ S => (ma ρ S).bind fun x S => (mb ρ S).bind fun y S => cmpV o S x y) := by
  refine (pt_cmpR (op_cmp hu o) ha hb hm).imp fun σ H Q ⟨bar, io, ρ, S, wd, h⟩ => two_op (cmpV_noX o) ⟨bar, io, ρ, S, wd, bl_tst (fun d S' e => ?_) h⟩
  obtain ⟨d1, S1, _, e⟩ := R.bind_eq_ok e
  obtain ⟨d2, S2, _, e⟩ := R.bind_eq_ok e
  exact (cmp_bl e).1
theorem t_chain (hu : X.A.units + 64 < cLine) (o o' : CO) (ha : XE' X W a ma) (hb : XE' X W b mb) (hc : XE' X W c mc) (hm : lastMarks [cmpOf o, cmpOf o'] [b, c] = false) :
    XT X W (.Compare a [cmpOf o, cmpOf o'] [b, c] pos) (fun ρ S => (ma ρ S).bind fun x S => (mb ρ S).bind fun y S => (cmpV o S x y).bind fun z S => match z with
    | .bl true => (mc ρ S).bind fun w S => cmpV o' S y w
    | .bl false => .ok (.bl false) S
    | _ => .stuck) := by
  refine (pt_chain (op_cmp hu o) (op_cmp hu o') ha hb hc hm).imp fun σ H Q ⟨bar, io, ρ, S, wd, h⟩ => ?_
  have h := bl_tst (fun d S' e => ?_) h
  · refine ⟨bar, io, ρ, S, wd, (Aft.bind (P := PRep X.K) h).imp fun x H1 ⟨bar1, io1, S1, d1, x1, wd1, r1, _, h1⟩ => ?_⟩
    refine ⟨bar1, io1, ρ, S1, wd1, (Aft.bind (P := PRep X.K) h1).imp fun y H2 ⟨bar2, io2, S2, d2, x2, wd2, r2, _, h2⟩ => ?_⟩
    have h3 := Aft.bind (P := PRep X.K) h2
    obtain ⟨d, S', e, q⟩ := h3.op (cmpV_noX _ _ _ _)
    obtain ⟨⟨k, rfl⟩, rfl⟩ := cmp_bl e
    refine ⟨bar2, io2, S', d1, d2, .bl k, S', wd2.st, r1.mono x2 wd1.st.live, r2, e, fun v H' bar' io' x st r => ?_⟩
    obtain ⟨bar3, io3, S3, d3, x3, wd3, r3, e3, h4⟩ := q v H' bar' io' x (wd2.mono' x st) r
    rw [e] at e3; cases e3
    cases r3
    refine ⟨k, rfl, ?_⟩
    cases k with
    | false => exact h4.now wd3 (.bl _)
    | true =>
      refine ⟨bar3, io3, ρ, S', wd3, (Aft.bind (P := PRep X.K) h4).imp fun w H4 ⟨bar4, io4, S4, d4, x4, wd4, r4, _, h5⟩ => ?_⟩
      obtain ⟨d, S', e, q⟩ := h5.op (cmpV_noX _ _ _ _)
      exact ⟨bar4, io4, S4, d2, d4, d, S', wd4.st, (r2.mono x3 wd2.st.live).mono x4 wd3.st.live, r4, e, fun v H' bar' io' x st r => q v H' bar' io' x (wd4.mono' x st) r⟩
  · obtain ⟨d1, S1, _, e⟩ := R.bind_eq_ok e
    obtain ⟨d2, S2, _, e⟩ := R.bind_eq_ok e
    obtain ⟨d3, S3, _, e⟩ := R.bind_eq_ok e
    split at e
    · obtain ⟨d4, S4, _, e⟩ := R.bind_eq_ok e
      exact (cmp_bl e).1
    · cases e; exact ⟨_, rfl⟩
    · cases e

/-! ### if else -/
theorem ite_aft {β γ : Type} {P : Hp → List Addr → List Addr → β → γ → Prop} {ga gb : Env → Store → R γ} {H : Hp} {bar io : List Addr} {σ : St} {ρ : Env} {S : Store} {Q : β → Hp → Prop} {mt : Env → Store → R D} (wd : Wd X.K H bar io σ ρ S)
    (h : Aft X.K X.mg P H bar io σ ρ W Q ((mt ρ S).bind fun x S => match truthy S x with
      | some true => ga ρ S
      | some false => gb ρ S
      | none => .stuck)) : tQ X.K X.mg (tst mt) W σ H fun k H1 => if k = true then tG X.K X.mg P ga W σ H1 Q else tG X.K X.mg P gb W σ H1 Q := by
  refine ⟨bar, io, ρ, S, wd, ?_⟩
  unfold tst
  cases e : mt ρ S with
  | stuck => rw [e] at h; exact h.elim
  | exc c S' => rw [e] at h; exact h
  | ok d S' =>
    rw [e] at h
    simp only [R.bind_ok] at h ⊢
    cases e2 : truthy S' d with
    | none => rw [e2] at h; exact h.elim
    | some k =>
      rw [e2] at h
      intro b H' bar' io' x w p
      subst p
      cases b with
      | true => exact ⟨bar', io', ρ, S', w, h.mono x⟩
      | false => exact ⟨bar', io', ρ, S', w, h.mono x⟩
theorem x_ite (hc : XT X W c mc) (ha : XE' X W a ma) (hb : XE' X W b mb) : XE' X W (.IfExp c a b pos) (fun ρ S => (mc ρ S).bind fun x S => match truthy S x with
    | some true => ma ρ S
    | some false => mb ρ S
    | none => .stuck) :=
  (pe_ifExp hc ha hb).imp fun σ H Q ⟨bar, io, ρ, S, wd, h⟩ => ite_aft wd h

theorem t_ite (hc : XT X W c mc) (ha : XT X W a ma) (hb : XT X W b mb) : XT X W (.IfExp c a b pos) (fun ρ S => (mc ρ S).bind fun x S => match truthy S x with
    | some true => ma ρ S
    | some false => mb ρ S
    | none => .stuck) := by
  refine ⟨fun pins s σ H Q I ⟨bar, io, ρ, S, wd, h⟩ => ?_⟩
  have h2 : Aft X.K X.mg PEq H bar io σ ρ W Q ((mc ρ S).bind fun x S => match truthy S x with
      | some true => tst ma ρ S
      | some false => tst mb ρ S
      | none => .stuck) := by
    unfold tst at h ⊢
    dsimp only at h
    cases e : mc ρ S with
    | stuck => rw [e] at h; exact h
    | exc c S' => rw [e] at h; exact h
    | ok d S' =>
      rw [e] at h
      simp only [R.bind_ok] at h ⊢
      cases e2 : truthy S' d with
      | none => rw [e2] at h; exact h
      | some k => rw [e2] at h; cases k <;> exact h
  have h3 := ite_aft wd h2
  show wpAny _ _ (do if ← isTrue c X.env (eval c X.env) then isTrue a X.env (eval a X.env) else isTrue b X.env (eval b X.env)) _ _ _
  refine wpAny_bind (thn (hc.run pins s σ H _ I h3) fun d s1 ⟨H1, I1, q1⟩ => ?_)
  cases d with
  | true => exact ha.run pins s1 σ H1 Q I1 q1
  | false => exact hb.run pins s1 σ H1 Q I1 q1

/-! ### lists of values, displays -/
theorem l_nil : XL X W [] (evL .nil) := pa_nil.imp fun σ H Q ⟨bar, io, ρ, S, wd, h⟩ => Aft.now (b := ([] : List V)) h wd .nil
theorem l_cons (ha : XE' X W a ma) (hr : XL X W es ml) (hs : starEach (a :: es) X.env = (false, eval a X.env) :: starEach es X.env) : XL X W (a :: es) (fun ρ S => (ma ρ S).bind fun d S => (ml ρ S).bind fun ds S => .ok (d :: ds) S) := by
  refine (pa_cons ha hr hs).imp fun σ H Q ⟨bar, io, ρ, S, wd, h⟩ => ?_
  refine ⟨bar, io, ρ, S, wd, (Aft.bind (P := PRep X.K) h).imp fun x H1 ⟨bar1, io1, S1, d1, x1, wd1, r1, _, h1⟩ => ?_⟩
  refine ⟨bar1, io1, ρ, S1, wd1, (Aft.bind (P := PReps X.K) h1).imp fun y H2 ⟨bar2, io2, S2, d2, x2, wd2, r2, _, h2⟩ => ?_⟩
  exact Aft.now (b := x :: y) h2 wd2 (.cons (r1.mono x2 wd1.st.live) r2)
theorem x_tup {k : Nat} (hl : es.length ≤ sizeLine) (hn : ∀ ρ S ds S', ml ρ S = .ok ds S' → ds.length = es.length) (he : XL X W es ml) : XE' X W (.Tuple es k pos) (fun ρ S => (ml ρ S).bind fun ds S => .ok (.tup ds) S) := by
  refine (pe_tup he).imp fun σ H Q ⟨bar, io, ρ, S, wd, h⟩ => ?_
  refine ⟨bar, io, ρ, S, wd, (Aft.bind (P := PReps X.K) h).imp fun x H1 ⟨bar1, io1, S1, d1, x1, wd1, r1, e1, h1⟩ => ?_⟩
  have z : x.length ≤ sizeLine := by rw [r1.length, hn _ _ _ _ e1]; exact hl
  refine ⟨z, fun p hp => ?_⟩
  obtain ⟨y1, y2, y3⟩ := new_tup wd1.st r1 z hp
  exact h1 _ _ _ _ y1 (wd1.mono' y1 y2) y3
theorem x_lst (hl : es.length ≤ sizeLine) (hn : ∀ ρ S ds S', ml ρ S = .ok ds S' → ds.length = es.length) (he : XL X W es ml) : XE' X W (.List es pos) (fun ρ S => (ml ρ S).bind fun ds S => .ok (.lst ds) S) := by
  refine (pe_lst he).imp fun σ H Q ⟨bar, io, ρ, S, wd, h⟩ => ?_
  refine ⟨bar, io, ρ, S, wd, (Aft.bind (P := PReps X.K) h).imp fun x H1 ⟨bar1, io1, S1, d1, x1, wd1, r1, e1, h1⟩ => ?_⟩
  have z : x.length ≤ sizeLine := by rw [r1.length, hn _ _ _ _ e1]; exact hl
  refine ⟨z, fun p hp => ?_⟩
  obtain ⟨y1, y2, y3⟩ := new_lst wd1.st r1 z hp
  exact h1 _ _ _ _ y1 (wd1.mono' y1 y2) y3
theorem x_new (hl : es.length ≤ sizeLine) (hn : ∀ ρ S ds S', ml ρ S = .ok ds S' → ds.length = es.length) (he : XL X W es ml) : XE' X W (.List es pos) (fun ρ S => (ml ρ S).bind fun ds S => .ok (.adr S.length) (S ++ [.lst ds])) := by
  refine (pe_lst he).imp fun σ H Q ⟨bar, io, ρ, S, wd, h⟩ => ?_
  refine ⟨bar, io, ρ, S, wd, (Aft.bind (P := PReps X.K) h).imp fun x H1 ⟨bar1, io1, S1, d1, x1, wd1, r1, e1, h1⟩ => ?_⟩
  have z : x.length ≤ sizeLine := by rw [r1.length, hn _ _ _ _ e1]; exact hl
  refine ⟨z, fun p hp => ?_⟩
  obtain ⟨y1, y2, y3⟩ := new_cell wd1.st r1 z hp
  exact h1 _ _ _ _ y1 (wd1.mono' y1 y2) y3
theorem x_dic : XE' X W (.Dict [] [] pos) (evE .dic) := by
  refine pe_dnewK.imp fun σ H Q ⟨bar, io, ρ, S, wd, h⟩ p hp => ?_
  obtain ⟨y1, y2, y3⟩ := new_dic wd.st hp
  exact h _ _ _ _ y1 (wd.mono' y1 y2) y3

/-! ### and, or -/
section
variable {op : BoolOp} {rest : List Expr}
theorem and_aft {σ : St} {H : Hp} {Q : VK} (h : tE X.K X.mg (fun ρ S => (ma ρ S).bind fun d S => match truthy S d with
      | some true => mb ρ S
      | some false => .ok d S
      | none => .stuck) W σ H Q) : tAndT X.K (tE X.K X.mg ma W) (tE X.K X.mg mb W) σ H Q := by
  obtain ⟨bar, io, ρ, S, wd, h⟩ := h
  refine ⟨bar, io, ρ, S, wd, (Aft.bind (P := PRep X.K) h).imp fun x H1 ⟨bar1, io1, S1, d1, x1, wd1, r1, _, h1⟩ => ?_⟩
  split at h1
  · rename_i e
    exact ⟨true, tru_rep wd1.st r1 e, iteT ⟨bar1, io1, ρ, S1, wd1, h1⟩⟩
  · rename_i e
    exact ⟨false, tru_rep wd1.st r1 e, iteF (h1.now wd1 r1)⟩
  · exact h1.elim
theorem x_and (ha : XE' X W a ma) (hb : XE' X W (.BoolOp .And (b :: rest) pos) mb) : XE' X W (.BoolOp .And (a :: b :: rest) pos) (fun ρ S => (ma ρ S).bind fun d S => match truthy S d with
      | some true => mb ρ S
      | some false => .ok d S
      | none => .stuck) := (pe_andT ha hb).imp fun σ H Q h => and_aft h
theorem or_aft {σ : St} {H : Hp} {Q : VK} (h : tE X.K X.mg (fun ρ S => (ma ρ S).bind fun d S => match truthy S d with
      | some true => .ok d S
      | some false => mb ρ S
      | none => .stuck) W σ H Q) : tOrT X.K (tE X.K X.mg ma W) (tE X.K X.mg mb W) σ H Q := by
  obtain ⟨bar, io, ρ, S, wd, h⟩ := h
  refine ⟨bar, io, ρ, S, wd, (Aft.bind (P := PRep X.K) h).imp fun x H1 ⟨bar1, io1, S1, d1, x1, wd1, r1, _, h1⟩ => ?_⟩
  split at h1
  · rename_i e
    exact ⟨true, tru_rep wd1.st r1 e, iteT (h1.now wd1 r1)⟩
  · rename_i e
    exact ⟨false, tru_rep wd1.st r1 e, iteF ⟨bar1, io1, ρ, S1, wd1, h1⟩⟩
  · exact h1.elim
theorem x_or (ha : XE' X W a ma) (hb : XE' X W (.BoolOp .Or (b :: rest) pos) mb) : XE' X W (.BoolOp .Or (a :: b :: rest) pos) (fun ρ S => (ma ρ S).bind fun d S => match truthy S d with
      | some true => .ok d S
      | some false => mb ρ S
      | none => .stuck) := (pe_orT ha hb).imp fun σ H Q h => or_aft h
/-- as tests -/
theorem w_and (ha : XT X W a ma) (hb : XW X W (.BoolOp .And (b :: rest) pos) mb) : XW X W (.BoolOp .And (a :: b :: rest) pos) (fun ρ S => (ma ρ S).bind fun d S => match truthy S d with
      | some true => mb ρ S
      | some false => .ok d S
      | none => .stuck) := by
  refine (pw_and ha hb).imp fun σ H Q ⟨bar, io, ρ, S, wd, h⟩ => ⟨bar, io, ρ, S, wd, ?_⟩
  unfold tst at h ⊢
  dsimp only at h
  cases e : ma ρ S with
  | stuck => rw [e] at h; exact h
  | exc c S' => rw [e] at h; exact h
  | ok d S' =>
    rw [e] at h
    simp only [R.bind_ok] at h ⊢
    cases e2 : truthy S' d with
    | none => rw [e2] at h; exact h
    | some k =>
      rw [e2] at h
      intro k' H' bar' io' x w p
      subst p
      cases k' with
      | true => exact iteT ⟨bar', io', ρ, S', w, h.mono x⟩
      | false =>
        have h : Aft X.K X.mg PEq H bar io σ ρ W Q ((R.ok d S').bind fun d S => optR (truthy S d) S) := h
        simp only [R.bind_ok, e2] at h
        exact iteF (h false H' bar' io' x w rfl)
theorem w_or (ha : XT X W a ma) (hb : XW X W (.BoolOp .Or (b :: rest) pos) mb) : XW X W (.BoolOp .Or (a :: b :: rest) pos) (fun ρ S => (ma ρ S).bind fun d S => match truthy S d with
      | some true => .ok d S
      | some false => mb ρ S
      | none => .stuck) := by
  refine (pw_or ha hb).imp fun σ H Q ⟨bar, io, ρ, S, wd, h⟩ => ⟨bar, io, ρ, S, wd, ?_⟩
  unfold tst at h ⊢
  dsimp only at h
  cases e : ma ρ S with
  | stuck => rw [e] at h; exact h
  | exc c S' => rw [e] at h; exact h
  | ok d S' =>
    rw [e] at h
    simp only [R.bind_ok] at h ⊢
    cases e2 : truthy S' d with
    | none => rw [e2] at h; exact h
    | some k =>
      rw [e2] at h
      intro k' H' bar' io' x w p
      subst p
      cases k' with
      | false => exact iteF ⟨bar', io', ρ, S', w, h.mono x⟩
      | true =>
        have h : Aft X.K X.mg PEq H bar io σ ρ W Q ((R.ok d S').bind fun d S => optR (truthy S d) S) := h
        simp only [R.bind_ok, e2] at h
        exact iteT (h true H' bar' io' x w rfl)
end

/-! ### slices -/
abbrev XO (X : Cx) (W : WX) (e : Option Expr) (m : Env → Store → R (Option Int)) : Prop := PO X e (tQ X.K X.mg m W)
theorem o_none : XO X W none (evO .none) := po_none.imp fun σ H Q ⟨bar, io, ρ, S, wd, h⟩ => Aft.now (b := none) h wd rfl
theorem o_some (ha : XE' X W a ma) : XO X W (some a) (fun ρ S => (ma ρ S).bind fun d S => match d with
    | .int i => .ok (some i) S
    | _ => .stuck) := by
  refine (po_some ha).imp fun σ H Q ⟨bar, io, ρ, S, wd, h⟩ => ?_
  refine ⟨bar, io, ρ, S, wd, (Aft.bind (P := PRep X.K) h).imp fun x H1 ⟨bar1, io1, S1, d1, x1, wd1, r1, _, h1⟩ => ?_⟩
  split at h1
  · cases r1
    exact ⟨_, rfl, Aft.now (b := some _) h1 wd1 rfl⟩
  · exact h1.elim
theorem x_sl {lo hi : Option Expr} {ml mh : Env → Store → R (Option Int)} {p2 : Pos} (ha : XE' X W a ma) (hl : XO X W lo ml) (hh : XO X W hi mh) :
    XE' X W (.Subscript a (.Slice lo hi none p2) pos) (fun ρ S => (ma ρ S).bind fun x S => (ml ρ S).bind fun l S => (mh ρ S).bind fun h S => slV S x l h) := by
  refine (pe_slice sl_any ha hl hh).imp fun σ H Q ⟨bar, io, ρ, S, wd, h⟩ => ?_
  refine ⟨bar, io, ρ, S, wd, (Aft.bind (P := PRep X.K) h).imp fun x H1 ⟨bar1, io1, S1, d1, x1, wd1, r1, _, h1⟩ => ?_⟩
  refine ⟨bar1, io1, ρ, S1, wd1, (Aft.bind (P := PEq) h1).imp fun y H2 ⟨bar2, io2, S2, d2, x2, wd2, r2, _, h2⟩ => ?_⟩
  subst r2
  refine ⟨bar2, io2, ρ, S2, wd2, (Aft.bind (P := PEq) h2).imp fun z H3 ⟨bar3, io3, S3, d3, x3, wd3, r3, _, h3⟩ => ?_⟩
  subst r3
  obtain ⟨d, S', e, q⟩ := h3.op (slV_noX _ _ _ _)
  exact ⟨bar3, io3, S3, d1, d, S', wd3.st, (r1.mono x2 wd1.st.live).mono x3 wd2.st.live, e, fun v H' bar' io' x st r => q v H' bar' io' x (wd3.mono' x st) r⟩
theorem tupW_rep {K : PySem.W.Frag} {H : Hp} {bar io : List Addr} {x : V} {d : D} {xs : List D} (r : Rep K H bar io x d) (h : tupW d = some xs) : ∃ a vs, x = .ref a ∧ SqT K H a vs ∧ vs.length ≤ sizeLine ∧ Reps K H bar io vs xs := by
  cases d with
  | tup ys => cases h; exact tup_rep r
  | kup ys => cases h; exact kup_rep r
  | _ => cases h
theorem x_rev {k : Nat} {p1 p2 p3 : Pos} (ha : XE' X W a ma) : XE' X W (.Subscript a (.Slice none none (some (.UnaryOp .USub (.Constant (.int 1) k p1) p2)) p3) pos) (fun ρ S => (ma ρ S).bind fun x S => backV S x) := by
  refine (pe_back ha).imp fun σ H Q ⟨bar, io, ρ, S, wd, h⟩ => ?_
  refine ⟨bar, io, ρ, S, wd, (Aft.bind (P := PRep X.K) h).imp fun x H1 ⟨bar1, io1, S1, d1, x1, wd1, r1, _, h1⟩ => ?_⟩
  unfold backV at h1
  cases ht : tupW d1 with
  | some xs =>
    rw [ht] at h1
    obtain ⟨p, vs, rfl, hs, z, q⟩ := tupW_rep r1 ht
    refine ⟨p, vs, rfl, .inr ⟨hs, fun p hp => ?_⟩⟩
    obtain ⟨y1, y2, y3⟩ := new_tup wd1.st q.reverse (by rw [List.length_reverse]; exact z) hp
    exact h1 _ _ _ _ y1 (wd1.mono' y1 y2) y3
  | none =>
    rw [ht] at h1
    dsimp only at h1
    split at h1
    · rename_i xs hx
      obtain ⟨p, vs, rfl, hs, z, q⟩ := asLst_rep wd1.st r1 hx
      refine ⟨p, vs, rfl, .inl ⟨hs, fun p hp => ?_⟩⟩
      obtain ⟨y1, y2, y3⟩ := new_lst wd1.st q.reverse (by rw [List.length_reverse]; exact z) hp
      exact h1 _ _ _ _ y1 (wd1.mono' y1 y2) y3
    · exact h1.elim
end
end PX

/-! PX9: calls of defs, of built-ins, of methods; isinstance. -/
namespace PX
open PySem L2
/-- what a def promises -/
def spFn (K : PySem.W.Frag) (mg : Str → Option Value) (f : FnI) : Sp := fun vs H Q E => vs.length = f.ps.length ∧ ∃ bar io S ds, StRep K H bar io S ∧ Reps K H bar io vs ds ∧ match f.sem S ds with
  | .ok d S' => ∀ v H' bar' io', Ext H bar io H' bar' io' → StRep K H' bar' io' S' → Rep K H' bar' io' v d → Q v H'
  | .exc c S' => ∀ H' bar' io' C, Ext H bar io H' bar' io' → StRep K H' bar' io' S' → mg c = some (.ref C) → E (.ref C) none H'
  | .stuck => False
/-- the values in the parameters' order -/
def argG {α : Type} (z : α) (ps ks : List Str) (us ws : List α) : List α := us ++ (ps.drop us.length).map fun p => ((ks.zip ws).lookup p).getD z
structure FnGood (P : Program) (w : World) (K : PySem.W.Frag) (mg : Str → Option Value) (base : Heap) (lvl : Nat) (f : FnI) : Prop where
  ex : ∃ (a : Addr) (fd : FuncData), FnOk P w K mg base (L2.CX P w) lvl a fd f.ps (spFn K mg f) ∧ mg f.name = some (.ref a) ∧ PySem.W.keepIn K (.ref a) = true ∧ Binds K fd f.ps [] ∧
    ∀ q ∈ f.kps, ∀ (s : Shared) (us ws : List Value), us.length = q.1 → ws.length = q.2.length → BindsTo s fd ⟨us, q.2.zip ws⟩ (f.ps.zip (argG Value.none f.ps q.2 us ws))
theorem FnGood.mono {P : Program} {w : World} {K : PySem.W.Frag} {mg : Str → Option Value} {base : Heap} {j k : Nat} {f : FnI} (h : FnGood P w K mg base j f) (l : j ≤ k) : FnGood P w K mg base k f := by
  obtain ⟨a, fd, h1, h2⟩ := h.ex
  exact ⟨a, fd, h1.mono l, h2⟩
section
variable {K : PySem.W.Frag} {mg : Str → Option Value} {H : Hp} {bar io : List Addr} {σ : St} {ρ : Env} {W : WX} {S : Store}
/-- back from a call that had a store of its own -/
theorem Ext.own {H' : Hp} {bar' io' : List Addr} {S' : Store} (st : StRep K H bar io S) (x : Ext H bar [] H' bar' io') (st' : StRep K H' bar' io' S') : Ext H bar io H' bar' io ∧ StRep K H' bar' io S := by
  have x1 : Ext H bar io H' bar' io := ⟨⟨[], by simp, by simp⟩, x.bo, x.bi, fun a o h _ => x.ke a o h (by simp), x.al⟩
  refine ⟨x1, st.mono x1 (fun a ha => ?_) st'.bal⟩
  have hm := st.live.1 a ha
  cases e : H a with
  | none => rw [e] at hm; exact hm.elim
  | some o => exact x.ke a o e (by simp)
theorem call_aft {sh : Bool} {f : FnI} {vs : List V} {ds : List D} {Q : VK} (wd : Wd K H bar io σ ρ S) (r : Reps K H bar io vs ds) (h : Aft K mg (PRep K) H bar io σ ρ W Q (callV sh f ds S)) : spFn K mg f vs H Q (WE W σ) := by
  unfold callV at h
  cases hl : decide (ds.length = f.ps.length) with
  | false => rw [hl] at h; exact h.elim
  | true =>
    rw [hl] at h
    rw [guardR_true] at h
    have hl := of_decide_eq_true hl
    refine ⟨r.length.trans hl, ?_⟩
    cases sh with
    | true =>
      refine ⟨bar, io, S, ds, wd.st, r, ?_⟩
      have h : Aft K mg (PRep K) H bar io σ ρ W Q (f.sem S ds) := h
      cases e : f.sem S ds with
      | ok d S' => rw [e] at h; exact fun v H' bar' io' x st q => h v H' bar' io' x (wd.mono' x st) q
      | exc c S' => rw [e] at h; exact fun H' bar' io' C x st q => h H' bar' io' C x (wd.mono' x st) q
      | stuck => rw [e] at h; exact h
    | false =>
      have h : Aft K mg (PRep K) H bar io σ ρ W Q (guardR (D.frees ds) (match f.sem [] ds with
        | .ok d _ => guardR (D.free d) (.ok d S)
        | .exc c _ => .exc c S
        | .stuck => .stuck)) := h
      cases hf : D.frees ds with
      | false => rw [hf] at h; exact h.elim
      | true =>
        rw [hf, guardR_true] at h
        refine ⟨bar, [], [], ds, ⟨rfl, List.nodup_nil, by simp, wd.st.bal, by simp⟩, r.of_frees hf, ?_⟩
        cases e : f.sem [] ds with
        | ok d S' =>
          rw [e] at h
          have h : Aft K mg (PRep K) H bar io σ ρ W Q (guardR (D.free d) (.ok d S)) := h
          cases hd : D.free d with
          | false => rw [hd] at h; exact h.elim
          | true =>
            rw [hd, guardR_true] at h
            intro v H' bar' io' x st q
            obtain ⟨x1, st1⟩ := Ext.own wd.st x st
            exact h v H' bar' io x1 (wd.mono' x1 st1) (q.of_free hd)
        | exc c S' =>
          rw [e] at h
          intro H' bar' io' C x st q
          obtain ⟨x1, st1⟩ := Ext.own wd.st x st
          exact h H' bar' io C x1 (wd.mono' x1 st1) q
        | stuck => rw [e] at h; exact h
theorem look_rep {ks : List Str} (p : Str) : ∀ {vs : List V} {ds : List D}, Reps K H bar io vs ds → Rep K H bar io (((ks.zip vs).lookup p).getD .non) (((ks.zip ds).lookup p).getD .non) := by
  induction ks with
  | nil => intro vs ds _; exact .non
  | cons k ks ih =>
    intro vs ds r
    cases r with
    | nil => exact .non
    | cons q t =>
      rw [List.zip_cons_cons, List.zip_cons_cons, List.lookup_cons, List.lookup_cons]
      cases p == k with
      | true => exact q
      | false => exact ih t
theorem argG_rep {ps ks : List Str} {vs zs : List V} {ds es : List D} (r : Reps K H bar io vs ds) (q : Reps K H bar io zs es) : Reps K H bar io (argG V.non ps ks vs zs) (argG D.non ps ks ds es) := by
  unfold argG
  refine r.append ?_
  rw [r.length]
  generalize ps.drop ds.length = l
  induction l with
  | nil => exact .nil
  | cons p l ih => exact .cons (look_rep p q) ih
theorem look_val {ks : List Str} (p : Str) : ∀ {vs : List V} {us : List Value}, Vals vs us → L2.RelV (((ks.zip vs).lookup p).getD .non) (((ks.zip us).lookup p).getD .none) := by
  induction ks with
  | nil => intro vs ds _; exact rfl
  | cons k ks ih =>
    intro vs ds r
    cases r with
    | nil => exact rfl
    | cons q t =>
      rw [List.zip_cons_cons, List.zip_cons_cons, List.lookup_cons, List.lookup_cons]
      cases p == k with
      | true => exact q
      | false => exact ih t
theorem argG_val {ps ks : List Str} {vs zs : List V} {us ws : List Value} (r : Vals vs us) (q : Vals zs ws) : Vals (argG V.non ps ks vs zs) (argG Value.none ps ks us ws) := by
  unfold argG
  refine r.append ?_
  rw [r.length]
  generalize ps.drop us.length = l
  induction l with
  | nil => exact .nil
  | cons p l ih => exact .cons (look_val p q) ih
end
section
variable {X : Cx} {W : WX} {a b c e : Expr} {es : List Expr} {ma mb mc : Env → Store → R D} {ml mk : Env → Store → R (List D)} {pos : Pos}
/-- f(e, ..) -/
theorem x_call {lvl : Nat} {sh : Bool} {f : FnI} {p : Pos} (tk : Takes X W) (F : FnGood X.prog X.w X.K X.mg X.base lvl f) (hr : Room lvl X.A) (hg : Gl X f.name) (hdb : (f.name == ("__debug__" : Str)) = false) (ha : XL X W (e :: es) ml)
    (he : starEach (e :: es) X.env = (false, eval e X.env) :: starEach es X.env) (hpl : (backTo pos (starEach es X.env)).any (·.1) = false) :
    XE' X W (.Call (.Name f.name p) (e :: es) [] pos) (fun ρ S => (ml ρ S).bind fun ds S => callV sh f ds S) := by
  obtain ⟨a, fd, F1, F2, F3, F4, _⟩ := F.ex
  refine (pe_callS (E := WE W) F1 hr hg F2 F3 F4 (fun σ => passAt tk σ) ha hdb he hpl).imp fun σ H Q ⟨bar, io, ρ, S, wd, h⟩ => ?_
  exact ⟨bar, io, ρ, S, wd, (Aft.bind (P := PReps X.K) h).imp fun x H1 ⟨bar1, io1, S1, d1, x1, wd1, r1, _, h1⟩ => call_aft wd1 r1 h1⟩
/-- the values of keywords -/
abbrev XK' (X : Cx) (W : WX) (kws : List Keyword) (m : Env → Store → R (List D)) : Prop := PK X kws (tL X.K X.mg m W)
theorem _root_.L2.PK.imp {X : Cx} {kws : List Keyword} {t t' : TA} (h : PK X kws t) (f : ∀ σ H Q, t' σ H Q → t σ H Q) : PK X kws t' := ⟨fun pos pins s σ H Q I q => h.run pos pins s σ H Q I (f σ H Q q)⟩
theorem k_nil : XK' X W [] (evL .nil) := pk_nil.imp fun σ H Q ⟨bar, io, ρ, S, wd, h⟩ => Aft.now (b := ([] : List V)) h wd .nil
theorem k_cons {kws : List Keyword} {nm : Option Str} {kpos : Pos} (ha : XE' X W a ma) (hr : XK' X W kws ml) : XK' X W (⟨nm, a, kpos⟩ :: kws) (fun ρ S => (ma ρ S).bind fun d S => (ml ρ S).bind fun ds S => .ok (d :: ds) S) := by
  refine (pk_cons ha hr).imp fun σ H Q ⟨bar, io, ρ, S, wd, h⟩ => ?_
  refine ⟨bar, io, ρ, S, wd, (Aft.bind (P := PRep X.K) h).imp fun x H1 ⟨bar1, io1, S1, d1, x1, wd1, r1, _, h1⟩ => ?_⟩
  refine ⟨bar1, io1, ρ, S1, wd1, (Aft.bind (P := PReps X.K) h1).imp fun y H2 ⟨bar2, io2, S2, d2, x2, wd2, r2, _, h2⟩ => ?_⟩
  exact Aft.now (b := x :: y) h2 wd2 (.cons (r1.mono x2 wd1.st.live) r2)
def tCallW (n m : Nat) (sp : Sp) (gV : List V → List V → List V) (E : St → XK) (t tk : TA) : TE := fun σ H Q => t σ H fun vs H1 => tk σ H1 fun zs H2 => vs.length = n ∧ zs.length = m ∧ sp (gV vs zs) H2 Q (E σ)
theorem run_kw {CX : CXT} {k n : Nat} {f : Addr} {fd : FuncData} {ps ks : List Str} {sp : Sp} {E : St → XK} {pins : List (Addr × Obj)} {σ : St} {H : Hp} {s : Shared} {Q : VK} {us ws : List Value} {vs zs : List V} {g : List Value → List Value → List Value} {gV : List V → List V → List V}
    (F : FnOk X.prog X.w X.K X.mg X.base CX k f fd ps sp) (hr : Room k X.A) (hb : ∀ (s : Shared) (us ws : List Value), us.length = n → ws.length = ks.length → BindsTo s fd ⟨us, ks.zip ws⟩ (ps.zip (g us ws))) (hv : Vals (gV vs zs) (g us ws)) (hx : PassesAt CX X σ (E σ))
    (I : L2.Inv X pins σ H s) (r : Vals vs us) (rz : Vals zs ws) (l1 : vs.length = n) (l2 : zs.length = ks.length) (h : sp (gV vs zs) H Q (E σ)) : wpAny (model X.prog X.w) X.A (call (.ref f) us (ks.zip ws)) (EP X pins σ Q) X.xe s := by
  refine wpAny_call (codeAny_mono (F.run X.A X.stack s H ⟨us, ks.zip ws⟩ (g us ws) (gV vs zs) Q (E σ) hr I.env0 (hb s us ws (r.length.symm.trans l1) (rz.length.symm.trans l2)) hv h) fun q s' hq => ?_)
  cases q with
  | error e => exact hx pins H s e s' I hq
  | ok fl =>
    cases fl with
    | ret u => exact I.after hq
    | next => exact False.elim hq
    | brk => exact False.elim hq
    | cont => exact False.elim hq
theorem callk_aft {sh : Bool} {f : FnI} {n : Nat} {ks : List Str} {σ : St} {H : Hp} {Q : VK} (hn : ∀ ρ S ds S', ml ρ S = .ok ds S' → ds.length = n) (hm : ∀ ρ S ds S', mk ρ S = .ok ds S' → ds.length = ks.length)
    (h : tE X.K X.mg (fun ρ S => (ml ρ S).bind fun us S => (mk ρ S).bind fun ws S => callV sh f (argK f.ps ks us ws) S) W σ H Q) :
    tCallW n ks.length (spFn X.K X.mg f) (argG V.non f.ps ks) (WE W) (tL X.K X.mg ml W) (tL X.K X.mg mk W) σ H Q := by
  obtain ⟨bar, io, ρ, S, wd, h⟩ := h
  refine ⟨bar, io, ρ, S, wd, (Aft.bind (P := PReps X.K) h).imp fun x H1 ⟨bar1, io1, S1, d1, x1, wd1, r1, e1, h1⟩ => ?_⟩
  refine ⟨bar1, io1, ρ, S1, wd1, (Aft.bind (P := PReps X.K) h1).imp fun y H2 ⟨bar2, io2, S2, d2, x2, wd2, r2, e2, h2⟩ => ?_⟩
  exact ⟨by rw [r1.length]; exact hn _ _ _ _ e1, by rw [r2.length]; exact hm _ _ _ _ e2, call_aft wd2 (argG_rep (r1.mono x2 wd1.st.live) r2) h2⟩
/-- f(e, .., k = v, ..) -/
theorem x_callk {lvl n : Nat} {sh : Bool} {f : FnI} {p : Pos} {ks : List Str} {kws : List Keyword} (tk : Takes X W) (F : FnGood X.prog X.w X.K X.mg X.base lvl f) (hr : Room lvl X.A) (hg : Gl X f.name) (hdb : (f.name == ("__debug__" : Str)) = false) (hq : (n, ks) ∈ f.kps)
    (ha : XL X W (e :: es) ml) (hk : XK' X W kws mk) (hn : ∀ ρ S ds S', ml ρ S = .ok ds S' → ds.length = n) (hm : ∀ ρ S ds S', mk ρ S = .ok ds S' → ds.length = ks.length)
    (hall : (backToKw pos (keywordEach kws X.env)).all (·.1.isSome) = true) (hks : (backToKw pos (keywordEach kws X.env)).filterMap (·.1) = ks)
    (he : starEach (e :: es) X.env = (false, eval e X.env) :: starEach es X.env)
    (hpl : ((backTo pos (starEach (e :: es) X.env)).any (·.1) || (backToKw pos (keywordEach kws X.env)).any (·.1.isNone)) = false) :
    XE' X W (.Call (.Name f.name p) (e :: es) kws pos) (fun ρ S => (ml ρ S).bind fun us S => (mk ρ S).bind fun ws S => callV sh f (argK f.ps ks us ws) S) := by
  obtain ⟨a, fd, F1, F2, F3, F4, F5⟩ := F.ex
  refine PE.imp (t := tCallW n ks.length (spFn X.K X.mg f) (argG V.non f.ps ks) (WE W) (tL X.K X.mg ml W) (tL X.K X.mg mk W)) ⟨fun pins s σ H Q I h => ?_⟩ fun σ H Q h => callk_aft hn hm h
  refine wpAny_Call_Name_kw (ld_glob I hg F2 ?_ hdb)
  refine PySem.W.callWith_KW (h₀ := X.base) I.ok.mod.kin F3 hall (thn (ha.run pos pins s σ H _ I h) fun us s1 ⟨vs, H1, I1, r, q⟩ => ?_) hpl he
  refine thn (hk.run pos pins s1 σ H1 _ I1 q) fun ws s2 ⟨zs, H2, I2, rz, l1, l2, q2⟩ => ⟨I2.kIn, ?_⟩
  rw [hks]
  exact run_kw (g := argG Value.none f.ps ks) F1 hr (fun s us ws => F5 (n, ks) hq s us ws) (argG_val r rz) (passAt tk σ) I2 r rz l1 l2 q2
/-- f(k = v, ..) -/
theorem x_callk0 {lvl : Nat} {sh : Bool} {f : FnI} {p : Pos} {ks : List Str} {kws : List Keyword} (tk : Takes X W) (F : FnGood X.prog X.w X.K X.mg X.base lvl f) (hr : Room lvl X.A) (hg : Gl X f.name) (hdb : (f.name == ("__debug__" : Str)) = false) (hq : (0, ks) ∈ f.kps)
    (hk : XK' X W kws mk) (hm : ∀ ρ S ds S', mk ρ S = .ok ds S' → ds.length = ks.length)
    (hall : (backToKw pos (keywordEach kws X.env)).all (·.1.isSome) = true) (hks : (backToKw pos (keywordEach kws X.env)).filterMap (·.1) = ks)
    (hpl : ((backTo pos (starEach [] X.env)).any (·.1) || (backToKw pos (keywordEach kws X.env)).any (·.1.isNone)) = false) :
    XE' X W (.Call (.Name f.name p) [] kws pos) (fun ρ S => (evL .nil ρ S).bind fun us S => (mk ρ S).bind fun ws S => callV sh f (argK f.ps ks us ws) S) := by
  obtain ⟨a, fd, F1, F2, F3, F4, F5⟩ := F.ex
  refine PE.imp (t := fun σ H Q => tL X.K X.mg mk W σ H fun zs H2 => zs.length = ks.length ∧ spFn X.K X.mg f (argG V.non f.ps ks [] zs) H2 Q (WE W σ)) ⟨fun pins s σ H Q I h => ?_⟩ fun σ H Q ⟨bar, io, ρ, S, wd, h⟩ => ?_
  · refine wpAny_Call_Name_kw (ld_glob I hg F2 ?_ hdb)
    refine PySem.W.callWith_KW0 (h₀ := X.base) I.ok.mod.kin F3 hall ?_ hpl
    refine thn (hk.run pos pins s σ H _ I h) fun ws s2 ⟨zs, H2, I2, rz, l2, q2⟩ => ⟨I2.kIn, ?_⟩
    rw [hks]
    exact run_kw (us := []) (vs := []) (n := 0) (g := argG Value.none f.ps ks) F1 hr (fun s us ws => F5 (0, ks) hq s us ws) (argG_val .nil rz) (passAt tk σ) I2 .nil rz rfl l2 q2
  · have h : Aft X.K X.mg (PRep X.K) H bar io σ ρ W Q ((mk ρ S).bind fun ws S => callV sh f (argK f.ps ks [] ws) S) := h
    refine ⟨bar, io, ρ, S, wd, (Aft.bind (P := PReps X.K) h).imp fun y H2 ⟨bar2, io2, S2, d2, x2, wd2, r2, e2, h2⟩ => ?_⟩
    exact ⟨by rw [r2.length]; exact hm _ _ _ _ e2, call_aft wd2 (argG_rep .nil r2) h2⟩

/-! ### built-ins -/
theorem x_biB {f : BF} {x : Str} {id : String} {p : Pos} (hc : X.calm = true) (hf : bfV f = .builtin id) (hg : Gl X x) (hm : X.mg x = none) (hv : bootBuiltins x = some (.builtin id)) (hn : x ≠ "__name__") (hdb : (x == ("__debug__" : Str)) = false)
    (ha : XL X W (e :: es) ml) (he : starEach (e :: es) X.env = (false, eval e X.env) :: starEach es X.env) (hpl : (backTo pos (starEach es X.env)).any (·.1) = false) :
    XE' X W (.Call (.Name x p) (e :: es) [] pos) (fun ρ S => (ml ρ S).bind fun ds S => biV f S ds) := by
  have hcr : CallR X (.builtin id) (rBi X.K f) := by rw [← hf]; exact call_bi hc f
  refine (pe_callB hcr hg hm hv ha hn hdb he hpl).imp fun σ H Q ⟨bar, io, ρ, S, wd, h⟩ => ?_
  refine ⟨bar, io, ρ, S, wd, (Aft.bind (P := PReps X.K) h).imp fun x H1 ⟨bar1, io1, S1, d1, x1, wd1, r1, _, h1⟩ => ?_⟩
  obtain ⟨d, S', e, q⟩ := h1.op (biV_noX _ _ _)
  exact ⟨bar1, io1, S1, d1, d, S', wd1.st, r1, e, fun v H' bar' io' x st r => q v H' bar' io' x (wd1.mono' x st) r⟩
theorem x_biT {f : BF} {x : Str} {T : String} {p : Pos} (hc : X.calm = true) (hf : bfV f = .type T) (hg : Gl X x) (hm : X.mg x = none) (hv : bootBuiltins x = some (.type T)) (hn : x ≠ "__name__") (hdb : (x == ("__debug__" : Str)) = false)
    (ha : XL X W (e :: es) ml) (he : starEach (e :: es) X.env = (false, eval e X.env) :: starEach es X.env) (hpl : (backTo pos (starEach es X.env)).any (·.1) = false) :
    XE' X W (.Call (.Name x p) (e :: es) [] pos) (fun ρ S => (ml ρ S).bind fun ds S => biV f S ds) := by
  have hcr : CallR X (.type T) (rBi X.K f) := by rw [← hf]; exact call_bi hc f
  refine (pe_callTy hcr hg hm hv ha hn hdb he hpl).imp fun σ H Q ⟨bar, io, ρ, S, wd, h⟩ => ?_
  refine ⟨bar, io, ρ, S, wd, (Aft.bind (P := PReps X.K) h).imp fun x H1 ⟨bar1, io1, S1, d1, x1, wd1, r1, _, h1⟩ => ?_⟩
  obtain ⟨d, S', e, q⟩ := h1.op (biV_noX _ _ _)
  exact ⟨bar1, io1, S1, d1, d, S', wd1.st, r1, e, fun v H' bar' io' x st r => q v H' bar' io' x (wd1.mono' x st) r⟩
/-! ### isinstance -/
def TY.name : TY → String
  | .int => "int" | .bool => "bool" | .str => "str" | .tuple => "tuple" | .list => "list" | .dict => "dict"
theorem kit_all : ∀ s t : TY, kitB s.name t.name = some (decide (s = t) || (decide (s = .bool) && decide (t = .int))) := by
  intro s t
  cases s <;> cases t <;> decide +kernel
theorem kit_non : ∀ t : TY, kitB "NoneType" t.name = some false := by
  intro t
  cases t <;> decide +kernel
theorem ty_rep {K : PySem.W.Frag} {H : Hp} {bar io : List Addr} {S : Store} {x : V} {d : D} {s : TY} (st : StRep K H bar io S) (r : Rep K H bar io x d) (h : tyOf S d = some s) : TyX K H x (.type s.name) := by
  cases r with
  | non => cases h
  | bl b => cases h; exact .base (.bl b)
  | int i => cases h; exact .base (.int i)
  | str z _ _ => cases h; exact .base (.str z)
  | tup hh z q => cases h; exact .base (.tup hh)
  | lst hh b z q => cases h; exact .base (.lst hh)
  | scr hh z q => cases h; exact .base (.frz hh)
  | scrK a b dd c e v q => cases h; exact .kList a b
  | kup a b c e v q => cases h; exact .kTuple a b
  | @adr a n e =>
    have h : (match S[n]? with | some (.lst _) => some TY.list | some (.dic _) => some TY.dict | none => none) = some s := h
    cases hc : S[n]? with
    | none => rw [hc] at h; cases h
    | some c =>
      rw [hc] at h
      obtain ⟨a', o, e1, e2, q⟩ := st.cell n _ hc
      rw [e] at e1; cases e1
      cases q with
      | lst z q => cases h; exact .base (.lst e2)
      | dic z q => cases h; exact .base (.dK e2)
theorem x_isi {t : TY} {x : Str} {p p2 : Pos} (hg : Gl X "isinstance") (hm : X.mg "isinstance" = none) (hg2 : Gl X x) (hm2 : X.mg x = none) (hv2 : bootBuiltins x = some (.type t.name)) (hn2 : x ≠ "__name__") (hdb2 : (x == ("__debug__" : Str)) = false)
    (ha : XE' X W a ma) (he : starEach [a, .Name x p2] X.env = [(false, eval a X.env), (false, eval (.Name x p2) X.env)]) :
    XE' X W (.Call (.Name "isinstance" p) [a, .Name x p2] [] pos) (fun ρ S => (ma ρ S).bind fun x S => isiV S x t) := by
  have hT : PE X (.Name x p2) (tC (.ty t.name)) := pe_bltn (v := .ty t.name) hg2 hm2 hv2 rfl hn2 hdb2
  have hA : PA X [a, .Name x p2] (tCons (tE X.K X.mg ma W) (tCons (tC (.ty t.name)) tNil)) := pa_cons ha (pa_cons hT pa_nil rfl) (by rw [he]; rfl)
  refine (pe_callB call_isi hg hm (by decide +kernel) hA (by decide) (by decide) (by rw [he]; rfl) rfl).imp fun σ H Q ⟨bar, io, ρ, S, wd, h⟩ => ?_
  refine ⟨bar, io, ρ, S, wd, (Aft.bind (P := PRep X.K) h).imp fun y H1 ⟨bar1, io1, S1, d1, x1, wd1, r1, _, h1⟩ => ?_⟩
  have fin : ∀ {v : V} {s : Value} {b : Bool}, TyX X.K H1 v s → PySem.W.kitOne X.K s (.type t.name) = some b → Q (.bl b) H1 → rIsi X.K [v, .ty t.name] H1 Q := fun {v s b} hx hk q => ⟨v, .ty t.name, s, .type t.name, b, rfl, .ty _, hx, hk, q⟩
  unfold isiV at h1
  split at h1
  · cases r1
    exact fin (.base .non) (kit_ty (kit_non t)) (h1.now wd1 (.bl _))
  · split at h1
    · rename_i s hs
      exact fin (ty_rep wd1.st r1 hs) (kit_ty (kit_all s t)) (h1.now wd1 (.bl _))
    · exact h1.elim
/-! ### methods -/
theorem x_meth0 {m : ME} {apos cpos : Pos} (hu : X.A.units + 1 < cLine) (ha : XE' X W a ma) (hbase : attributeBase a m.name X.env (eval a X.env) = eval a X.env) (hline : (apos.endLine == cpos.line) = true) :
    XE' X W (.Call (.Attribute a m.name apos) [] [] cpos) (fun ρ S => (ma ρ S).bind fun x S => guardR (mkind m S x) ((evL .nil ρ S).bind fun ds S => methV m S x ds)) := by
  refine (pe_bm0 m.plain m.slot m.type (mt_me hu m) ha hbase hline).imp fun σ H Q ⟨bar, io, ρ, S, wd, h⟩ => ?_
  refine ⟨bar, io, ρ, S, wd, (Aft.bind (P := PRep X.K) h).imp fun x H1 ⟨bar1, io1, S1, d1, x1, wd1, r1, _, h1⟩ => ?_⟩
  cases hk : mkind m S1 d1 with
  | false => rw [hk] at h1; exact h1.elim
  | true =>
    rw [hk, guardR_true] at h1
    obtain ⟨d, S', e, q⟩ := Aft.op (P := PRep X.K) (r := methV m S1 d1 []) h1 (methV_noX _ _ _ _)
    exact ⟨kind_rep wd1.st r1 hk, bar1, io1, S1, d1, [], d, S', wd1.st, r1, .nil, e, fun v H' bar' io' x st r => q v H' bar' io' x (wd1.mono' x st) r⟩
theorem x_meth {m : ME} {apos cpos : Pos} (hu : X.A.units + 1 < cLine) (ha : XE' X W a ma) (hl : XL X W (e :: es) ml) (hbase : attributeBase a m.name X.env (eval a X.env) = eval a X.env)
    (hfew : ((backTo cpos (starEach (e :: es) X.env)).all (fun x => !x.1) && (backToKw cpos (keywordEach [] X.env)).all (fun x => x.1.isSome)
      && decide ((e :: es).length + ([] : List Keyword).length + (if ([] : List Keyword).isEmpty then 0 else 1) < 30)) = true) (hline : (apos.endLine == cpos.line) = true)
    (hs : starEach (e :: es) X.env = (false, eval e X.env) :: starEach es X.env) (hplain : (backTo cpos (starEach es X.env)).any (·.1) = false) :
    XE' X W (.Call (.Attribute a m.name apos) (e :: es) [] cpos) (fun ρ S => (ma ρ S).bind fun x S => guardR (mkind m S x) ((ml ρ S).bind fun ds S => methV m S x ds)) := by
  refine (pe_bm m.plain m.slot m.type (mt_me hu m) ha hl hbase hfew hline hs hplain).imp fun σ H Q ⟨bar, io, ρ, S, wd, h⟩ => ?_
  refine ⟨bar, io, ρ, S, wd, (Aft.bind (P := PRep X.K) h).imp fun x H1 ⟨bar1, io1, S1, d1, x1, wd1, r1, _, h1⟩ => ?_⟩
  cases hk : mkind m S1 d1 with
  | false => rw [hk] at h1; exact h1.elim
  | true =>
    rw [hk, guardR_true] at h1
    refine ⟨kind_rep wd1.st r1 hk, bar1, io1, ρ, S1, wd1, (Aft.bind (P := PReps X.K) h1).imp fun y H2 ⟨bar2, io2, S2, d2, x2, wd2, r2, _, h2⟩ => ?_⟩
    obtain ⟨d, S', e, q⟩ := h2.op (methV_noX _ _ _ _)
    exact ⟨bar2, io2, S2, d1, d2, d, S', wd2.st, r1.mono x2 wd1.st.live, r2, e, fun v H' bar' io' x st r => q v H' bar' io' x (wd2.mono' x st) r⟩
end
end PX

/-! PXS: sorted(set(xs)), xs a list of ints. -/
namespace PX
open PySem PySem.Spec PyProof.Rows L2
section
variable {P : Program} {w : World} {A : Around} {E : Value → Shared → Prop} {s : Shared}
/-- the object of a set that is new -/
abbrev freshS (w : World) : Obj := { cls := .type "set", dict := none, data := .set #[] 0 (.fresh 0 0 (!w.params.followText "set-order")) }
set_option maxRecDepth 100000 in
theorem set_of_list {l : Addr} {its : Array Value} (ns : List Int) {Q : Value → Shared → Prop} (hA : A.handled = none) (hl : s.heap.IsList l its) (hi : IntsAre its.toList ns) (hb : ns.length + 1 < scanBound)
    (fin : ∀ (g : Heap) (tk c : Nat), SetR w g s.heap.objs.size (fun j => decide (j ∈ ns)) c → c ≤ ns.length → (∀ b o, s.heap.get? b = some o → g.get? b = some o) → Q (.ref s.heap.objs.size) { s with heap := g, toks := tk }) :
    wpAny (model P w) A (call (.type "set") [.ref l]) Q E s := by
  have sz : its.size = ns.length := by rw [← Array.length_toList]; exact IntsAre.length hi
  obtain ⟨k0, k1, k2⟩ := F.called_set.mro
  have f1 := F.called_set.made; have f2 := F.called_set.sub; have f3 := F.called_set.notType
  have f4 := F.called_set.canCreate; have f5 := F.typeCall_set_1 (.ref l)
  refine wpAny_call (codeAny_of_tree (show wpAny _ _ (callAny (.type "set") _) _ _ _ from ?_))
  refine wpAny_pure ⟨Code.quiet_builtin _ (by decide +kernel), codeAny_builtin F.entry_type_call ?_⟩
  rw [Around.under_plain (weight_type_call_type "set" [.ref l] []) rfl]
  repeat (any_goals (first | assumption | wp_step))
  let N : Addr := s.heap.objs.size
  let h1 : Heap := s.heap.push (freshS w)
  refine codeAny_mono (code_set_led1 (.ref l) (E := E) (Q₁ := fun x t => x = .ref N ∧ t = { s with heap := h1 }) ⟨rfl, rfl⟩) fun r t hr => ?_
  cases r with
  | error e => exact hr
  | ok fl =>
    cases fl with
    | ret x =>
      obtain ⟨rfl, rfl⟩ := hr
      have o1 : h1.get? N = some (freshS w) := Heap.get?_push_size _ rfl
      have o2 : Shared.TypeIs { s with heap := h1 } (.ref N) "set" := ⟨_, o1, rfl⟩
      have f6 := F.called_set.init.lookup; have f7 := F.called_set.init.bind (.ref N)
      repeat (any_goals (first | assumption | wp_step))
      let R1 : Value → Shared → Prop := fun r u => r = .none ∧ ∃ g tk c, u = { s with heap := g, toks := tk } ∧ SetR w g N (fun j => decide (j ∈ ns)) c ∧ c ≤ ns.length ∧ (∀ b o, s.heap.get? b = some o → g.get? b = some o)
      refine codeAny_mono (codeAny_call_builtin (R := wants R1 E) F.called_set.init.plain F.entry_set_init (check_set_init_1 o2 ?_)) fun r u hu => ?_
      · obtain ⟨ol, hol, hcl, nl, hdl⟩ := hl
        obtain ⟨cl, di, da, sl⟩ := ol
        obtain rfl : cl = _ := hcl
        obtain rfl : da = _ := hdl
        have g1 : h1.get? l = some { cls := .type "list", dict := di, data := .seq its nl, slots := sl } := Heap.get?_push_of_some _ hol
        have g2 := F.sub_list_set; have g3 := F.sub_list_frozenset
        have g4 : (Value.type "list" == Value.type "dict") = false := by decide
        have L1 : h1.IsList l its := ⟨_, g1, rfl, nl, rfl⟩
        unfold Builtin.«set.__init__» noKeywords Builtin.Frozenset.updateFrom
        generalize e0 : pyIter = PI
        wp_walk
        subst e0
        refine wpAny_pyIter_list L1 (wpAny_bind (wpAny_runValue ?_))
        have lN : l < N := Heap.lt_size hol
        have z1 : h1.objs.size = N + 1 := Heap.size_push ..
        have a3 : A.in1.in1.in1.handled = none := by simp [hA]
        have nI : l ≠ h1.objs.size := by rw [z1]; exact Nat.ne_of_lt (Nat.lt_succ_of_lt lN)
        have nS : N ∉ [h1.objs.size, l] := by
          intro q
          rcases List.mem_cons.mp q with q | q
          · rw [z1] at q; exact Nat.ne_of_lt (Nat.lt_succ_self _) q
          · exact Nat.ne_of_gt lN (List.mem_singleton.mp q)
        have vals : ∀ (i : Nat) (v : Value), its[i]? = some v → ∃ k t, ns[i]? = some k ∧ v = .int k t := fun i v e => by
          have lt : i < ns.length := by rw [← sz]; exact (Array.getElem?_eq_some_iff.mp e).1
          obtain ⟨t, q⟩ := IntsAre.int_at hi i v (by rw [Array.getElem?_toList]; exact e)
          exact ⟨ns[i], t, List.getElem?_eq_getElem lt, by rw [q, List.getD_eq_getElem?_getD, List.getElem?_eq_getElem lt] <;> rfl⟩
        refine set_update_ints ((Walks.list a3 _ l nI its).toS) N nS ns sz hb vals (its.size - 0) 0 _ (by omega) (Nat.zero_le _) ⟨⟨_, Heap.get?_push_size _ rfl, rfl, rfl⟩, (L1.push _)⟩ ⟨0, Nat.le_refl 0, setR_new_at (Heap.get?_push_of_some _ o1)⟩ ?_
        intro u c hm hc hS
        obtain ⟨g, gs, dr, tk, os⟩ := u
        obtain rfl : gs = s.gens := hm.gens
        obtain rfl : dr = s.drawn := hm.drawn
        obtain rfl : os = s.os := hm.os
        refine wpAny_pure (show wpAny _ _ (ret Value.none) _ _ _ from wpAny_pure ⟨rfl, g, tk, c, rfl, hS, by omega, fun b o e => ?_⟩)
        have lb : b < N := Heap.lt_size e
        refine hm.heap b o (fun q => ?_) (Heap.get?_push_of_some _ (Heap.get?_push_of_some _ e))
        rcases List.mem_cons.mp q with q | q
        · exact Nat.ne_of_lt lb q
        · have q2 := List.mem_singleton.mp q
          rw [z1] at q2; exact Nat.ne_of_lt (Nat.lt_succ_of_lt lb) q2
      · cases r with
        | error e => exact hu
        | ok fl =>
          cases fl with
          | ret x =>
            obtain ⟨rfl, g, tk, c, rfl, b1, b2, b3⟩ := hu
            repeat (any_goals (first | assumption | wp_step))
            exact fin _ _ _ b1 b2 b3
          | _ => exact hu.elim
    | _ => exact hr.elim
end
section
variable {X : Cx} {W : WX} {a : Expr} {ma : Env → Store → R D}
/-- set(xs), a list of ints -/
def rSetL (K : PySem.W.Frag) (w : World) : List V → Hp → VK → Prop := fun vs H Q => ∃ (a : Addr) (ns : List Int), vs = [.ref a] ∧ SqL K H a (ns.map V.int) ∧ ns.length + 1 < scanBound ∧
  ∀ p n, H p = none → n ≤ ns.length → Q (.ref p) (upd H p (SetO w p (fun j => decide (j ∈ ns)) n))
theorem cr_setL (hc : X.calm = true) : CallR X (.type "set") (rSetL X.K X.w) := by
  intro pins s σ H vs us Q I r h
  obtain ⟨a, ns, rfl, hl, hb, q⟩ := h
  rw [Vals.ref1 r]
  obtain ⟨its, rv, pl, hz⟩ := I.list hl
  refine set_of_list ns (I.ok.hd hc) pl.isList (ints_of_vals (by simpa using rv)) hb fun g tk c hS hc2 hk => ?_
  have hn : H s.heap.objs.size = none := I.hok.fresh (Nat.le_refl _)
  refine ⟨.ref s.heap.objs.size, upd H s.heap.objs.size (SetO X.w s.heap.objs.size (fun j => decide (j ∈ ns)) c), ?_, rfl, q _ _ hn hc2⟩
  exact I.laid (t' := tk) (fun b u e => hk b u e) (Nat.le_refl _) (setO_new hS)
theorem mem_dedI {k : Int} : ∀ {ns : List Int}, k ∈ dedI ns ↔ k ∈ ns
  | [] => by simp [dedI]
  | x :: r => by
    have ih := mem_dedI (k := k) (ns := r)
    unfold dedI
    split
    · rename_i hx
      rw [ih, List.mem_cons]
      exact ⟨.inr, fun h => h.elim (fun e => e ▸ hx) id⟩
    · rw [List.mem_cons, List.mem_cons, ih]
theorem nodup_dedI : ∀ ns : List Int, (dedI ns).Nodup
  | [] => by simp [dedI]
  | x :: r => by
    have ih := nodup_dedI r
    unfold dedI
    split
    · exact ih
    · rename_i hx
      exact List.nodup_cons.mpr ⟨fun h => hx (mem_dedI.mp h), ih⟩
theorem sortI_setU {ns ms : List Int} (h1 : ms.Pairwise (· < ·)) (h2 : ∀ k, k ∈ ms ↔ k ∈ ns) : ms = sortI (dedI ns) := by
  have n1 : ms.Nodup := h1.imp fun h => by omega
  refine sortI_uniq ?_ (h1.imp fun h => by omega)
  refine (List.perm_ext_iff_of_nodup n1 (nodup_dedI ns)).mpr fun k => ?_
  rw [h2 k, mem_dedI]
theorem x_sset {p p2 q pos : Pos} (hc : X.calm = true) (hg : Gl X "sorted") (hm : X.mg "sorted" = none) (hg2 : Gl X "set") (hm2 : X.mg "set" = none) (ha : XE' X W a ma) (na : starEach [a] X.env = (false, eval a X.env) :: starEach [] X.env) :
    XE' X W (.Call (.Name "sorted" p) [.Call (.Name "set" p2) [a] [] q] [] pos) (fun ρ S => (ma ρ S).bind fun x S => ssetV S x) := by
  have i1 := pe_callTy (pos := q) (p := p2) (cr_setL hc) hg2 hm2 boot_set (pa_cons ha pa_nil na) (by decide) (by decide) na (by rfl)
  have i2 := pe_callB (pos := pos) (p := p) (cr_sortedSet hc) hg hm (by decide +kernel) (pa_cons i1 pa_nil (by rfl)) (by decide) (by decide) (by rfl) (by rfl)
  refine i2.imp fun σ H Q ⟨bar, io, ρ, S, wd, h⟩ => ?_
  refine ⟨bar, io, ρ, S, wd, (Aft.bind (P := PRep X.K) h).imp fun x H1 ⟨bar1, io1, S1, d1, x1, wd1, r1, _, h1⟩ => ?_⟩
  unfold ssetV at h1
  split at h1
  · rename_i ns hn
    obtain ⟨a, rfl, hl, z1⟩ := ints_rep wd1.st r1 hn
    cases g : decide (ns.length ≤ 60) with
    | false => rw [g] at h1; exact h1.elim
    | true =>
      rw [g, guardR_true] at h1
      have g := of_decide_eq_true g
      refine ⟨a, ns, rfl, hl, by unfold scanBound; omega, fun p1 n hp hle => ?_⟩
      refine ⟨p1, _, n, rfl, upd_same, by omega, fun ms p2 k1 k2 k3 hp2 => ?_⟩
      have e : ms = sortI (dedI ns) := sortI_setU k1 fun k => by rw [k2 k]; exact decide_eq_true_iff
      rw [e]
      have a1 : Ext H1 bar1 io1 (upd H1 p1 (SetO X.w p1 (fun j => decide (j ∈ ns)) n)) bar1 io1 := Ext.new hp
      have s1 : StRep X.K (upd H1 p1 (SetO X.w p1 (fun j => decide (j ∈ ns)) n)) bar1 io1 S1 := wd1.st.new hp
      obtain ⟨a2, s2, r2⟩ := new_lst s1 (Reps.of_ints (ns := sortI (dedI ns))) (by rw [List.length_map, ← e, k3]; exact Nat.le_trans (show n ≤ 60 by omega) (by decide)) hp2
      exact h1 _ _ _ _ (a1.trans a2) (wd1.mono' (a1.trans a2) s2) r2
  · exact h1.elim
end
end PX

/-! PX10: targets, what is walked. -/
namespace PX
open PySem L2
/-! ### targets -/
def T.slots : T → List Nat
  | .name i => [i]
  | .tup is => is
section
variable {K : PySem.W.Frag}
theorem wipe_set_set (σ : St) (i : Nat) (x y : Option V) : ∀ vs : List Nat, (wipe (σ.set i x) vs).set i y = (wipe σ vs).set i y
  | [] => by unfold wipe; rw [List.set_set]
  | v :: vs => by
    unfold wipe
    by_cases e : v = i
    · subst e
      rw [List.set_set, List.set_set]
      exact wipe_set_set σ v x y vs
    · rw [List.set_comm _ _ e, wipe_set_set σ i x y vs, List.set_comm _ _ (Ne.symm e)]
theorem wipe_set {σ : St} {i : Nat} {x : Option V} : ∀ {vs : List Nat}, i ∈ vs → wipe (σ.set i x) vs = wipe σ vs
  | v :: vs, h => by
    unfold wipe
    by_cases e : v = i
    · subst e; exact wipe_set_set σ v x none vs
    · rcases List.mem_cons.mp h with q | q
      · exact absurd q.symm e
      · rw [wipe_set q]
/-- a target takes a value -/
def gD (K : PySem.W.Frag) (t : T) : TG := fun v σ H Q => ∃ bar io ρ S d ρ', Wd K H bar io σ ρ S ∧ Rep K H bar io v d ∧ asgT t d ρ = some ρ' ∧
  ∀ σ', Wd K H bar io σ' ρ' S → (∀ vs, (∀ i ∈ t.slots, i ∈ vs) → wipe σ' vs = wipe σ vs) → Q σ' H
def gDs (K : PySem.W.Frag) (is : List Nat) : TGs := fun xs σ H Q => ∃ bar io ρ S ds ρ', Wd K H bar io σ ρ S ∧ Reps K H bar io xs ds ∧ asgs is ds ρ = some ρ' ∧
  ∀ σ', Wd K H bar io σ' ρ' S → (∀ vs, (∀ i ∈ is, i ∈ vs) → wipe σ' vs = wipe σ vs) → Q σ' H
end
section
variable {X : Cx} {pos : Pos}
/-- a name that may be stored -/
def Sto (X : Cx) (i : Nat) (x : Str) : Prop := X.N[i]? = some x ∧ Loc X.env.scope x ∧ (X.fn x = true ∨ X.env.scope.names.lookup x = some .local)
theorem _root_.L2.PG.imp {X : Cx} {e : Expr} {t t' : TG} (h : PG X e t) (f : ∀ v σ H Q, t' v σ H Q → t v σ H Q) : PG X e t' := ⟨fun pins s σ H v u Q I r q => h.run pins s σ H v u Q I r (f v σ H Q q)⟩
theorem _root_.L2.PGs.imp {X : Cx} {e : List Expr} {t t' : TGs} (h : PGs X e t) (f : ∀ v σ H Q, t' v σ H Q → t v σ H Q) : PGs X e t' := ⟨fun pins s σ H v u Q I r q => h.run pins s σ H v u Q I r (f v σ H Q q)⟩
theorem g_name {i : Nat} {x : Str} (hN : X.N.Nodup) (h : Sto X i x) : PG X (.Name x pos) (gD X.K (.name i)) := by
  refine (pg_name hN h.1 h.2.1 h.2.2).imp fun v σ H Q ⟨bar, io, ρ, S, d, ρ', wd, r, e, q⟩ => ?_
  have e : some (ρ.set i (some d)) = some ρ' := e
  cases e
  exact q _ ⟨wd.env.set r i, wd.st⟩ fun vs hv => wipe_set (hv i (by simp [T.slots]))
inductive Names' (X : Cx) : List Expr → List Nat → Prop
  | nil : Names' X [] []
  | cons {x : Str} {p : Pos} {i : Nat} {es : List Expr} {is : List Nat} (h : Sto X i x) (t : Names' X es is) : Names' X (.Name x p :: es) (i :: is)
theorem Names'.each {es : List Expr} {is : List Nat} (h : Names' X es is) : (assignEach es X.env).length = es.length ∧ (assignEach es X.env).findIdx? (·.1) = none ∧ es.length = is.length := by
  induction h with
  | nil => exact ⟨rfl, rfl, rfl⟩
  | cons h t ih =>
    obtain ⟨h1, h2, h3⟩ := ih
    refine ⟨?_, ?_, by simp [h3]⟩
    · show (_ :: assignEach _ X.env).length = _
      rw [List.length_cons, List.length_cons, h1]
    · show List.findIdx? _ ((false, _) :: assignEach _ X.env) = none
      rw [List.findIdx?_cons]
      simp only [Bool.false_eq_true, if_false, h2]
      rfl
theorem gs_names {es : List Expr} {is : List Nat} (hN : X.N.Nodup) (h : Names' X es is) : PGs X es (gDs X.K is) := by
  induction h with
  | nil =>
    refine pgs_nil.imp fun xs σ H Q ⟨bar, io, ρ, S, ds, ρ', wd, r, e, q⟩ => ?_
    cases r with
    | nil =>
      cases e
      exact ⟨rfl, q _ wd fun _ _ => rfl⟩
    | cons => cases e
  | @cons x p i es is h t ih =>
    refine (pgs_cons (pg_name hN h.1 h.2.1 h.2.2) ih rfl).imp fun xs σ H Q ⟨bar, io, ρ, S, ds, ρ', wd, r, e, q⟩ => ?_
    cases r with
    | nil => cases e
    | @cons v vs d ds r1 r2 =>
      refine ⟨v, vs, rfl, bar, io, ρ.set i (some d), S, ds, ρ', ⟨wd.env.set r1 i, wd.st⟩, r2, e, fun σ' w hw => q σ' w fun zs hz => ?_⟩
      rw [hw zs fun j hj => hz j (List.mem_cons_of_mem _ hj)]
      exact wipe_set (hz i List.mem_cons_self)
theorem g_tup {es : List Expr} {is : List Nat} {k : Nat} (hc : X.calm = true) (hN : X.N.Nodup) (h : Names' X es is) : PG X (.Tuple es k pos) (gD X.K (.tup is)) := by
  obtain ⟨h1, h2, h3⟩ := h.each
  refine (pg_tup (n := es.length) hc (gs_names hN h) h1 h2).imp fun v σ H Q ⟨bar, io, ρ, S, d, ρ', wd, r, e, q⟩ => ?_
  cases d with
  | tup ds =>
    obtain ⟨a, vs, rfl, hs, z, rr⟩ := tup_rep r
    have hl : ∀ {is : List Nat} {ds : List D} {ρ ρ' : Env}, asgs is ds ρ = some ρ' → ds.length = is.length := by
      intro is
      induction is with
      | nil => intro ds ρ ρ' h; cases ds with
        | nil => rfl
        | cons => cases h
      | cons i is ih => intro ds ρ ρ' h; cases ds with
        | nil => cases h
        | cons d ds => simp [ih h]
    exact ⟨a, vs, rfl, hs, by rw [rr.length, hl e, h3], bar, io, ρ, S, ds, ρ', wd, rr, e, q⟩
  | _ => cases e
end

/-! ### what is walked -/
structure WalkD (K : PySem.W.Frag) (J : It) (w : Ws) (H : Hp) (bar io : List Addr) : Prop where
  go : ∀ i H1 bar1 io1 S1, i < w.ds.length → ExtW H bar io H1 bar1 io1 → StRep K H1 bar1 io1 S1 → w.ok S1 = true → J.go i H1
  stop : ∀ H1 bar1 io1 S1, ExtW H bar io H1 bar1 io1 → StRep K H1 bar1 io1 S1 → w.ok S1 = true → J.stop w.ds.length H1
  yld : ∀ i H1 bar1 io1 S1 x H1', i < w.ds.length → ExtW H bar io H1 bar1 io1 → StRep K H1 bar1 io1 S1 → w.ok S1 = true → J.yld i H1 x H1' →
    ∃ d, w.ds[i]? = some d ∧ Ext H1 bar1 io1 H1' bar1 io1 ∧ StRep K H1' bar1 io1 S1 ∧ Rep K H1' bar1 io1 x d
theorem WalkD.mono {K : PySem.W.Frag} {J : It} {w : Ws} {H H' : Hp} {bar io bar' io' : List Addr} (h : WalkD K J w H bar io) (x : ExtW H bar io H' bar' io') : WalkD K J w H' bar' io' :=
  ⟨fun i H1 b1 i1 S1 hi y st ok => h.go i H1 b1 i1 S1 hi (x.trans y) st ok, fun H1 b1 i1 S1 y st ok => h.stop H1 b1 i1 S1 (x.trans y) st ok, fun i H1 b1 i1 S1 v H1' hi y st ok e => h.yld i H1 b1 i1 S1 v H1' hi (x.trans y) st ok e⟩
/-- the reading of an iterator -/
def iD (K : PySem.W.Frag) (mg : Str → Option Value) (m : Env → Store → R Ws) (W : WX) : TI := fun σ H R' => ∃ bar io ρ S, Wd K H bar io σ ρ S ∧
  match m ρ S with
  | .ok w S' => ∀ J H' bar' io', Ext H bar io H' bar' io' → Wd K H' bar' io' σ ρ S' → WalkD K J w H' bar' io' → R' J H'
  | .exc c S' => ∀ H' bar' io' C, Ext H bar io H' bar' io' → Wd K H' bar' io' σ ρ S' → mg c = some (.ref C) → W (.ref C) none σ H'
  | .stuck => False
/-- as an outcome -/
def AftI (K : PySem.W.Frag) (mg : Str → Option Value) (H : Hp) (bar io : List Addr) (σ : St) (ρ : Env) (W : WX) (R' : It → Hp → Prop) : R Ws → Prop
  | .ok w S' => ∀ J H' bar' io', Ext H bar io H' bar' io' → Wd K H' bar' io' σ ρ S' → WalkD K J w H' bar' io' → R' J H'
  | .exc c S' => ∀ H' bar' io' C, Ext H bar io H' bar' io' → Wd K H' bar' io' σ ρ S' → mg c = some (.ref C) → W (.ref C) none σ H'
  | .stuck => False
section
variable {K : PySem.W.Frag} {mg : Str → Option Value} {H : Hp} {bar io : List Addr} {σ : St} {ρ : Env} {W : WX} {S : Store}
theorem AftI.bind {α β : Type} {P : Hp → List Addr → List Addr → β → α → Prop} {R' : It → Hp → Prop} {r : R α} {f : α → Store → R Ws} (h : AftI K mg H bar io σ ρ W R' (r.bind f)) :
    Aft K mg P H bar io σ ρ W (fun b H1 => ∃ bar1 io1 S1 a, Ext H bar io H1 bar1 io1 ∧ Wd K H1 bar1 io1 σ ρ S1 ∧ P H1 bar1 io1 b a ∧ r = .ok a S1 ∧ AftI K mg H1 bar1 io1 σ ρ W R' (f a S1)) r := by
  cases r with
  | ok a S =>
    refine fun b H' bar' io' x w p => ⟨bar', io', S, a, x, w, p, rfl, ?_⟩
    have h : AftI K mg H bar io σ ρ W R' (f a S) := h
    cases e : f a S with
    | ok w S' => rw [e] at h; exact fun J H2 b2 i2 y w2 wk => h J H2 b2 i2 (x.trans y) w2 wk
    | exc c S' => rw [e] at h; exact fun H2 b2 i2 C y w2 ec => h H2 b2 i2 C (x.trans y) w2 ec
    | stuck => rw [e] at h; exact h
  | exc c S => exact h
  | stuck => exact h
theorem iD_iff {m : Env → Store → R Ws} {R' : It → Hp → Prop} (h : iD K mg m W σ H R') : ∃ bar io ρ S, Wd K H bar io σ ρ S ∧ AftI K mg H bar io σ ρ W R' (m ρ S) := by
  obtain ⟨bar, io, ρ, S, wd, h⟩ := h
  refine ⟨bar, io, ρ, S, wd, ?_⟩
  cases e : m ρ S with
  | ok w S' => rw [e] at h; exact h
  | exc c S' => rw [e] at h; exact h
  | stuck => rw [e] at h; exact h
/-- a walked value, later on -/
theorem lst_later {H1 : Hp} {bar1 io1 : List Addr} {S1 : Store} {x : V} {d : D} {w : Ws} (st : StRep K H bar io S) (r : Rep K H bar io x d) (h : lstW S d = some w) (y : ExtW H bar io H1 bar1 io1) (st1 : StRep K H1 bar1 io1 S1) (ok : w.ok S1 = true) :
    ∃ a vs, x = .ref a ∧ SqL K H1 a vs ∧ Reps K H1 bar1 io1 vs w.ds := by
  have r1 := r.monoW y st.bal
  cases d with
  | lst xs => cases h; obtain ⟨a', vs, e, hs, z, q⟩ := asLst_rep st1 r1 rfl; exact ⟨a', vs, e, hs, q⟩
  | scr xs => cases h; obtain ⟨a', vs, e, hs, z, q⟩ := asLst_rep st1 r1 rfl; exact ⟨a', vs, e, hs, q⟩
  | adr n =>
    have h : (match S[n]? with | some (.lst xs) => some (⟨xs, [(n, .lst xs)]⟩ : Ws) | _ => none) = some w := h
    cases hc : S[n]? with
    | none => rw [hc] at h; cases h
    | some c =>
      rw [hc] at h
      cases c with
      | dic _ => cases h
      | lst ys =>
        cases h
        have ok : S1[n]? = some (.lst ys) := by
          have ok : ([(n, Cell.lst ys)].all fun p => decide (S1[p.1]? = some p.2)) = true := ok
          simpa using ok
        obtain ⟨a', o, e, _, hH, q⟩ := cell_at st1 r1 ok
        cases q with
        | lst z q => exact ⟨a', _, e, .inl (.inl hH), q⟩
  | tup _ => cases h
  | kup _ => cases h
  | non => cases h
  | bl _ => cases h
  | int _ => cases h
  | str _ => cases h
theorem tup_later {H1 : Hp} {bar1 io1 : List Addr} {x : V} {d : D} {xs : List D} (st : StRep K H bar io S) (r : Rep K H bar io x d) (h : tupW d = some xs) (y : ExtW H bar io H1 bar1 io1) :
    ∃ a vs, x = .ref a ∧ SqT K H1 a vs ∧ Reps K H1 bar1 io1 vs xs := by
  have r1 := r.monoW y st.bal
  cases d with
  | tup ys => cases h; obtain ⟨a', vs, e, hs, z, q⟩ := tup_rep r1; exact ⟨a', vs, e, hs, q⟩
  | kup ys => cases h; obtain ⟨a', vs, e, hs, z, q⟩ := kup_rep r1; exact ⟨a', vs, e, hs, q⟩
  | _ => cases h
end
/-- a list or a tuple, walked -/
def iSeq (K : PySem.W.Frag) (tl : TE) : TI := fun σ H R => tl σ H fun x H1 => ∃ a, x = .ref a ∧ (((∃ xs, SqL K H1 a xs) ∧ R (Itl K a) H1) ∨ ((∃ xs, SqT K H1 a xs) ∧ R (Itt K a) H1))
section
variable {X : Cx} {W : WX} {tg a b e : Expr} {ma mb : Env → Store → R D} {pos : Pos}
theorem pi_seq {tl : TE} (hl : PE X e tl) : PI X tg e (iSeq X.K tl) := by
  refine ⟨fun pins s σ H R I h => ?_⟩
  refine thn (hl.run pins s σ H _ I h) fun v s1 hv => ?_
  obtain ⟨x, H1, I1, r1, a, rfl, q⟩ := hv
  cases r1
  have fp : ∀ b ∈ [s1.heap.objs.size], FpOk X pins H1 b := fun b hb => by
    have e := List.mem_singleton.mp hb
    subst e
    exact I1.fpOk (Nat.le_refl _) (I1.hok.fresh (Nat.le_refl _))
  rcases q with ⟨⟨xs, hq⟩, q⟩ | ⟨⟨xs, hq⟩, q⟩
  · obtain ⟨its, rv, p, hz⟩ := I1.list hq
    exact wpAny_pyIter_list p.isList ⟨_, [s1.heap.objs.size], _, _, H1, rfl, I1.kept (t' := s1.toks) fun b o k => Heap.get?_push_of_some _ k, turn_list a _, ⟨_, Heap.get?_push_size _ rfl, rfl, rfl⟩, fp, q⟩
  · obtain ⟨its, rv, p, hz⟩ := I1.tuple hq
    exact wpAny_pyIter_tuple (show s1.heap.IsTuple a its.toArray from p) ⟨_, [s1.heap.objs.size], _, _, H1, rfl, I1.kept (t' := s1.toks) fun b o k => Heap.get?_push_of_some _ k, turn_tuple a _, ⟨_, Heap.get?_push_size _ rfl, rfl, rfl⟩, fp, q⟩
theorem walkL {K : PySem.W.Frag} {H : Hp} {bar io : List Addr} {w : Ws} {a : Addr} (h : ∀ H1 bar1 io1 S1, ExtW H bar io H1 bar1 io1 → StRep K H1 bar1 io1 S1 → w.ok S1 = true → ∃ b vs, V.ref a = .ref b ∧ SqL K H1 b vs ∧ Reps K H1 bar1 io1 vs w.ds) : WalkD K (Itl K a) w H bar io := by
  refine ⟨fun i H1 b1 i1 S1 hi x st ok => ?_, fun H1 b1 i1 S1 x st ok => ?_, fun i H1 b1 i1 S1 v H1' hi x st ok y => ?_⟩
  · obtain ⟨_, vs, he, hs, r⟩ := h H1 b1 i1 S1 x st ok
    cases he
    have hi' : i < vs.length := by rw [r.length]; exact hi
    exact ⟨vs, vs[i], hs, by simp [hi']⟩
  · obtain ⟨_, vs, he, hs, r⟩ := h H1 b1 i1 S1 x st ok
    cases he
    exact ⟨vs, hs, by rw [r.length]; exact Nat.le_refl _⟩
  · obtain ⟨_, vs, he, hs, r⟩ := h H1 b1 i1 S1 x st ok
    cases he
    obtain ⟨rfl, y⟩ := y
    obtain ⟨d, e, rd⟩ := r.getV (y vs hs)
    exact ⟨d, e, Ext.refl, st, rd⟩
theorem walkT {K : PySem.W.Frag} {H : Hp} {bar io : List Addr} {w : Ws} {a : Addr} (h : ∀ H1 bar1 io1 S1, ExtW H bar io H1 bar1 io1 → StRep K H1 bar1 io1 S1 → w.ok S1 = true → ∃ b vs, V.ref a = .ref b ∧ SqT K H1 b vs ∧ Reps K H1 bar1 io1 vs w.ds) : WalkD K (Itt K a) w H bar io := by
  refine ⟨fun i H1 b1 i1 S1 hi x st ok => ?_, fun H1 b1 i1 S1 x st ok => ?_, fun i H1 b1 i1 S1 v H1' hi x st ok y => ?_⟩
  · obtain ⟨_, vs, he, hs, r⟩ := h H1 b1 i1 S1 x st ok
    cases he
    have hi' : i < vs.length := by rw [r.length]; exact hi
    exact ⟨vs, vs[i], hs, by simp [hi']⟩
  · obtain ⟨_, vs, he, hs, r⟩ := h H1 b1 i1 S1 x st ok
    cases he
    exact ⟨vs, hs, by rw [r.length]; exact Nat.le_refl _⟩
  · obtain ⟨_, vs, he, hs, r⟩ := h H1 b1 i1 S1 x st ok
    cases he
    obtain ⟨rfl, y⟩ := y
    obtain ⟨d, e, rd⟩ := r.getV (y vs hs)
    exact ⟨d, e, Ext.refl, st, rd⟩
abbrev XI (X : Cx) (W : WX) (tg e : Expr) (m : Env → Store → R Ws) : Prop := PI X tg e (iD X.K X.mg m W)
theorem lstW_ok {S : Store} {d : D} {w : Ws} (h : lstW S d = some w) : w.ok S = true := by
  unfold lstW at h
  split at h
  · cases h; rfl
  · cases h; rfl
  · split at h
    · rename_i e
      cases h
      simp [Ws.ok, e]
    · cases h
  · cases h
theorem lstW_ref {K : PySem.W.Frag} {H : Hp} {bar io : List Addr} {S : Store} {x : V} {d : D} {w : Ws} (r : Rep K H bar io x d) (h : lstW S d = some w) : ∃ a, x = .ref a := by
  cases r <;> first | exact ⟨_, rfl⟩ | cases h
theorem i_seq (ha : XE' X W e ma) : XI X W tg e (fun ρ S => (ma ρ S).bind fun x S => optR (seqW S x) S) := by
  refine (pi_seq ha).imp fun σ H R' h => ?_
  obtain ⟨bar, io, ρ, S, wd, h⟩ := iD_iff h
  refine ⟨bar, io, ρ, S, wd, (AftI.bind (P := PRep X.K) h).imp fun x H1 ⟨bar1, io1, S1, d1, x1, wd1, r1, _, h1⟩ => ?_⟩
  unfold seqW at h1
  cases ht : tupW d1 with
  | some xs =>
    rw [ht] at h1
    have h1 : AftI X.K X.mg H1 bar1 io1 σ ρ W R' (.ok ⟨xs, []⟩ S1) := h1
    obtain ⟨a, vs, rfl, hs, _⟩ := tup_later wd1.st r1 ht ExtW.refl
    exact ⟨a, rfl, .inr ⟨⟨vs, hs⟩, h1 _ _ _ _ Ext.refl wd1 (walkT fun H2 b2 i2 S2 x st ok => tup_later wd1.st r1 ht x)⟩⟩
  | none =>
    rw [ht] at h1
    have h1 : AftI X.K X.mg H1 bar1 io1 σ ρ W R' (optR (lstW S1 d1) S1) := h1
    cases hw : lstW S1 d1 with
    | none => rw [hw] at h1; exact h1.elim
    | some w =>
      rw [hw] at h1
      have h1 : AftI X.K X.mg H1 bar1 io1 σ ρ W R' (.ok w S1) := h1
      obtain ⟨a, vs, rfl, hs, _⟩ := lst_later wd1.st r1 hw ExtW.refl wd1.st (lstW_ok hw)
      exact ⟨a, rfl, .inl ⟨⟨vs, hs⟩, h1 _ _ _ _ Ext.refl wd1 (walkL fun H2 b2 i2 S2 x st ok => lst_later wd1.st r1 hw x st ok)⟩⟩
theorem walkR {K : PySem.W.Frag} {H : Hp} {bar io : List Addr} {lo : Int} {n : Nat} : WalkD K (Itr lo n) ⟨rngL lo n, []⟩ H bar io := by
  have hl : (rngL lo n).length = n := by simp [rngL]
  refine ⟨fun i H1 b1 i1 S1 hi x st ok => ?_, fun H1 b1 i1 S1 x st ok => ?_, fun i H1 b1 i1 S1 v H1' hi x st ok y => ?_⟩
  · have hi : i < (rngL lo n).length := hi
    rw [hl] at hi; exact hi
  · show n ≤ (rngL lo n).length
    rw [hl]; exact Nat.le_refl _
  · have hi : i < (rngL lo n).length := hi
    rw [hl] at hi
    obtain ⟨rfl, rfl⟩ := y
    refine ⟨.int (lo + i), ?_, Ext.refl, st, .int _⟩
    show (rngL lo n)[i]? = _
    simp [rngL, hi]
theorem rngOk_iff {i : Int} (h : rngOk i = true) : -(2 ^ 62) ≤ i ∧ i < 2 ^ 62 := by simpa [rngOk] using h
theorem i_rng1 {p : Pos} (hg : Gl X "range") (hm : X.mg "range" = none) (ha : XE' X W a ma) (hs : starEach [a] X.env = [(false, eval a X.env)]) : XI X W tg (.Call (.Name "range" p) [a] [] pos) (fun ρ S => (ma ρ S).bind fun x S => match x with
    | .int j => guardR (rngOk j) (.ok ⟨rngL 0 j.toNat, []⟩ S)
    | _ => .stuck) := by
  have hA : PA X [a] (tCons (tE X.K X.mg ma W) tNil) := pa_cons ha pa_nil (by rw [hs]; rfl)
  refine (pi_range1 hg hm hA hs).imp fun σ H R' h => ?_
  obtain ⟨bar, io, ρ, S, wd, h⟩ := iD_iff h
  refine ⟨bar, io, ρ, S, wd, (AftI.bind (P := PRep X.K) h).imp fun x H1 ⟨bar1, io1, S1, d1, x1, wd1, r1, e1, h1⟩ => ?_⟩
  split at h1
  · rename_i j
    cases r1
    cases g : rngOk j with
    | false => rw [g] at h1; exact h1.elim
    | true =>
      rw [g, guardR_true] at h1
      obtain ⟨g1, g2⟩ := rngOk_iff g
      exact ⟨j, rfl, g1, g2, h1 _ _ _ _ Ext.refl wd1 walkR⟩
  · exact h1.elim
theorem i_rng2 {p : Pos} (hg : Gl X "range") (hm : X.mg "range" = none) (ha : XE' X W a ma) (hb : XE' X W b mb) (hs : starEach [a, b] X.env = [(false, eval a X.env), (false, eval b X.env)]) (hs2 : starEach [b] X.env = [(false, eval b X.env)]) :
    XI X W tg (.Call (.Name "range" p) [a, b] [] pos) (fun ρ S => (ma ρ S).bind fun x S => (mb ρ S).bind fun y S => match x, y with
    | .int i, .int j => guardR (rngOk i && rngOk j) (.ok ⟨rngL i (j - i).toNat, []⟩ S)
    | _, _ => .stuck) := by
  have hA : PA X [a, b] (tCons (tE X.K X.mg ma W) (tCons (tE X.K X.mg mb W) tNil)) := pa_cons ha (pa_cons hb pa_nil (by rw [hs2]; rfl)) (by rw [hs, hs2])
  refine (pi_range2 hg hm hA hs hs2).imp fun σ H R' h => ?_
  obtain ⟨bar, io, ρ, S, wd, h⟩ := iD_iff h
  refine ⟨bar, io, ρ, S, wd, (AftI.bind (P := PRep X.K) h).imp fun x H1 ⟨bar1, io1, S1, d1, x1, wd1, r1, e1, h1⟩ => ?_⟩
  refine ⟨bar1, io1, ρ, S1, wd1, (AftI.bind (P := PRep X.K) h1).imp fun y H2 ⟨bar2, io2, S2, d2, x2, wd2, r2, e2, h2⟩ => ?_⟩
  cases d1 with
  | int i =>
    cases d2 with
    | int j =>
      cases r1; cases r2
      cases g : (rngOk i && rngOk j) with
      | false =>
        have h2 : AftI X.K X.mg H2 bar2 io2 σ ρ W R' (guardR (rngOk i && rngOk j) (.ok ⟨rngL i (j - i).toNat, []⟩ S2)) := h2
        rw [g] at h2; exact h2.elim
      | true =>
        have h2 : AftI X.K X.mg H2 bar2 io2 σ ρ W R' (guardR (rngOk i && rngOk j) (.ok ⟨rngL i (j - i).toNat, []⟩ S2)) := h2
        rw [g, guardR_true] at h2
        rw [Bool.and_eq_true] at g
        obtain ⟨g1, g2⟩ := rngOk_iff g.1
        obtain ⟨g3, g4⟩ := rngOk_iff g.2
        exact ⟨i, j, rfl, ⟨g1, g2, g3, g4⟩, h2 _ _ _ _ Ext.refl wd2 walkR⟩
    | _ => exact h2.elim
  | _ => exact h2.elim
end
end PX

/-! PX11: enumerate, zip, reversed; comprehensions. -/
namespace PX
open PySem L2
theorem enumG_length (f : Nat → D → D) : ∀ (n : Nat) (ds : List D), (enumG f n ds).length = ds.length
  | _, [] => rfl
  | n, d :: ds => by simp [enumG, enumG_length f (n + 1) ds]
theorem enumG_get (f : Nat → D → D) : ∀ (n : Nat) (ds : List D) (i : Nat) (d : D), ds[i]? = some d → (enumG f n ds)[i]? = some (f (n + i) d)
  | _, [], i, d, h => by simp at h
  | n, x :: ds, 0, d, h => by simp at h; subst h; simp [enumG]
  | n, x :: ds, i + 1, d, h => by
    have := enumG_get f (n + 1) ds i d (by simpa using h)
    simp only [enumG, List.getElem?_cons_succ]
    rw [this]
    congr 2
    omega
theorem zipD_length (xs ys : List D) : (zipD xs ys).length = min xs.length ys.length := by simp [zipD]
theorem zipD_get {xs ys : List D} {i : Nat} {x y : D} (hx : xs[i]? = some x) (hy : ys[i]? = some y) : (zipD xs ys)[i]? = some (.tup [x, y]) := by
  have h : (xs.zip ys)[i]? = some (x, y) := by rw [List.getElem?_zip_eq_some]; exact ⟨hx, hy⟩
  simp [zipD, h]
section
variable {K : PySem.W.Frag} {H : Hp} {bar io : List Addr}
theorem walkE {w : Ws} {a : Addr} (h : ∀ H1 bar1 io1 S1, ExtW H bar io H1 bar1 io1 → StRep K H1 bar1 io1 S1 → w.ok S1 = true → ∃ b vs, V.ref a = .ref b ∧ SqL K H1 b vs ∧ Reps K H1 bar1 io1 vs w.ds) :
    WalkD K (Ite K a) ⟨enumG (fun i x => .tup [.int i, x]) 0 w.ds, w.g⟩ H bar io := by
  have hl : (enumG (fun i x => D.tup [.int i, x]) 0 w.ds).length = w.ds.length := enumG_length _ _ _
  refine ⟨fun i H1 b1 i1 S1 hi x st ok => ?_, fun H1 b1 i1 S1 x st ok => ?_, fun i H1 b1 i1 S1 v H1' hi x st ok y => ?_⟩
  · obtain ⟨_, vs, he, hs, r⟩ := h H1 b1 i1 S1 x st ok
    cases he
    have hi : i < (enumG (fun i x => D.tup [.int i, x]) 0 w.ds).length := hi
    have hi' : i < vs.length := by rw [r.length]; omega
    exact ⟨vs, vs[i], hs, by simp [hi']⟩
  · obtain ⟨_, vs, he, hs, r⟩ := h H1 b1 i1 S1 x st ok
    cases he
    exact ⟨vs, hs, by rw [r.length]; show w.ds.length ≤ (enumG (fun i x => D.tup [.int i, x]) 0 w.ds).length; omega⟩
  · obtain ⟨_, vs, he, hs, r⟩ := h H1 b1 i1 S1 x st ok
    cases he
    obtain ⟨T, u, rfl, hT, rfl, y⟩ := y
    obtain ⟨d, e, rd⟩ := r.getV (y vs hs)
    obtain ⟨y1, y2, y3⟩ := new_tup st (.cons (.int (i : Int)) (.cons rd .nil)) (by show 2 ≤ sizeLine; decide) hT
    have := enumG_get (fun i x => D.tup [.int i, x]) 0 w.ds i d e
    rw [Nat.zero_add] at this
    exact ⟨_, this, y1, y2, y3⟩
theorem ok_app {u v : List (Nat × Cell)} {ds : List D} {S : Store} (h : Ws.ok ⟨ds, u ++ v⟩ S = true) (es : List D) : Ws.ok ⟨es, u⟩ S = true ∧ Ws.ok ⟨es, v⟩ S = true := by
  unfold Ws.ok at *
  rw [List.all_append, Bool.and_eq_true] at h
  exact h
theorem walkZ {u w : Ws} {a b : Addr} (h : ∀ H1 bar1 io1 S1, ExtW H bar io H1 bar1 io1 → StRep K H1 bar1 io1 S1 → u.ok S1 = true → ∃ c vs, V.ref a = .ref c ∧ SqL K H1 c vs ∧ Reps K H1 bar1 io1 vs u.ds)
    (h2 : ∀ H1 bar1 io1 S1, ExtW H bar io H1 bar1 io1 → StRep K H1 bar1 io1 S1 → w.ok S1 = true → ∃ c vs, V.ref b = .ref c ∧ SqL K H1 c vs ∧ Reps K H1 bar1 io1 vs w.ds) :
    WalkD K (Itz K a b) ⟨zipD u.ds w.ds, u.g ++ w.g⟩ H bar io := by
  have hl := zipD_length u.ds w.ds
  refine ⟨fun i H1 b1 i1 S1 hi x st ok => ?_, fun H1 b1 i1 S1 x st ok => ?_, fun i H1 b1 i1 S1 v H1' hi x st ok y => ?_⟩
  · obtain ⟨_, vs, he, hs, r⟩ := h H1 b1 i1 S1 x st (ok_app ok u.ds).1
    obtain ⟨_, vs2, he2, hs2, r2⟩ := h2 H1 b1 i1 S1 x st (ok_app ok w.ds).2
    cases he; cases he2
    have hi : i < (zipD u.ds w.ds).length := hi
    have hi' : i < vs.length := by rw [r.length]; omega
    have hi2 : i < vs2.length := by rw [r2.length]; omega
    exact ⟨vs, vs2, vs[i], vs2[i], hs, hs2, by simp [hi'], by simp [hi2]⟩
  · obtain ⟨_, vs, he, hs, r⟩ := h H1 b1 i1 S1 x st (ok_app ok u.ds).1
    obtain ⟨_, vs2, he2, hs2, r2⟩ := h2 H1 b1 i1 S1 x st (ok_app ok w.ds).2
    cases he; cases he2
    refine ⟨vs, vs2, hs, hs2, ?_⟩
    show vs.length ≤ (zipD u.ds w.ds).length ∨ vs2.length ≤ (zipD u.ds w.ds).length
    rw [r.length, r2.length]
    omega
  · obtain ⟨_, vs, he, hs, r⟩ := h H1 b1 i1 S1 x st (ok_app ok u.ds).1
    obtain ⟨_, vs2, he2, hs2, r2⟩ := h2 H1 b1 i1 S1 x st (ok_app ok w.ds).2
    cases he; cases he2
    obtain ⟨T, p, q, rfl, hT, rfl, y, y2⟩ := y
    obtain ⟨d, e, rd⟩ := r.getV (y vs hs)
    obtain ⟨d2, e2, rd2⟩ := r2.getV (y2 vs2 hs2)
    obtain ⟨z1, z2, z3⟩ := new_tup st (.cons rd (.cons rd2 .nil)) (by show 2 ≤ sizeLine; decide) hT
    exact ⟨_, zipD_get e e2, z1, z2, z3⟩
theorem walkZT {xs ys : List D} {a b : Addr} (h : ∀ H1 bar1 io1, ExtW H bar io H1 bar1 io1 → ∃ c vs, V.ref a = .ref c ∧ SqT K H1 c vs ∧ Reps K H1 bar1 io1 vs xs)
    (h2 : ∀ H1 bar1 io1, ExtW H bar io H1 bar1 io1 → ∃ c vs, V.ref b = .ref c ∧ SqT K H1 c vs ∧ Reps K H1 bar1 io1 vs ys) :
    WalkD K (RZ.ItzT K a b) ⟨zipD xs ys, []⟩ H bar io := by
  have hl := zipD_length xs ys
  refine ⟨fun i H1 b1 i1 S1 hi x st ok => ?_, fun H1 b1 i1 S1 x st ok => ?_, fun i H1 b1 i1 S1 v H1' hi x st ok y => ?_⟩
  · obtain ⟨_, vs, he, hs, r⟩ := h H1 b1 i1 x
    obtain ⟨_, vs2, he2, hs2, r2⟩ := h2 H1 b1 i1 x
    cases he; cases he2
    have hi : i < (zipD xs ys).length := hi
    have hi' : i < vs.length := by rw [r.length]; omega
    have hi2 : i < vs2.length := by rw [r2.length]; omega
    exact ⟨vs, vs2, vs[i], vs2[i], hs, hs2, by simp [hi'], by simp [hi2]⟩
  · obtain ⟨_, vs, he, hs, r⟩ := h H1 b1 i1 x
    obtain ⟨_, vs2, he2, hs2, r2⟩ := h2 H1 b1 i1 x
    cases he; cases he2
    refine ⟨vs, vs2, hs, hs2, ?_⟩
    show vs.length ≤ (zipD xs ys).length ∨ vs2.length ≤ (zipD xs ys).length
    rw [r.length, r2.length]
    omega
  · obtain ⟨_, vs, he, hs, r⟩ := h H1 b1 i1 x
    obtain ⟨_, vs2, he2, hs2, r2⟩ := h2 H1 b1 i1 x
    cases he; cases he2
    obtain ⟨T, p, q, rfl, hT, rfl, y, y2⟩ := y
    obtain ⟨d, e, rd⟩ := r.getV (y vs hs)
    obtain ⟨d2, e2, rd2⟩ := r2.getV (y2 vs2 hs2)
    obtain ⟨z1, z2, z3⟩ := new_tup st (.cons rd (.cons rd2 .nil)) (by show 2 ≤ sizeLine; decide) hT
    exact ⟨_, zipD_get e e2, z1, z2, z3⟩
theorem walkV {w : Ws} {a : Addr} {n : Nat} (hn : n = w.ds.length) (h : ∀ H1 bar1 io1 S1, ExtW H bar io H1 bar1 io1 → StRep K H1 bar1 io1 S1 → w.ok S1 = true → ∃ b vs, V.ref a = .ref b ∧ SqL K H1 b vs ∧ Reps K H1 bar1 io1 vs w.ds) :
    WalkD K (Itv K a n) ⟨w.ds.reverse, w.g⟩ H bar io := by
  subst hn
  have hl : w.ds.reverse.length = w.ds.length := List.length_reverse
  refine ⟨fun i H1 b1 i1 S1 hi x st ok => ?_, fun H1 b1 i1 S1 x st ok => ?_, fun i H1 b1 i1 S1 v H1' hi x st ok y => ?_⟩
  · obtain ⟨_, vs, he, hs, r⟩ := h H1 b1 i1 S1 x st ok
    cases he
    have hi : i < w.ds.reverse.length := hi
    rw [hl] at hi
    have hi' : w.ds.length - 1 - i < vs.length := by rw [r.length]; omega
    exact ⟨hi, vs, vs[w.ds.length - 1 - i], hs, by simp [hi']⟩
  · show w.ds.length ≤ w.ds.reverse.length
    rw [hl]; exact Nat.le_refl _
  · obtain ⟨_, vs, he, hs, r⟩ := h H1 b1 i1 S1 x st ok
    cases he
    have hi : i < w.ds.reverse.length := hi
    rw [hl] at hi
    obtain ⟨rfl, y⟩ := y
    obtain ⟨d, e, rd⟩ := r.getV (y vs hs)
    exact ⟨d, by show w.ds.reverse[i]? = _; rw [List.getElem?_reverse hi]; exact e, Ext.refl, st, rd⟩
theorem walkVT {xs : List D} {a : Addr} {n : Nat} (hn : n = xs.length) (h : ∀ H1 bar1 io1, ExtW H bar io H1 bar1 io1 → ∃ b vs, V.ref a = .ref b ∧ SqT K H1 b vs ∧ Reps K H1 bar1 io1 vs xs) :
    WalkD K (RT.ItvT K a n) ⟨xs.reverse, []⟩ H bar io := by
  subst hn
  have hl : xs.reverse.length = xs.length := List.length_reverse
  refine ⟨fun i H1 b1 i1 S1 hi x st ok => ?_, fun H1 b1 i1 S1 x st ok => ?_, fun i H1 b1 i1 S1 v H1' hi x st ok y => ?_⟩
  · obtain ⟨_, vs, he, hs, r⟩ := h H1 b1 i1 x
    cases he
    have hi : i < xs.reverse.length := hi
    rw [hl] at hi
    have hi' : xs.length - 1 - i < vs.length := by rw [r.length]; omega
    exact ⟨hi, vs, vs[xs.length - 1 - i], hs, by simp [hi']⟩
  · show xs.length ≤ xs.reverse.length
    rw [hl]; exact Nat.le_refl _
  · obtain ⟨_, vs, he, hs, r⟩ := h H1 b1 i1 x
    cases he
    have hi : i < xs.reverse.length := hi
    rw [hl] at hi
    obtain ⟨rfl, y⟩ := y
    obtain ⟨d, e, rd⟩ := r.getV (y vs hs)
    exact ⟨d, by show xs.reverse[i]? = _; rw [List.getElem?_reverse hi]; exact e, Ext.refl, st, rd⟩
end
section
variable {X : Cx} {W : WX} {tg a b e : Expr} {ma mb : Env → Store → R D} {pos : Pos}
theorem i_enum {p tpos : Pos} {elts : List Expr} {kk : Nat} (hg : Gl X "enumerate") (hm : X.mg "enumerate" = none) (ha : XE' X W a ma) (hs : starEach [a] X.env = [(false, eval a X.env)]) :
    XI X W (.Tuple elts kk tpos) (.Call (.Name "enumerate" p) [a] [] pos) (fun ρ S => (ma ρ S).bind fun x S => enumV S x) := by
  have hA : PA X [a] (tCons (tE X.K X.mg ma W) tNil) := pa_cons ha pa_nil (by rw [hs]; rfl)
  refine (pi_enum hg hm hA hs).imp fun σ H R' h => ?_
  obtain ⟨bar, io, ρ, S, wd, h⟩ := iD_iff h
  refine ⟨bar, io, ρ, S, wd, (AftI.bind (P := PRep X.K) h).imp fun x H1 ⟨bar1, io1, S1, d1, x1, wd1, r1, _, h1⟩ => ?_⟩
  unfold enumV at h1
  cases hw : lstW S1 d1 with
  | none => rw [hw] at h1; exact h1.elim
  | some w =>
    rw [hw] at h1
    obtain ⟨c, vs, rfl, hs, _⟩ := lst_later wd1.st r1 hw ExtW.refl wd1.st (lstW_ok hw)
    exact ⟨c, vs, rfl, hs, h1 _ _ _ _ Ext.refl wd1 (walkE fun H2 b2 i2 S2 x st ok => lst_later wd1.st r1 hw x st ok)⟩
theorem i_zip {p tpos : Pos} {elts : List Expr} {kk : Nat} (hg : Gl X "zip") (hm : X.mg "zip" = none) (ha : XE' X W a ma) (hb : XE' X W b mb)
    (hs : starEach [a, b] X.env = (false, eval a X.env) :: starEach [b] X.env) (hs2 : starEach [b] X.env = [(false, eval b X.env)]) :
    XI X W (.Tuple elts kk tpos) (.Call (.Name "zip" p) [a, b] [] pos) (fun ρ S => (ma ρ S).bind fun x S => (mb ρ S).bind fun y S => zipV S x y) := by
  have hA : PA X [a, b] (tCons (tE X.K X.mg ma W) (tCons (tE X.K X.mg mb W) tNil)) := pa_cons ha (pa_cons hb pa_nil (by rw [hs2]; rfl)) hs
  refine (RZ.pi_zipA hg hm hA hs (by rw [hs2]; rfl)).imp fun σ H R' h => ?_
  obtain ⟨bar, io, ρ, S, wd, h⟩ := iD_iff h
  refine ⟨bar, io, ρ, S, wd, (AftI.bind (P := PRep X.K) h).imp fun x H1 ⟨bar1, io1, S1, d1, x1, wd1, r1, _, h1⟩ => ?_⟩
  refine ⟨bar1, io1, ρ, S1, wd1, (AftI.bind (P := PRep X.K) h1).imp fun y H2 ⟨bar2, io2, S2, d2, x2, wd2, r2, _, h2⟩ => ?_⟩
  have r1 := r1.mono x2 wd1.st.live
  unfold zipV at h2
  cases t1 : tupW d1 with
  | some xs =>
    cases t2 : tupW d2 with
    | some ys =>
      rw [t1, t2] at h2
      obtain ⟨c, vs, rfl, hs, _⟩ := tup_later wd2.st r1 t1 ExtW.refl
      obtain ⟨c2, vs2, rfl, hs2, _⟩ := tup_later wd2.st r2 t2 ExtW.refl
      exact ⟨c, c2, vs, vs2, rfl, .inr ⟨hs, hs2, h2 _ _ _ _ Ext.refl wd2 (walkZT (fun H2 b2 i2 x => tup_later wd2.st r1 t1 x) fun H2 b2 i2 x => tup_later wd2.st r2 t2 x)⟩⟩
    | none => rw [t1, t2] at h2; exact h2.elim
  | none =>
    cases t2 : tupW d2 with
    | some ys => rw [t1, t2] at h2; exact h2.elim
    | none =>
      rw [t1, t2] at h2
      cases w1 : lstW S2 d1 with
      | none => simp only [w1] at h2; exact h2.elim
      | some u =>
        cases w2 : lstW S2 d2 with
        | none => simp only [w1, w2] at h2; exact h2.elim
        | some w =>
          simp only [w1, w2] at h2
          obtain ⟨c, vs, rfl, hs, _⟩ := lst_later wd2.st r1 w1 ExtW.refl wd2.st (lstW_ok w1)
          obtain ⟨c2, vs2, rfl, hs2, _⟩ := lst_later wd2.st r2 w2 ExtW.refl wd2.st (lstW_ok w2)
          exact ⟨c, c2, vs, vs2, rfl, .inl ⟨hs, hs2, h2 _ _ _ _ Ext.refl wd2 (walkZ (fun H2 b2 i2 S2 x st ok => lst_later wd2.st r1 w1 x st ok) fun H2 b2 i2 S2 x st ok => lst_later wd2.st r2 w2 x st ok)⟩⟩
theorem i_rev {p : Pos} (hg : Gl X "reversed") (hm : X.mg "reversed" = none) (ha : XE' X W a ma) (hs : starEach [a] X.env = [(false, eval a X.env)]) :
    XI X W tg (.Call (.Name "reversed" p) [a] [] pos) (fun ρ S => (ma ρ S).bind fun x S => optR (revW S x) S) := by
  refine (RT.pi_revA hg hm ha (by rw [hs]; rfl)).imp fun σ H R' h => ?_
  obtain ⟨bar, io, ρ, S, wd, h⟩ := iD_iff h
  refine ⟨bar, io, ρ, S, wd, (AftI.bind (P := PRep X.K) h).imp fun x H1 ⟨bar1, io1, S1, d1, x1, wd1, r1, _, h1⟩ => ?_⟩
  unfold revW seqW at h1
  cases ht : tupW d1 with
  | some xs =>
    rw [ht] at h1
    have h1 : AftI X.K X.mg H1 bar1 io1 σ ρ W R' (.ok ⟨xs.reverse, []⟩ S1) := h1
    obtain ⟨a, vs, rfl, hs, q⟩ := tup_later wd1.st r1 ht ExtW.refl
    exact ⟨a, vs, rfl, .inr ⟨hs, h1 _ _ _ _ Ext.refl wd1 (walkVT q.length fun H2 b2 i2 x => tup_later wd1.st r1 ht x)⟩⟩
  | none =>
    rw [ht] at h1
    have h1 : AftI X.K X.mg H1 bar1 io1 σ ρ W R' (optR ((lstW S1 d1).map fun w => ⟨w.ds.reverse, w.g⟩) S1) := h1
    cases hw : lstW S1 d1 with
    | none => rw [hw] at h1; exact h1.elim
    | some w =>
      rw [hw] at h1
      have h1 : AftI X.K X.mg H1 bar1 io1 σ ρ W R' (.ok ⟨w.ds.reverse, w.g⟩ S1) := h1
      obtain ⟨a, vs, rfl, hs, q⟩ := lst_later wd1.st r1 hw ExtW.refl wd1.st (lstW_ok hw)
      exact ⟨a, vs, rfl, .inl ⟨hs, h1 _ _ _ _ Ext.refl wd1 (walkV q.length fun H2 b2 i2 S2 x st ok => lst_later wd1.st r1 hw x st ok)⟩⟩
end
end PX

/-! PX12: comprehensions. -/
namespace PX
open PySem L2
theorem wipe_wipe (σ : St) {vs : List Nat} : ∀ {us : List Nat}, (∀ i ∈ us, i ∈ vs) → wipe (wipe σ us) vs = wipe σ vs
  | [], _ => rfl
  | u :: us, h => by
    show wipe ((wipe σ us).set u none) vs = _
    rw [wipe_set (h u List.mem_cons_self)]
    exact wipe_wipe σ fun i hi => h i (List.mem_cons_of_mem _ hi)
section
variable {K : PySem.W.Frag} {H : Hp} {bar io : List Addr} {L : Addr} {us ws : List V}
mutual
/-- a list of which no data knows is written -/
theorem Rep.wrL (db : L ∈ bar) (hL : H L = some (.lst us)) : ∀ {v : V} {d : D}, Rep K H bar io v d → Rep K (upd H L (.lst ws)) bar io v d
  | _, _, .non => .non
  | _, _, .bl b => .bl b
  | _, _, .int i => .int i
  | _, _, .str s h k => .str s h k
  | _, _, .tup (a := a) h z r => .tup (by rw [upd_ne (show a ≠ L from fun e => by rw [e, hL] at h; cases h)]; exact h) z (Reps.wrL db hL r)
  | _, _, .kup h c d z v r => .kup h c d z v (Reps.wrL db hL r)
  | _, _, .scrK h c dd d z v r => .scrK h c dd d z v (Reps.wrL db hL r)
  | _, _, .lst (a := a) h b z r => .lst (by rw [upd_ne (show a ≠ L from fun e => b (e ▸ db))]; exact h) b z (Reps.wrL db hL r)
  | _, _, .scr (a := a) h z r => .scr (by rw [upd_ne (show a ≠ L from fun e => by rw [e, hL] at h; cases h)]; exact h) z (Reps.wrL db hL r)
  | _, _, .adr h => .adr h
theorem Reps.wrL (db : L ∈ bar) (hL : H L = some (.lst us)) : ∀ {vs : List V} {ds : List D}, Reps K H bar io vs ds → Reps K (upd H L (.lst ws)) bar io vs ds
  | _, _, .nil => .nil
  | _, _, .cons r t => .cons (Rep.wrL db hL r) (Reps.wrL db hL t)
end
theorem RepK.wrL (db : L ∈ bar) (hL : H L = some (.lst us)) : ∀ {vs : List (Key × V)} {ds : List (Key × D)}, RepK K H bar io vs ds → RepK K (upd H L (.lst ws)) bar io vs ds
  | _, _, .nil => .nil
  | _, _, .cons r t => .cons (r.wrL db hL) (RepK.wrL db hL t)
theorem CellRep.wrL {o : HO} {c : Cell} (db : L ∈ bar) (hL : H L = some (.lst us)) (h : CellRep K H bar io o c) : CellRep K (upd H L (.lst ws)) bar io o c := by
  cases h with
  | lst z r => exact .lst z (r.wrL db hL)
  | dic z r => exact .dic z (r.wrL db hL)
theorem StRep.wrL {S : Store} (db : L ∈ bar) (di : L ∉ io) (hL : H L = some (.lst us)) (h : StRep K H bar io S) : StRep K (upd H L (.lst ws)) bar io S := by
  refine ⟨h.len, h.nd, h.sub, fun a ha => ?_, fun n c hc => ?_⟩
  · by_cases e : a = L
    · rw [e, upd_same]; trivial
    · rw [upd_ne e]; exact h.bal a ha
  · obtain ⟨a, o, e1, e2, r⟩ := h.cell n c hc
    exact ⟨a, o, e1, by rw [upd_ne (show a ≠ L from fun e => di (e ▸ List.mem_of_getElem? e1))]; exact e2, r.wrL db hL⟩
theorem EnvRep.wrL {σ : St} {ρ : Env} (db : L ∈ bar) (hL : H L = some (.lst us)) (h : EnvRep K H bar io σ ρ) : EnvRep K (upd H L (.lst ws)) bar io σ ρ :=
  ⟨h.1, fun i d e => let ⟨v, e1, r⟩ := h.2 i d e; ⟨v, e1, r.wrL db hL⟩⟩
theorem EnvRep.monoW {H' : Hp} {bar' io' : List Addr} {σ : St} {ρ : Env} (x : ExtW H bar io H' bar' io') (lv : ∀ a ∈ bar, Mut (H a)) (h : EnvRep K H bar io σ ρ) : EnvRep K H' bar' io' σ ρ :=
  ⟨h.1, fun i d e => let ⟨v, e1, r⟩ := h.2 i d e; ⟨v, e1, r.monoW x lv⟩⟩
theorem ExtW.wrL (db : L ∈ bar) : ExtW H bar io (upd H L (.lst ws)) bar io := by
  refine ⟨⟨[], by simp, by simp⟩, fun _ h => .inl h, fun _ h => h, fun a o h hn => ?_, fun a h => ?_⟩
  · rw [upd_ne (show a ≠ L from fun e => hn (e ▸ db))]; exact h
  · by_cases e : a = L
    · rw [e, upd_same] at h; cases h
    · rw [upd_ne e] at h; exact h
/-! other names of the cells: less, more -/
mutual
theorem Rep.less {bar2 : List Addr} (h : ∀ a ∈ bar2, a ∈ bar) : ∀ {v : V} {d : D}, Rep K H bar io v d → Rep K H bar2 io v d
  | _, _, .non => .non
  | _, _, .bl b => .bl b
  | _, _, .int i => .int i
  | _, _, .str s h k => .str s h k
  | _, _, .tup e z r => .tup e z (Reps.less h r)
  | _, _, .kup e c d z v r => .kup e c d z v (Reps.less h r)
  | _, _, .scrK e c dd d z v r => .scrK e c dd d z v (Reps.less h r)
  | _, _, .lst e b z r => .lst e (fun m => b (h _ m)) z (Reps.less h r)
  | _, _, .scr e z r => .scr e z (Reps.less h r)
  | _, _, .adr e => .adr e
theorem Reps.less {bar2 : List Addr} (h : ∀ a ∈ bar2, a ∈ bar) : ∀ {vs : List V} {ds : List D}, Reps K H bar io vs ds → Reps K H bar2 io vs ds
  | _, _, .nil => .nil
  | _, _, .cons r t => .cons (Rep.less h r) (Reps.less h t)
end
theorem RepK.less {bar2 : List Addr} (h : ∀ a ∈ bar2, a ∈ bar) : ∀ {vs : List (Key × V)} {ds : List (Key × D)}, RepK K H bar io vs ds → RepK K H bar2 io vs ds
  | _, _, .nil => .nil
  | _, _, .cons r t => .cons (r.less h) (RepK.less h t)
theorem StRep.less {bar2 : List Addr} {S : Store} (h : ∀ a ∈ bar2, a ∈ bar) (hi : ∀ a ∈ io, a ∈ bar2) (st : StRep K H bar io S) : StRep K H bar2 io S := by
  refine ⟨st.len, st.nd, hi, fun a ha => st.bal a (h a ha), fun n c hc => ?_⟩
  obtain ⟨a, o, e1, e2, r⟩ := st.cell n c hc
  refine ⟨a, o, e1, e2, ?_⟩
  cases r with
  | lst z r => exact .lst z (r.less h)
  | dic z r => exact .dic z (r.less h)
mutual
theorem Rep.moreIo {io2 : List Addr} : ∀ {v : V} {d : D}, Rep K H bar io v d → Rep K H bar (io ++ io2) v d
  | _, _, .non => .non
  | _, _, .bl b => .bl b
  | _, _, .int i => .int i
  | _, _, .str s h k => .str s h k
  | _, _, .tup e z r => .tup e z (Reps.moreIo r)
  | _, _, .kup e c d z v r => .kup e c d z v (Reps.moreIo r)
  | _, _, .scrK e c dd d z v r => .scrK e c dd d z v (Reps.moreIo r)
  | _, _, .lst e b z r => .lst e b z (Reps.moreIo r)
  | _, _, .scr e z r => .scr e z (Reps.moreIo r)
  | _, _, .adr e => .adr (by rw [List.getElem?_append_left (List.getElem?_eq_some_iff.mp e).1]; exact e)
theorem Reps.moreIo {io2 : List Addr} : ∀ {vs : List V} {ds : List D}, Reps K H bar io vs ds → Reps K H bar (io ++ io2) vs ds
  | _, _, .nil => .nil
  | _, _, .cons r t => .cons (Rep.moreIo r) (Reps.moreIo t)
end
theorem RepK.moreIo {io2 : List Addr} : ∀ {vs : List (Key × V)} {ds : List (Key × D)}, RepK K H bar io vs ds → RepK K H bar (io ++ io2) vs ds
  | _, _, .nil => .nil
  | _, _, .cons r t => .cons (r.moreIo) (RepK.moreIo t)
end

/-! ### the list that is made -/
def LcI (K : PySem.W.Frag) (H0 : Hp) (b0 i0 : List Addr) (L : Addr) (H1 : Hp) (b1 i1 : List Addr) (σ : St) (ρ : Env) (H : Hp) (S : Store) (acc : List D) : Prop :=
  ∃ bar io vs, Ext H0 b0 i0 H bar io ∧ ExtW H1 b1 i1 H bar io ∧ Wd K H bar io σ ρ S ∧ L ∈ bar ∧ L ∉ io ∧ H L = some (.lst vs) ∧ Reps K H bar io vs acc ∧ vs.length ≤ sizeLine
section
variable {K : PySem.W.Frag} {H0 H1 H H' : Hp} {b0 i0 b1 i1 bar io bar' io' : List Addr} {L : Addr} {σ : St} {ρ : Env} {S S' : Store} {acc : List D} {vs : List V}
/-- an evaluation in the turn -/
theorem lc_step (h0 : Ext H0 b0 i0 H bar io) (h1 : ExtW H1 b1 i1 H bar io) (wd : Wd K H bar io σ ρ S) (db : L ∈ bar) (di : L ∉ io) (hL : H L = some (.lst vs)) (r : Reps K H bar io vs acc) (z : vs.length ≤ sizeLine)
    (x : Ext H bar io H' bar' io') (st : StRep K H' bar' io' S') :
    Ext H0 b0 i0 H' bar' io' ∧ ExtW H1 b1 i1 H' bar' io' ∧ Wd K H' bar' io' σ ρ S' ∧ L ∈ bar' ∧ L ∉ io' ∧ H' L = some (.lst vs) ∧ Reps K H' bar' io' vs acc ∧ vs.length ≤ sizeLine := by
  refine ⟨h0.trans x, h1.trans (x.weak wd.st.sub), wd.mono' x st, x.bi L db, fun hm => ?_, x.ke L _ hL di, r.mono x wd.st.live, z⟩
  obtain ⟨m, e, f⟩ := x.mo
  rw [e] at hm
  rcases List.mem_append.mp hm with q | q
  · exact di q
  · rw [f L q] at hL; cases hL
/-- an item more -/
theorem lc_snoc {y : V} {d : D} (hn : H0 L = none) (h0 : Ext H0 b0 i0 H bar io) (h1 : ExtW H1 b1 i1 H bar io) (wd : Wd K H bar io σ ρ S) (db : L ∈ bar) (di : L ∉ io) (hL : H L = some (.lst vs)) (r : Reps K H bar io vs acc)
    (q : Rep K H bar io y d) (z : vs.length < sizeLine) : LcI K H0 b0 i0 L H1 b1 i1 σ ρ (upd H L (.lst (vs ++ [y]))) S (acc ++ [d]) := by
  refine ⟨bar, io, vs ++ [y], ?_, h1.trans (ExtW.wrL db), ⟨wd.env.wrL db hL, wd.st.wrL db di hL⟩, db, di, upd_same, (r.append (.cons q .nil)).wrL db hL, by rw [List.length_append]; exact z⟩
  refine ⟨h0.mo, h0.bo, h0.bi, fun a o e n => ?_, fun a e => ?_⟩
  · rw [upd_ne (show a ≠ L from fun h => by rw [h, hn] at e; cases e)]; exact h0.ke a o e n
  · by_cases h : a = L
    · rw [h]; exact hn
    · rw [upd_ne h] at e; exact h0.al a e
/-- the loop's walk -/
theorem loop_W {J : It} {n : Nat} {Pv : Nat → Hp → Prop} {End : Hp → Prop} {Step : V → Hp → (Hp → Prop) → Prop} (h0 : Pv 0 H0) (hgo : ∀ i H, i < n → Pv i H → J.go i H ∧ ∀ x H', J.yld i H x H' → Step x H' (Pv (i + 1))) (hst : ∀ H, Pv n H → J.stop n H ∧ End H) :
    ∃ W : Nat → Nat → Hp → Prop, (∃ m, W 0 m H0) ∧ ∀ i m H, W i m H → (J.stop i H ∧ End H) ∨ (J.go i H ∧ ∃ Nx : Hp → Prop, (∀ H', Nx H' → ∃ m', m' < m ∧ W (i + 1) m' H') ∧ ∀ x H', J.yld i H x H' → Step x H' Nx) := by
  refine ⟨fun i m H => m = n - i ∧ i ≤ n ∧ Pv i H, ⟨n, rfl, Nat.zero_le _, h0⟩, ?_⟩
  rintro i m H ⟨rfl, hi, p⟩
  by_cases hlt : i < n
  · obtain ⟨g1, g2⟩ := hgo i H hlt p
    exact .inr ⟨g1, Pv (i + 1), fun H' p' => ⟨n - (i + 1), by omega, rfl, hlt, p'⟩, g2⟩
  · have e : i = n := by omega
    subst e
    exact .inl (hst H p)
theorem guard_ok {α : Type} {b : Bool} {r : R α} {d : α} {S : Store} (h : guardR b r = .ok d S) : b = true ∧ r = .ok d S := guardR_ok h
theorem lcLoop_cons {w : Ws} {turn : D → List D → Store → R (List D)} {d : D} {ds acc accF : List D} {S SF : Store} (h : lcLoop w turn (d :: ds) acc S = .ok accF SF) : w.ok S = true ∧ ∃ acc' S', turn d acc S = .ok acc' S' ∧ lcLoop w turn ds acc' S' = .ok accF SF := by
  unfold lcLoop at h
  obtain ⟨h1, h2⟩ := guardR_ok h
  refine ⟨h1, ?_⟩
  split at h2
  · rename_i acc' S' e
    exact ⟨acc', S', e, h2⟩
  · cases h2
theorem lcLoop_nil {w : Ws} {turn : D → List D → Store → R (List D)} {acc accF : List D} {S SF : Store} (h : lcLoop w turn [] acc S = .ok accF SF) : w.ok S = true ∧ acc = accF ∧ S = SF := by
  unfold lcLoop at h
  obtain ⟨h1, h2⟩ := guardR_ok h
  cases h2
  exact ⟨h1, rfl, rfl⟩
theorem lcLoop_noX {w : Ws} {turn : D → List D → Store → R (List D)} : ∀ (ds acc : List D) (S : Store), (lcLoop w turn ds acc S).noX
  | [], acc, S => by unfold lcLoop; exact noX_guard noX_ok
  | d :: ds, acc, S => by
    unfold lcLoop
    refine noX_guard ?_
    split
    · exact lcLoop_noX ds _ _
    · exact noX_stuck
end
/-- nothing breaks in a block -/
abbrev W0 : WX := fun _ _ _ _ => False
theorem tk0 {X : Cx} : Takes X W0 := takes0
theorem asgs_slots {t : T} {d : D} {ρ ρ' : Env} (h : asgT t d ρ = some ρ') : True := trivial

/-- the walk of a comprehension's loop -/
theorem comp_walk {K : PySem.W.Frag} {H0 H1 Hs : Hp} {b0 i0 b1 i1 : List Addr} {L : Addr} {σ : St} {ρ : Env} {w : Ws} {J : It} {turn : D → List D → Store → R (List D)} {Ss SF : Store} {accs accF : List D} {Step : V → Hp → (Hp → Prop) → Prop} {End : Hp → Prop}
    (hn : H0 L = none) (wk : WalkD K J w H1 b1 i1) (hs : LcI K H0 b0 i0 L H1 b1 i1 σ ρ Hs Ss accs) (he : lcLoop w turn w.ds accs Ss = .ok accF SF)
    (hstep : ∀ d acc S acc' S' x H bar io vs Nx, w.ok S = true → turn d acc S = .ok acc' S' → Rep K H bar io x d → Ext H0 b0 i0 H bar io → ExtW H1 b1 i1 H bar io → Wd K H bar io σ ρ S → L ∈ bar → L ∉ io → H L = some (.lst vs) → Reps K H bar io vs acc → vs.length ≤ sizeLine →
      (∀ H', LcI K H0 b0 i0 L H1 b1 i1 σ ρ H' S' acc' → Nx H') → Step x H Nx)
    (hend : ∀ H, LcI K H0 b0 i0 L H1 b1 i1 σ ρ H SF accF → End H) :
    ∃ W : Nat → Nat → Hp → Prop, (∃ m, W 0 m Hs) ∧ ∀ i m H, W i m H → (J.stop i H ∧ End H) ∨ (J.go i H ∧ ∃ Nx : Hp → Prop, (∀ H', Nx H' → ∃ m', m' < m ∧ W (i + 1) m' H') ∧ ∀ x H', J.yld i H x H' → Step x H' Nx) := by
  refine loop_W (n := w.ds.length) (Pv := fun i H => ∃ S acc, LcI K H0 b0 i0 L H1 b1 i1 σ ρ H S acc ∧ lcLoop w turn (w.ds.drop i) acc S = .ok accF SF) ⟨Ss, accs, hs, by simpa using he⟩ (fun i H hi p => ?_) fun H p => ?_
  · obtain ⟨S, acc, ⟨bar, io, vs, x0, x1, wd, db, di, hL, r, z⟩, hl⟩ := p
    have ed : w.ds.drop i = w.ds[i] :: w.ds.drop (i + 1) := by rw [List.drop_eq_getElem_cons hi]
    rw [ed] at hl
    obtain ⟨ok, acc', S', ht, hl⟩ := lcLoop_cons hl
    refine ⟨wk.go i H bar io S hi x1 wd.st ok, fun x H' y => ?_⟩
    obtain ⟨d, e, y1, y2, y3⟩ := wk.yld i H bar io S x H' hi x1 wd.st ok y
    have : d = w.ds[i] := by rw [List.getElem?_eq_getElem hi] at e; cases e; rfl
    subst this
    obtain ⟨g0, g1, g2, g3, g4, g5, g6, g7⟩ := lc_step x0 x1 wd db di hL r z y1 y2
    exact hstep _ acc S acc' S' x H' bar io vs _ ok ht y3 g0 g1 g2 g3 g4 g5 g6 g7 fun H2 h2 => ⟨S', acc', h2, hl⟩
  · obtain ⟨S, acc, hl0, hl⟩ := p
    rw [List.drop_length] at hl
    obtain ⟨ok, rfl, rfl⟩ := lcLoop_nil hl
    obtain ⟨bar, io, vs, x0, x1, wd, db, di, hL, r, z⟩ := id hl0
    exact ⟨wk.stop H bar io S x1 wd.st ok, hend H hl0⟩
section
variable {X : Cx} {W : WX}
/-- the end: the list is what it is -/
theorem comp_end {mu : Bool} {H0 H1 : Hp} {b0 i0 b1 i1 : List Addr} {L : Addr} {σ : St} {ρ : Env} {H : Hp} {SF : Store} {accF : List D} {Q : VK} {σ' : St} {ρ' : Env} {S0 : Store} (hn : H0 L = none) (wd0 : Wd X.K H0 b0 i0 σ' ρ' S0)
    (h : LcI X.K H0 b0 i0 L H1 b1 i1 σ ρ H SF accF) (q : Aft X.K X.mg (PRep X.K) H0 b0 i0 σ' ρ' W Q (endL mu accF SF)) : Q (.ref L) H := by
  obtain ⟨bar, io, vs, x0, x1, wd, db, di, hL, r, z⟩ := h
  have nb0 : L ∉ b0 := wd0.st.notBar hn
  cases mu with
  | false =>
    have hb : ∀ a ∈ bar.filter (· ≠ L), a ∈ bar := fun a ha => (List.mem_filter.mp ha).1
    have ni : L ∉ bar.filter (· ≠ L) := fun hm => by simpa using (List.mem_filter.mp hm).2
    have hio : ∀ a ∈ io, a ∈ bar.filter (· ≠ L) := fun a ha => List.mem_filter.mpr ⟨wd.st.sub a ha, by simp; exact fun e => di (e ▸ ha)⟩
    have x2 : Ext H0 b0 i0 H (bar.filter (· ≠ L)) io := ⟨x0.mo, fun p hp => x0.bo p (hb p hp), fun p hp => List.mem_filter.mpr ⟨x0.bi p hp, by simp; exact fun e => nb0 (e ▸ hp)⟩, x0.ke, x0.al⟩
    have st2 : StRep X.K H (bar.filter (· ≠ L)) io SF := wd.st.less hb hio
    exact q (.ref L) H _ io x2 (wd0.mono' x2 st2) (.lst hL ni z (r.less hb))
  | true =>
    have x2 : Ext H0 b0 i0 H bar (io ++ [L]) := by
      obtain ⟨m, e, f⟩ := x0.mo
      refine ⟨⟨m ++ [L], by rw [e, List.append_assoc], fun p hp => ?_⟩, x0.bo, x0.bi, x0.ke, x0.al⟩
      rcases List.mem_append.mp hp with h | h
      · exact f p h
      · rw [List.mem_singleton.mp h]; exact hn
    have st2 : StRep X.K H bar (io ++ [L]) (SF ++ [.lst accF]) := by
      refine ⟨by simp [wd.st.len], ?_, fun a ha => ?_, wd.st.bal, fun n c hc => ?_⟩
      · refine List.nodup_append.mpr ⟨wd.st.nd, List.nodup_cons.mpr ⟨by simp, List.nodup_nil⟩, fun a ha b hb e => ?_⟩
        have : b = L := by simpa using hb
        rw [e, this] at ha
        exact di ha
      · rcases List.mem_append.mp ha with h | h
        · exact wd.st.sub a h
        · rw [List.mem_singleton.mp h]; exact db
      · by_cases hl : n < SF.length
        · rw [List.getElem?_append_left hl] at hc
          obtain ⟨a, o, e1, e2, q⟩ := wd.st.cell n c hc
          refine ⟨a, o, by rw [List.getElem?_append_left (by rw [← wd.st.len]; exact hl)]; exact e1, e2, ?_⟩
          cases q with
          | lst z r => exact .lst z r.moreIo
          | dic z r => exact .dic z r.moreIo
        · have hl' : SF.length ≤ n := Nat.le_of_not_lt hl
          rw [List.getElem?_append_right hl'] at hc
          have e0 : n - SF.length = 0 := by
            by_cases z : n - SF.length = 0
            · exact z
            · rw [List.getElem?_eq_none (by simp; omega)] at hc; cases hc
          rw [e0] at hc
          have e : Cell.lst accF = c := by simpa using hc
          subst e
          refine ⟨L, _, ?_, hL, .lst z r.moreIo⟩
          rw [List.getElem?_append_right (by rw [← wd.st.len]; exact hl'), ← wd.st.len, e0]
          rfl
    refine q (.ref L) H _ _ x2 (wd0.mono' x2 st2) (.adr ?_)
    rw [wd.st.len, List.getElem?_append_right (Nat.le_refl _), Nat.sub_self]
    rfl
/-- the list as it starts -/
theorem comp_start {H0 : Hp} {b0 i0 : List Addr} {L : Addr} {σ : St} {ρ : Env} {S : Store} (hn : H0 L = none) (wd : Wd X.K H0 b0 i0 σ ρ S) : LcI X.K H0 b0 i0 L H0 b0 i0 σ ρ (upd H0 L (.lst [])) S [] := by
  have x1 : Ext H0 b0 i0 (upd H0 L (.lst [])) b0 i0 := Ext.new hn
  have x2 : Ext H0 b0 i0 (upd H0 L (.lst [])) (L :: b0) i0 := ⟨x1.mo, fun p hp => by
    rcases List.mem_cons.mp hp with e | h
    · exact .inr (e ▸ hn)
    · exact .inl h, fun p hp => List.mem_cons_of_mem _ hp, x1.ke, x1.al⟩
  have di : L ∉ i0 := fun hm => wd.st.notBar hn (wd.st.sub L hm)
  have st : StRep X.K (upd H0 L (.lst [])) (L :: b0) i0 S := wd.st.mono x2 (fun a ha => by rw [upd_ne (show a ≠ L from fun e => di (e ▸ ha))]) fun a ha => by
    by_cases e : a = L
    · rw [e, upd_same]; trivial
    · rw [upd_ne e]
      rcases List.mem_cons.mp ha with h | h
      · exact absurd h e
      · exact wd.st.bal a h
  exact ⟨L :: b0, i0, [], x2, x2.weak wd.st.sub, wd.mono' x2 st, List.mem_cons_self, di, upd_same, .nil, Nat.zero_le _⟩
end
end PX

/-! PX13: comprehensions as steps. -/
namespace PX
open PySem L2
/-- a turn with an element -/
def turnE (t : T) (vs : List Nat) (mc : Env → Store → R Bool) (me : Env → Store → R D) (ρ : Env) : D → List D → Store → R (List D) := fun d acc S => match asgT t d (wipeE ρ vs) with
  | some ρ1 => (mc ρ1 S).bind fun b S => match b with
    | true => (me ρ1 S).bind fun y S => guardR (decide (acc.length < sizeLine)) (.ok (acc ++ [y]) S)
    | false => .ok acc S
  | none => .stuck
theorem turnE_ok {t : T} {vs : List Nat} {mc : Env → Store → R Bool} {me : Env → Store → R D} {ρ : Env} {d : D} {acc acc' : List D} {S S' : Store} (h : turnE t vs mc me ρ d acc S = .ok acc' S') :
    ∃ ρ1 b S2, asgT t d (wipeE ρ vs) = some ρ1 ∧ mc ρ1 S = .ok b S2 ∧ match b with
      | true => ∃ y, me ρ1 S2 = .ok y S' ∧ acc.length < sizeLine ∧ acc' = acc ++ [y]
      | false => acc' = acc ∧ S' = S2 := by
  unfold turnE at h
  split at h
  · rename_i ρ1 e
    obtain ⟨b, S2, e2, h⟩ := R.bind_eq_ok h
    refine ⟨ρ1, b, S2, e, e2, ?_⟩
    cases b with
    | true =>
      obtain ⟨y, S3, e3, h⟩ := R.bind_eq_ok h
      obtain ⟨g, h⟩ := guardR_ok h
      cases h
      exact ⟨y, e3, of_decide_eq_true g, rfl⟩
    | false => cases h; exact ⟨rfl, rfl⟩
  · cases h
section
variable {K : PySem.W.Frag} {mg : Str → Option Value} {H0 H1 : Hp} {b0 i0 b1 i1 : List Addr} {L : Addr} {σ : St} {ρ : Env}
theorem lc_turn {t : T} {vs : List Nat} {mc : Env → Store → R Bool} {me : Env → Store → R D} {d : D} {acc acc' : List D} {S S' : Store} {x : V} {H : Hp} {bar io : List Addr} {us : List V} {Nx : Hp → Prop} (hn : H0 L = none) (ts : ∀ i ∈ t.slots, i ∈ vs)
    (ht : turnE t vs mc me ρ d acc S = .ok acc' S') (rx : Rep K H bar io x d) (x0 : Ext H0 b0 i0 H bar io) (x1 : ExtW H1 b1 i1 H bar io) (wd : Wd K H bar io σ ρ S) (db : L ∈ bar) (di : L ∉ io) (hL : H L = some (.lst us)) (r : Reps K H bar io us acc) (z : us.length ≤ sizeLine)
    (nx : ∀ H', LcI K H0 b0 i0 L H1 b1 i1 σ ρ H' S' acc' → Nx H') :
    gD K t x (wipe σ vs) H fun σ2 H2 => wipe σ2 vs = wipe σ vs ∧ tQ K mg mc W0 σ2 H2 fun b H3 =>
      if b = true then tE K mg me W0 σ2 H3 fun y H4 => ∃ acc, H4 L = some (.lst acc) ∧ acc.length < sizeLine ∧ Nx (upd H4 L (.lst (acc ++ [y]))) else Nx H3 := by
  obtain ⟨ρ1, b, S2, e1, e2, hb⟩ := turnE_ok ht
  refine ⟨bar, io, wipeE ρ vs, S, d, ρ1, ⟨wd.env.wipe vs, wd.st⟩, rx, e1, fun σ2 wd2 hw => ⟨?_, ?_⟩⟩
  · rw [hw vs ts]; exact wipe_wipe σ fun _ h => h
  · refine ⟨bar, io, ρ1, S, wd2, ?_⟩
    rw [e2]
    intro b' H2 bar2 io2 y2 w2 eb
    subst eb
    obtain ⟨g0, g1, g2, g3, g4, g5, g6, g7⟩ := lc_step x0 x1 wd db di hL r z y2 w2.st
    cases b' with
    | false =>
      obtain ⟨rfl, rfl⟩ := hb
      rw [if_neg (by decide)]
      exact nx H2 ⟨bar2, io2, us, g0, g1, g2, g3, g4, g5, g6, g7⟩
    | true =>
      obtain ⟨y, e3, hlt, rfl⟩ := hb
      rw [if_pos rfl]
      refine ⟨bar2, io2, ρ1, S2, w2, ?_⟩
      rw [e3]
      intro v H3 bar3 io3 y3 w3 rv
      obtain ⟨k0, k1, k2, k3, k4, k5, k6, k7⟩ := lc_step g0 g1 g2 g3 g4 g5 g6 g7 y3 w3.st
      have hz : us.length < sizeLine := by rw [r.length]; exact hlt
      exact ⟨us, k5, hz, nx _ (lc_snoc hn k0 k1 k2 k3 k4 k5 k6 rv hz)⟩
/-- a turn with a loop of its own -/
def turnI (t : T) (vs : List Nat) (mc : Env → Store → R Bool) (mi : Env → Store → R Ws) (turn : Env → D → List D → Store → R (List D)) (ρ : Env) : D → List D → Store → R (List D) := fun d acc S => match asgT t d (wipeE ρ vs) with
  | some ρ1 => (mc ρ1 S).bind fun b S => match b with
    | true => (mi ρ1 S).bind fun w1 S => lcLoop w1 (turn ρ1) w1.ds acc S
    | false => .ok acc S
  | none => .stuck
theorem turnI_ok {t : T} {vs : List Nat} {mc : Env → Store → R Bool} {mi : Env → Store → R Ws} {turn : Env → D → List D → Store → R (List D)} {ρ : Env} {d : D} {acc acc' : List D} {S S' : Store} (h : turnI t vs mc mi turn ρ d acc S = .ok acc' S') :
    ∃ ρ1 b S2, asgT t d (wipeE ρ vs) = some ρ1 ∧ mc ρ1 S = .ok b S2 ∧ match b with
      | true => ∃ w1 S3, mi ρ1 S2 = .ok w1 S3 ∧ lcLoop w1 (turn ρ1) w1.ds acc S3 = .ok acc' S'
      | false => acc' = acc ∧ S' = S2 := by
  unfold turnI at h
  split at h
  · rename_i ρ1 e
    obtain ⟨b, S2, e2, h⟩ := R.bind_eq_ok h
    refine ⟨ρ1, b, S2, e, e2, ?_⟩
    cases b with
    | true =>
      obtain ⟨w1, S3, e3, h⟩ := R.bind_eq_ok h
      exact ⟨w1, S3, e3, h⟩
    | false => cases h; exact ⟨rfl, rfl⟩
  · cases h
theorem lc_turn2 {t t1 : T} {vs vs1 : List Nat} {mc mc1 : Env → Store → R Bool} {mi1 : Env → Store → R Ws} {me : Env → Store → R D} {d : D} {acc acc' : List D} {S S' : Store} {x : V} {H : Hp} {bar io : List Addr} {us : List V} {Nx : Hp → Prop} (hn : H0 L = none) (ts : ∀ i ∈ t.slots, i ∈ vs) (ts1 : ∀ i ∈ t1.slots, i ∈ vs1)
    (ht : turnI t vs mc mi1 (turnE t1 vs1 mc1 me) ρ d acc S = .ok acc' S') (rx : Rep K H bar io x d) (x0 : Ext H0 b0 i0 H bar io) (x1 : ExtW H1 b1 i1 H bar io) (wd : Wd K H bar io σ ρ S) (db : L ∈ bar) (di : L ∉ io) (hL : H L = some (.lst us)) (r : Reps K H bar io us acc) (z : us.length ≤ sizeLine)
    (nx : ∀ H', LcI K H0 b0 i0 L H1 b1 i1 σ ρ H' S' acc' → Nx H') :
    gD K t x (wipe σ vs) H fun σ2 H2 => wipe σ2 vs = wipe σ vs ∧ tQ K mg mc W0 σ2 H2 fun b H3 =>
      if b = true then iD K mg mi1 W0 σ2 H3 fun J1 H4 => ∃ W1 : Nat → Nat → Hp → Prop, (∃ m, W1 0 m H4) ∧ ∀ j k H, W1 j k H →
        (J1.stop j H ∧ Nx H) ∨ (J1.go j H ∧ ∃ Nx1 : Hp → Prop, (∀ H', Nx1 H' → ∃ k', k' < k ∧ W1 (j + 1) k' H') ∧ ∀ x H', J1.yld j H x H' → gD K t1 x (wipe σ2 vs1) H' fun σ3 H5 => wipe σ3 vs1 = wipe σ2 vs1 ∧ tQ K mg mc1 W0 σ3 H5 fun b H6 =>
          if b = true then tE K mg me W0 σ3 H6 fun y H7 => ∃ acc, H7 L = some (.lst acc) ∧ acc.length < sizeLine ∧ Nx1 (upd H7 L (.lst (acc ++ [y]))) else Nx1 H6)
      else Nx H3 := by
  obtain ⟨ρ1, b, S2, e1, e2, hb⟩ := turnI_ok ht
  refine ⟨bar, io, wipeE ρ vs, S, d, ρ1, ⟨wd.env.wipe vs, wd.st⟩, rx, e1, fun σ2 wd2 hw => ⟨?_, ?_⟩⟩
  · rw [hw vs ts]; exact wipe_wipe σ fun _ h => h
  · refine ⟨bar, io, ρ1, S, wd2, ?_⟩
    rw [e2]
    intro b' H2 bar2 io2 y2 w2 eb
    subst eb
    obtain ⟨g0, g1, g2, g3, g4, g5, g6, g7⟩ := lc_step x0 x1 wd db di hL r z y2 w2.st
    cases b' with
    | false =>
      obtain ⟨rfl, rfl⟩ := hb
      rw [if_neg (by decide)]
      exact nx H2 ⟨bar2, io2, us, g0, g1, g2, g3, g4, g5, g6, g7⟩
    | true =>
      obtain ⟨w1, S3, e3, hl⟩ := hb
      rw [if_pos rfl]
      refine ⟨bar2, io2, ρ1, S2, w2, ?_⟩
      rw [e3]
      intro J1 H4 bar4 io4 y4 w4 wk1
      obtain ⟨k0, k1, k2, k3, k4, k5, k6, k7⟩ := lc_step g0 g1 g2 g3 g4 g5 g6 g7 y4 w4.st
      have start : LcI K H0 b0 i0 L H4 bar4 io4 σ2 ρ1 H4 S3 acc := ⟨bar4, io4, us, k0, ExtW.refl, w4, k3, k4, k5, k6, k7⟩
      refine comp_walk (Step := fun x H' Nx1 => gD K t1 x (wipe σ2 vs1) H' fun σ3 H5 => wipe σ3 vs1 = wipe σ2 vs1 ∧ tQ K mg mc1 W0 σ3 H5 fun b H6 =>
          if b = true then tE K mg me W0 σ3 H6 fun y H7 => ∃ acc, H7 L = some (.lst acc) ∧ acc.length < sizeLine ∧ Nx1 (upd H7 L (.lst (acc ++ [y]))) else Nx1 H6)
        hn wk1 start hl (fun d acc S acc' S' x H bar io vs Nx ok h1 h2 h3 h4 h5 h6 h7 h8 h9 h10 h11 => lc_turn hn ts1 h1 h2 h3 h4 h5 h6 h7 h8 h9 h10 h11) fun H hI => ?_
      obtain ⟨bar5, io5, us5, q0, q1, q2, q3, q4, q5, q6, q7⟩ := hI
      exact nx H ⟨bar5, io5, us5, q0, k1.trans q1, ⟨k2.env.monoW q1 w4.st.bal, q2.st⟩, q3, q4, q5, q6, q7⟩
theorem Aft.bindI {β γ : Type} {P : Hp → List Addr → List Addr → β → γ → Prop} {W : WX} {H : Hp} {bar io : List Addr} {Q : β → Hp → Prop} {S : Store} {mi : Env → Store → R Ws} {f : Ws → Store → R γ} {R' : It → Hp → Prop} (wd : Wd K H bar io σ ρ S) (h : Aft K mg P H bar io σ ρ W Q ((mi ρ S).bind f))
    (k : ∀ w S1 J H1 bar1 io1, mi ρ S = .ok w S1 → Ext H bar io H1 bar1 io1 → Wd K H1 bar1 io1 σ ρ S1 → WalkD K J w H1 bar1 io1 → Aft K mg P H1 bar1 io1 σ ρ W Q (f w S1) → R' J H1) : iD K mg mi W σ H R' := by
  refine ⟨bar, io, ρ, S, wd, ?_⟩
  cases e : mi ρ S with
  | ok w S1 =>
    rw [e] at h
    exact fun J H1 bar1 io1 x wd1 wk => k w S1 J H1 bar1 io1 e x wd1 wk (Aft.mono x h)
  | exc c S1 => rw [e] at h; exact h
  | stuck => rw [e] at h; exact h
end
section
variable {X : Cx} {W : WX} {elt tg iter tg1 iter1 : Expr} {ifs ifs1 : List Expr} {scope : Scope} {own : List (Str × Nat)} {pos : Pos} {t t1 : T} {mi mi1 : Env → Store → R Ws} {mc mc1 : Env → Store → R Bool} {me : Env → Store → R D}
theorem lc_read {mu : Bool} (ts : ∀ i ∈ t.slots, i ∈ own.map (·.2)) {σ : St} {H : Hp} {Q : VK} (h : tE X.K X.mg (fun ρ S => (mi ρ S).bind fun w S => (lcLoop w (turnE t (own.map (·.2)) mc me ρ) w.ds [] S).bind fun acc S => endL mu acc S) W σ H Q) :
    tLc (iD X.K X.mg mi W) (gD X.K t) (tQ X.K X.mg mc W0) (tE X.K X.mg me W0) (own.map (·.2)) σ H Q := by
  obtain ⟨bar, io, ρ, S, wd, h⟩ := h
  refine Aft.bindI wd h fun w S1 J H1 bar1 io1 e x wd1 wk h1 L hn => ?_
  obtain ⟨accF, SF, el, q⟩ : ∃ accF SF, lcLoop w (turnE t (own.map (·.2)) mc me ρ) w.ds [] S1 = .ok accF SF ∧ Aft X.K X.mg (PRep X.K) H1 bar1 io1 σ ρ W Q (endL mu accF SF) := by
    cases el : lcLoop w (turnE t (own.map (·.2)) mc me ρ) w.ds [] S1 with
    | ok accF SF => rw [el] at h1; exact ⟨accF, SF, rfl, h1⟩
    | exc c SF => exact absurd el (lcLoop_noX _ _ _ c SF)
    | stuck => rw [el] at h1; exact h1.elim
  exact comp_walk (Step := fun x H' Nx => gD X.K t x (wipe σ (own.map (·.2))) H' fun σ2 H2 => wipe σ2 (own.map (·.2)) = wipe σ (own.map (·.2)) ∧ tQ X.K X.mg mc W0 σ2 H2 fun b H3 =>
      if b = true then tE X.K X.mg me W0 σ2 H3 fun y H4 => ∃ acc, H4 L = some (.lst acc) ∧ acc.length < sizeLine ∧ Nx (upd H4 L (.lst (acc ++ [y]))) else Nx H3)
    hn wk (comp_start hn wd1) el (fun d acc S acc' S' x H bar io vs Nx ok h1 h2 h3 h4 h5 h6 h7 h8 h9 h10 h11 => lc_turn hn ts h1 h2 h3 h4 h5 h6 h7 h8 h9 h10 h11) fun H hI => comp_end hn wd1 hI q
theorem lc2_read {mu : Bool} {vs1 : List Nat} (ts : ∀ i ∈ t.slots, i ∈ own.map (·.2)) (ts1 : ∀ i ∈ t1.slots, i ∈ vs1) {σ : St} {H : Hp} {Q : VK} (h : tE X.K X.mg (fun ρ S => (mi ρ S).bind fun w S => (lcLoop w (turnI t (own.map (·.2)) mc mi1 (turnE t1 vs1 mc1 me) ρ) w.ds [] S).bind fun acc S => endL mu acc S) W σ H Q) :
    tLc2 (iD X.K X.mg mi W) (gD X.K t) (tQ X.K X.mg mc W0) (iD X.K X.mg mi1 W0) (gD X.K t1) (tQ X.K X.mg mc1 W0) (tE X.K X.mg me W0) (own.map (·.2)) vs1 σ H Q := by
  obtain ⟨bar, io, ρ, S, wd, h⟩ := h
  refine Aft.bindI wd h fun w S1 J H1 bar1 io1 e x wd1 wk h1 L hn => ?_
  obtain ⟨accF, SF, el, q⟩ : ∃ accF SF, lcLoop w (turnI t (own.map (·.2)) mc mi1 (turnE t1 vs1 mc1 me) ρ) w.ds [] S1 = .ok accF SF ∧ Aft X.K X.mg (PRep X.K) H1 bar1 io1 σ ρ W Q (endL mu accF SF) := by
    cases el : lcLoop w (turnI t (own.map (·.2)) mc mi1 (turnE t1 vs1 mc1 me) ρ) w.ds [] S1 with
    | ok accF SF => rw [el] at h1; exact ⟨accF, SF, rfl, h1⟩
    | exc c SF => exact absurd el (lcLoop_noX _ _ _ c SF)
    | stuck => rw [el] at h1; exact h1.elim
  exact comp_walk (Step := fun x H' Nx => gD X.K t x (wipe σ (own.map (·.2))) H' fun σ2 H2 => wipe σ2 (own.map (·.2)) = wipe σ (own.map (·.2)) ∧ tQ X.K X.mg mc W0 σ2 H2 fun b H3 =>
      if b = true then iD X.K X.mg mi1 W0 σ2 H3 fun J1 H4 => ∃ W1 : Nat → Nat → Hp → Prop, (∃ m, W1 0 m H4) ∧ ∀ j k H, W1 j k H →
        (J1.stop j H ∧ Nx H) ∨ (J1.go j H ∧ ∃ Nx1 : Hp → Prop, (∀ H', Nx1 H' → ∃ k', k' < k ∧ W1 (j + 1) k' H') ∧ ∀ x H', J1.yld j H x H' → gD X.K t1 x (wipe σ2 vs1) H' fun σ3 H5 => wipe σ3 vs1 = wipe σ2 vs1 ∧ tQ X.K X.mg mc1 W0 σ3 H5 fun b H6 =>
          if b = true then tE X.K X.mg me W0 σ3 H6 fun y H7 => ∃ acc, H7 L = some (.lst acc) ∧ acc.length < sizeLine ∧ Nx1 (upd H7 L (.lst (acc ++ [y]))) else Nx1 H6)
      else Nx H3)
    hn wk (comp_start hn wd1) el (fun d acc S acc' S' x H bar io vs Nx ok h1 h2 h3 h4 h5 h6 h7 h8 h9 h10 h11 => lc_turn2 hn ts ts1 h1 h2 h3 h4 h5 h6 h7 h8 h9 h10 h11) fun H hI => comp_end hn wd1 hI q
theorem x_lc {mu : Bool} {vs : List Nat} (hc : X.calm = true) (hN : X.N.Nodup) (hi : XI X W tg iter mi) (ok : BlkOk X.N X.env.scope scope own) (hv : own.map (·.2) = vs) (ts : ∀ i ∈ t.slots, i ∈ vs)
    (hg : ∀ (s : Shared) (H : Hp) (C : Addr) (cl : List (Str × Addr)) (fp : List Addr), PG (X.blk s H scope (compEnvC scope cl C X.env) fp) tg (gD X.K t))
    (ht : ∀ (s : Shared) (H : Hp) (C : Addr) (cl : List (Str × Addr)) (fp : List Addr), PTs (X.blk s H scope (compEnvC scope cl C X.env) fp) ifs (tQ X.K X.mg mc W0))
    (he : ∀ (s : Shared) (H : Hp) (C : Addr) (cl : List (Str × Addr)) (fp : List Addr), XE' (X.blk s H scope (compEnvC scope cl C X.env) fp) W0 elt me) (hs : ∀ x, foldedSetIterable iter X.env x = pure x) :
    XE' X W (.ListComp elt [⟨tg, iter, ifs, 0⟩] scope pos) (fun ρ S => (mi ρ S).bind fun w S => (lcLoop w (turnE t vs mc me ρ) w.ds [] S).bind fun acc S => endL mu acc S) := by
  subst hv
  exact (pe_lc (te := tE X.K X.mg me W0) hc hN hi ok hg ht he hs).imp fun σ H Q h => lc_read ts h
theorem x_lc2 {mu : Bool} {vs vs1 : List Nat} (hc : X.calm = true) (hN : X.N.Nodup) (hi : XI X W tg iter mi) (ok : BlkOk X.N X.env.scope scope own) (hv : own.map (·.2) = vs) (ts : ∀ i ∈ t.slots, i ∈ vs) (ts1 : ∀ i ∈ t1.slots, i ∈ vs1) (hv1 : ∀ i ∈ vs1, i ∈ vs)
    (hg : ∀ (s : Shared) (H : Hp) (C : Addr) (cl : List (Str × Addr)) (fp : List Addr), PG (X.blk s H scope (compEnvC scope cl C X.env) fp) tg (gD X.K t))
    (ht : ∀ (s : Shared) (H : Hp) (C : Addr) (cl : List (Str × Addr)) (fp : List Addr), PTs (X.blk s H scope (compEnvC scope cl C X.env) fp) ifs (tQ X.K X.mg mc W0))
    (hi1 : ∀ (s : Shared) (H : Hp) (C : Addr) (cl : List (Str × Addr)) (fp : List Addr), XI (X.blk s H scope (compEnvC scope cl C X.env) fp) W0 tg1 iter1 mi1)
    (hg1 : ∀ (s : Shared) (H : Hp) (C : Addr) (cl : List (Str × Addr)) (fp : List Addr), PG (X.blk s H scope (compEnvC scope cl C X.env) fp) tg1 (gD X.K t1))
    (ht1 : ∀ (s : Shared) (H : Hp) (C : Addr) (cl : List (Str × Addr)) (fp : List Addr), PTs (X.blk s H scope (compEnvC scope cl C X.env) fp) ifs1 (tQ X.K X.mg mc1 W0))
    (he : ∀ (s : Shared) (H : Hp) (C : Addr) (cl : List (Str × Addr)) (fp : List Addr), XE' (X.blk s H scope (compEnvC scope cl C X.env) fp) W0 elt me) (hs : ∀ x, foldedSetIterable iter X.env x = pure x) (hs1 : ∀ env x, foldedSetIterable iter1 env x = pure x) :
    XE' X W (.ListComp elt [⟨tg, iter, ifs, 0⟩, ⟨tg1, iter1, ifs1, 0⟩] scope pos) (fun ρ S => (mi ρ S).bind fun w S => (lcLoop w (turnI t vs mc mi1 (turnE t1 vs1 mc1 me) ρ) w.ds [] S).bind fun acc S => endL mu acc S) := by
  subst hv
  exact (pe_lc2 (te := tE X.K X.mg me W0) (wi1 := iD X.K X.mg mi1 W0) hc hN hi ok hv1 hg ht hi1 hg1 ht1 he hs hs1).imp fun σ H Q h => lc2_read ts ts1 h
/-- a clause's tests -/
theorem c_none {X : Cx} : PTs X [] (tQ X.K X.mg (evC .none) W0) := pts_nil.imp fun σ H Q ⟨bar, io, ρ, S, wd, h⟩ => Aft.now (b := true) h wd rfl
theorem c_some {X : Cx} {c : Expr} {m : Env → Store → R D} (h : XT X W0 c m) : PTs X [c] (tQ X.K X.mg (fun ρ S => (m ρ S).bind fun d S => optR (truthy S d) S) W0) := pts_one h
end
end PX

/-! PX14: statements. -/
namespace PX
open PySem L2
section
variable (K : PySem.W.Frag) (mg : Str → Option Value)
/-- what has to hold behind a statement -/
def AftS (H : Hp) (bar io : List Addr) (W : WX) (E : Ends) : RS → Prop
  | .fl .next ρ' S' => ∀ σ' H' bar' io', Ext H bar io H' bar' io' → Wd K H' bar' io' σ' ρ' S' → E.nx σ' H'
  | .fl .brk ρ' S' => ∀ σ' H' bar' io', Ext H bar io H' bar' io' → Wd K H' bar' io' σ' ρ' S' → E.bk σ' H'
  | .fl .cont ρ' S' => ∀ σ' H' bar' io', Ext H bar io H' bar' io' → Wd K H' bar' io' σ' ρ' S' → E.ct σ' H'
  | .fl (.ret d) _ S' => ∀ v H' bar' io', Ext H bar io H' bar' io' → StRep K H' bar' io' S' → Rep K H' bar' io' v d → E.rt v H'
  | .exc c ρ' S' => ∀ σ' H' bar' io' C, Ext H bar io H' bar' io' → Wd K H' bar' io' σ' ρ' S' → mg c = some (.ref C) → W (.ref C) none σ' H'
  | .stuck => False
def tS (m : Env → Store → RS) (W : WX) : TS := fun E σ H => ∃ bar io ρ S, Wd K H bar io σ ρ S ∧ AftS K mg H bar io W E (m ρ S)
end
section
variable {K : PySem.W.Frag} {mg : Str → Option Value} {H H1 : Hp} {bar io bar1 io1 : List Addr} {σ : St} {ρ : Env} {W : WX} {E : Ends}
theorem AftS.mono {r : RS} (x : Ext H bar io H1 bar1 io1) (h : AftS K mg H bar io W E r) : AftS K mg H1 bar1 io1 W E r := by
  cases r with
  | fl f ρ S =>
    cases f with
    | next => exact fun σ' H' bar' io' y w => h σ' H' bar' io' (x.trans y) w
    | brk => exact fun σ' H' bar' io' y w => h σ' H' bar' io' (x.trans y) w
    | cont => exact fun σ' H' bar' io' y w => h σ' H' bar' io' (x.trans y) w
    | ret d => exact fun v H' bar' io' y w r => h v H' bar' io' (x.trans y) w r
  | exc c ρ S => exact fun σ' H' bar' io' C y w e => h σ' H' bar' io' C (x.trans y) w e
  | stuck => exact h
/-- a value ahead of the rest -/
theorem AftS.then {α β : Type} {P : Hp → List Addr → List Addr → β → α → Prop} {r : R α} {f : α → Store → RS} (h : AftS K mg H bar io W E (r.then ρ f)) :
    Aft K mg P H bar io σ ρ W (fun b H1 => ∃ bar1 io1 S1 a, Ext H bar io H1 bar1 io1 ∧ Wd K H1 bar1 io1 σ ρ S1 ∧ P H1 bar1 io1 b a ∧ r = .ok a S1 ∧ AftS K mg H1 bar1 io1 W E (f a S1)) r := by
  cases r with
  | ok a S => exact fun b H' bar' io' x w p => ⟨bar', io', S, a, x, w, p, rfl, AftS.mono x h⟩
  | exc c S => exact fun H' bar' io' C x w e => h σ H' bar' io' C x w e
  | stuck => exact h
theorem AftS.nextNow {S : Store} (h : AftS K mg H bar io W E (.fl .next ρ S)) (w : Wd K H bar io σ ρ S) : E.nx σ H := h σ H bar io Ext.refl w
end
section
variable {X : Cx} {W : WX}
abbrev XS (X : Cx) (W : WX) (st : Stmt) (m : Env → Store → RS) : Prop := PS X st (tS X.K X.mg m W)
abbrev XB (X : Cx) (W : WX) (st : List Stmt) (m : Env → Store → RS) : Prop := PSs X st (tS X.K X.mg m W)
variable {a b c e tg : Expr} {ma mb mc me : Env → Store → R D} {mi : Env → Store → R Ws} {m1 m2 : Env → Store → RS} {st : Stmt} {rest xs ys : List Stmt} {pos : Pos} {t : T}
theorem s_nil : XB X W [] (fun ρ S => .fl .next ρ S) := pss_nil.imp fun E σ H ⟨bar, io, ρ, S, wd, h⟩ => h.nextNow wd
theorem s_cons (h1 : XS X W st m1) (h2 : XB X W rest m2) : XB X W (st :: rest) (fun ρ S => match m1 ρ S with
    | .fl .next ρ' S' => m2 ρ' S'
    | q => q) := by
  refine (pss_cons h1 h2).imp fun E σ H ⟨bar, io, ρ, S, wd, h⟩ => ⟨bar, io, ρ, S, wd, ?_⟩
  dsimp only at h
  cases e : m1 ρ S with
  | fl f ρ' S' =>
    rw [e] at h
    cases f with
    | next => exact fun σ' H' bar' io' x w => ⟨bar', io', ρ', S', w, AftS.mono x h⟩
    | brk => exact h
    | cont => exact h
    | ret d => exact h
  | exc c ρ' S' => rw [e] at h; exact h
  | stuck => rw [e] at h; exact h
/-- a target takes the value -/
theorem asg_read {E : Ends} {σ : St} {H : Hp} {bar io : List Addr} {ρ : Env} {S : Store} (wd : Wd X.K H bar io σ ρ S) (h : AftS X.K X.mg H bar io W E ((ma ρ S).then ρ fun d S => match asgT t d ρ with
      | some ρ1 => .fl .next ρ1 S
      | none => .stuck)) : tAsg (tE X.K X.mg ma W) (gD X.K t) E σ H := by
  refine ⟨bar, io, ρ, S, wd, (AftS.then (P := PRep X.K) h).imp fun x H1 ⟨bar1, io1, S1, d1, x1, wd1, r1, _, h1⟩ => ?_⟩
  split at h1
  · rename_i ρ1 e
    exact ⟨bar1, io1, ρ, S1, d1, ρ1, wd1, r1, e, fun σ' w _ => h1.nextNow w⟩
  · exact h1.elim
theorem s_asg (ha : XE' X W a ma) (hg : PG X tg (gD X.K t)) (hs : swapsWithSole [tg] a pos.line X.env = pure false) (hw : swappedStores [tg] a X.env = pure none) (h1 : (assignEach [tg] X.env).map (·.2) = [assign tg X.env]) :
    XS X W (.Assign [tg] a pos) (fun ρ S => (ma ρ S).then ρ fun d S => match asgT t d ρ with
      | some ρ1 => .fl .next ρ1 S
      | none => .stuck) :=
  (ps_asg ha hg hs hw h1).imp fun E σ H ⟨bar, io, ρ, S, wd, h⟩ => asg_read wd h
theorem s_par2 {i j : Nat} {x y : Str} {px py pt : Pos} {kt k2 : Nat} {pt2 : Pos} (hc : X.calm = true) (hN : X.N.Nodup) (hi : X.N[i]? = some x) (hj : X.N[j]? = some y) (hij : i ≠ j)
    (hx : X.env.scope.names.lookup x = some .local) (hy : X.env.scope.names.lookup y = some .local) (ha : XE' X W a ma) (hb : XE' X W b mb) (hs1 : starEach [a, b] X.env = (false, eval a X.env) :: starEach [b] X.env) (hs2 : starEach [b] X.env = [(false, eval b X.env)])
    (hw : swappedStores [.Tuple [.Name x px, .Name y py] kt pt] (.Tuple [a, b] k2 pt2) X.env = pure (some [x, y])) :
    XS X W (.Assign [.Tuple [.Name x px, .Name y py] kt pt] (.Tuple [a, b] k2 pt2) pos) (fun ρ S => (ma ρ S).then ρ fun x S => (mb ρ S).then ρ fun y S => .fl .next ((ρ.set i (some x)).set j (some y)) S) := by
  have hA : PA X [a, b] (tCons (tE X.K X.mg ma W) (tCons (tE X.K X.mg mb W) tNil)) := pa_cons ha (pa_cons hb pa_nil (by rw [hs2]; rfl)) hs1
  refine (ps_par hc hN hi hj hij hx hy hA hw).imp fun E σ H ⟨bar, io, ρ, S, wd, h⟩ => ?_
  refine ⟨bar, io, ρ, S, wd, (AftS.then (P := PRep X.K) h).imp fun x H1 ⟨bar1, io1, S1, d1, x1, wd1, r1, _, h1⟩ => ?_⟩
  refine ⟨bar1, io1, ρ, S1, wd1, (AftS.then (P := PRep X.K) h1).imp fun y H2 ⟨bar2, io2, S2, d2, x2, wd2, r2, _, h2⟩ => ?_⟩
  exact ⟨x, y, rfl, h2.nextNow ⟨(wd2.env.set (r1.mono x2 wd1.st.live) i).set r2 j, wd2.st⟩⟩
theorem s_par3 {i j k : Nat} {x y z : Str} {px py pz pt : Pos} {kt k2 : Nat} {pt2 : Pos} (hc : X.calm = true) (hN : X.N.Nodup) (hi : X.N[i]? = some x) (hj : X.N[j]? = some y) (hk : X.N[k]? = some z) (hij : i ≠ j) (hik : i ≠ k) (hjk : j ≠ k)
    (hx : X.env.scope.names.lookup x = some .local) (hy : X.env.scope.names.lookup y = some .local) (hz : X.env.scope.names.lookup z = some .local) (ha : XE' X W a ma) (hb : XE' X W b mb) (hcc : XE' X W c mc)
    (hs1 : starEach [a, b, c] X.env = (false, eval a X.env) :: starEach [b, c] X.env) (hs2 : starEach [b, c] X.env = (false, eval b X.env) :: starEach [c] X.env) (hs3 : starEach [c] X.env = [(false, eval c X.env)])
    (hw : swappedStores [.Tuple [.Name x px, .Name y py, .Name z pz] kt pt] (.Tuple [a, b, c] k2 pt2) X.env = pure (some [x, y, z])) :
    XS X W (.Assign [.Tuple [.Name x px, .Name y py, .Name z pz] kt pt] (.Tuple [a, b, c] k2 pt2) pos) (fun ρ S => (ma ρ S).then ρ fun x S => (mb ρ S).then ρ fun y S => (mc ρ S).then ρ fun z S => .fl .next (((ρ.set i (some x)).set j (some y)).set k (some z)) S) := by
  have hA : PA X [a, b, c] (tCons (tE X.K X.mg ma W) (tCons (tE X.K X.mg mb W) (tCons (tE X.K X.mg mc W) tNil))) := pa_cons ha (pa_cons hb (pa_cons hcc pa_nil (by rw [hs3]; rfl)) hs2) hs1
  refine (ps_par3 hc hN hi hj hk hij hik hjk hx hy hz hA hw).imp fun E σ H ⟨bar, io, ρ, S, wd, h⟩ => ?_
  refine ⟨bar, io, ρ, S, wd, (AftS.then (P := PRep X.K) h).imp fun x H1 ⟨bar1, io1, S1, d1, x1, wd1, r1, _, h1⟩ => ?_⟩
  refine ⟨bar1, io1, ρ, S1, wd1, (AftS.then (P := PRep X.K) h1).imp fun y H2 ⟨bar2, io2, S2, d2, x2, wd2, r2, _, h2⟩ => ?_⟩
  refine ⟨bar2, io2, ρ, S2, wd2, (AftS.then (P := PRep X.K) h2).imp fun z H3 ⟨bar3, io3, S3, d3, x3, wd3, r3, _, h3⟩ => ?_⟩
  exact ⟨x, y, z, rfl, h3.nextNow ⟨((wd3.env.set ((r1.mono x2 wd1.st.live).mono x3 wd2.st.live) i).set (r2.mono x3 wd2.st.live) j).set r3 k, wd3.st⟩⟩
theorem s_aug {i : Nat} {x : Str} {px : Pos} (o : BO) (ho : o = .add ∨ o = .sub) (hN : X.N.Nodup) (h : Sto X i x) (ha : XE' X W a ma) : XS X W (.AugAssign (.Name x px) (opOf o) a pos) (fun ρ S => match ρ[i]? with
    | some (some x) => (ma ρ S).then ρ fun y S => (match x, y with
      | .int _, .int _ => binV o S x y
      | _, _ => .stuck).then ρ fun z S => .fl .next (ρ.set i (some z)) S
    | _ => .stuck) := by
  have key : ∀ {f : Int → Int → Int}, PIp X (opOf o) (ipI f) → (∀ S i j, binV o S (.int i) (.int j) = .ok (.int (f i j)) S) → XS X W (.AugAssign (.Name x px) (opOf o) a pos) (fun ρ S => match ρ[i]? with
    | some (some x) => (ma ρ S).then ρ fun y S => (match x, y with
      | .int _, .int _ => binV o S x y
      | _, _ => .stuck).then ρ fun z S => .fl .next (ρ.set i (some z)) S
    | _ => .stuck) := fun {f} hp hf => by
    refine (ps_aug hN h.1 h.2.1 ha hp h.2.2).imp fun E σ H ⟨bar, io, ρ, S, wd, h⟩ => ?_
    dsimp only at h
    split at h
    · rename_i d hd
      obtain ⟨v, e, r⟩ := wd.env.2 i d hd
      refine ⟨v, e, bar, io, ρ, S, wd, (AftS.then (P := PRep X.K) h).imp fun y H1 ⟨bar1, io1, S1, d1, x1, wd1, r1, _, h1⟩ => ?_⟩
      cases r with
      | int p =>
        cases r1 with
        | int q =>
          have h1 : AftS X.K X.mg H1 bar1 io1 W E ((binV o S1 (.int p) (.int q)).then ρ fun z S => .fl .next (ρ.set i (some z)) S) := h1
          rw [hf] at h1
          exact ⟨p, q, rfl, rfl, AftS.nextNow (σ := σ.set i (some (.int (f p q)))) h1 ⟨wd1.env.set (.int _) i, wd1.st⟩⟩
        | _ => exact h1.elim
      | _ => exact h1.elim
    · exact h.elim
  rcases ho with rfl | rfl
  · exact key ip_add fun _ _ _ => rfl
  · exact key ip_sub fun _ _ _ => rfl
theorem s_set {p2 : Pos} (hu : X.A.units + 1 < cLine) (ho : XE' X W a ma) (hi : XE' X W b mb) (he : XE' X W e me) (hs : swapsWithSole [.Subscript a b p2] e pos.line X.env = pure false)
    (hsub : ∀ v, assign (.Subscript a b p2) X.env v = (do
      let ov ← holding [v] (eval a X.env)
      let iv ← holding [v, ov] (eval b X.env)
      standAt p2
      holding [v, ov, iv] (setItem ov iv v)
      release [v, ov, iv] [])) :
    XS X W (.Assign [.Subscript a b p2] e pos) (fun ρ S => (me ρ S).then ρ fun v S => (ma ρ S).then ρ fun x S => (mb ρ S).then ρ fun y S => (setV S x y v).then ρ fun _ S => .fl .next ρ S) := by
  refine (ps_asg he (pg_sub ho hi (set_any hu) hsub) hs rfl rfl).imp fun E σ H ⟨bar, io, ρ, S, wd, h⟩ => ?_
  refine ⟨bar, io, ρ, S, wd, (AftS.then (P := PRep X.K) h).imp fun v H1 ⟨bar1, io1, S1, d1, x1, wd1, r1, _, h1⟩ => ?_⟩
  refine ⟨bar1, io1, ρ, S1, wd1, (AftS.then (P := PRep X.K) h1).imp fun x H2 ⟨bar2, io2, S2, d2, x2, wd2, r2, _, h2⟩ => ?_⟩
  refine ⟨bar2, io2, ρ, S2, wd2, (AftS.then (P := PRep X.K) h2).imp fun y H3 ⟨bar3, io3, S3, d3, x3, wd3, r3, _, h3⟩ => ?_⟩
  have h4 := AftS.then (σ := σ) (P := PEq) h3
  obtain ⟨u, S', e, q⟩ := h4.op (setV_noX _ _ _ _)
  refine ⟨bar3, io3, S3, d2, d3, d1, S', wd3.st, r2.mono x3 wd2.st.live, r3, (r1.mono x2 wd1.st.live).mono x3 wd2.st.live, e, fun H' bar' io' x st => ?_⟩
  obtain ⟨bar4, io4, S4, u4, x4, wd4, _, e4, h5⟩ := q u H' bar' io' x (wd3.mono' x st) rfl
  exact h5.nextNow wd4
theorem s_expr (ha : XE' X W a ma) (hs : swapsWith a none pos.line X.env = pure false) : XS X W (.Expr a pos) (fun ρ S => (ma ρ S).then ρ fun _ S => .fl .next ρ S) :=
  (ps_expr ha hs).imp fun E σ H ⟨bar, io, ρ, S, wd, h⟩ => ⟨bar, io, ρ, S, wd, (AftS.then (P := PRep X.K) h).imp fun x H1 ⟨bar1, io1, S1, d1, x1, wd1, r1, _, h1⟩ => h1.nextNow wd1⟩
theorem s_ret (ha : XE' X W a ma) : XS X W (.Return (some a) pos) (fun ρ S => (ma ρ S).then ρ fun d S => .fl (.ret d) ρ S) :=
  (ps_ret ha).imp fun E σ H ⟨bar, io, ρ, S, wd, h⟩ => ⟨bar, io, ρ, S, wd, (AftS.then (P := PRep X.K) h).imp fun x H1 ⟨bar1, io1, S1, d1, x1, wd1, r1, _, h1⟩ => h1 x H1 bar1 io1 Ext.refl wd1.st r1⟩
theorem s_retN : XS X W (.Return none pos) (fun ρ S => .fl (.ret .non) ρ S) :=
  ps_retN.imp fun E σ H ⟨bar, io, ρ, S, wd, h⟩ => h .non H bar io Ext.refl wd.st .non
theorem s_pass : XS X W (.Pass pos) (fun ρ S => .fl .next ρ S) := ps_pass.imp fun E σ H ⟨bar, io, ρ, S, wd, h⟩ => h.nextNow wd
theorem s_brk : XS X W (.Break pos) (fun ρ S => .fl .brk ρ S) := ps_break.imp fun E σ H ⟨bar, io, ρ, S, wd, h⟩ => h σ H bar io Ext.refl wd
theorem s_cont : XS X W (.Continue pos) (fun ρ S => .fl .cont ρ S) := ps_continue.imp fun E σ H ⟨bar, io, ρ, S, wd, h⟩ => h σ H bar io Ext.refl wd
/-- a test, then one of two -/
theorem if_read {E : Ends} {σ : St} {H : Hp} {bar io : List Addr} {ρ : Env} {S : Store} {f g : Store → RS} {P : Bool → Hp → Prop} (wd : Wd X.K H bar io σ ρ S) (h : AftS X.K X.mg H bar io W E ((mc ρ S).then ρ fun d S => match truthy S d with
      | some true => f S
      | some false => g S
      | none => .stuck)) (k : ∀ b H1 bar1 io1 S1, Ext H bar io H1 bar1 io1 → Wd X.K H1 bar1 io1 σ ρ S1 → AftS X.K X.mg H1 bar1 io1 W E (if b = true then f S1 else g S1) → P b H1) :
    tQ X.K X.mg (tst mc) W σ H P := by
  refine ⟨bar, io, ρ, S, wd, ?_⟩
  unfold tst
  cases e : mc ρ S with
  | stuck => rw [e] at h; exact h.elim
  | exc c S' => rw [e] at h; exact fun H' bar' io' C x w ec => h σ H' bar' io' C x w ec
  | ok d S' =>
    rw [e] at h
    simp only [R.then_ok] at h
    simp only [R.bind_ok]
    cases e2 : truthy S' d with
    | none => rw [e2] at h; exact h.elim
    | some b =>
      rw [e2] at h
      intro b' H' bar' io' x w p
      subst p
      refine k b' H' bar' io' S' x w ?_
      cases b' with
      | true => exact AftS.mono x h
      | false => exact AftS.mono x h
theorem s_if (hc : XT X W c mc) (ha : XB X W xs m1) (hb : XB X W ys m2) : XS X W (.If c xs ys pos) (fun ρ S => (mc ρ S).then ρ fun d S => match truthy S d with
      | some true => m1 ρ S
      | some false => m2 ρ S
      | none => .stuck) := by
  refine (ps_if hc ha hb).imp fun E σ H ⟨bar, io, ρ, S, wd, h⟩ => ?_
  refine if_read (f := fun S => m1 ρ S) (g := fun S => m2 ρ S) wd h fun b H1 bar1 io1 S1 x w q => ?_
  cases b with
  | true => exact ⟨bar1, io1, ρ, S1, w, q⟩
  | false => exact ⟨bar1, io1, ρ, S1, w, q⟩
theorem s_while (hp : PassesOwn (model X.prog X.w) X.A X.env X.xe) (hc : XT X W c mc) (hb : XB X W xs m1) (n : Nat) : XS X W (.While c xs [] pos) (fun ρ S => whileLoop mc m1 n ρ S) := by
  refine (ps_while hp hc hb).imp fun E σ H ⟨bar, io, ρ, S, wd, h⟩ => ?_
  refine ⟨fun m σ H => ∃ bar io ρ S, Wd X.K H bar io σ ρ S ∧ AftS X.K X.mg H bar io W E (whileLoop mc m1 m ρ S), ⟨n, bar, io, ρ, S, wd, h⟩, ?_⟩
  rintro m σ H ⟨bar, io, ρ, S, wd, h⟩
  cases m with
  | zero => exact h.elim
  | succ m =>
    refine if_read (W := W) (E := E) (f := fun S => match m1 ρ S with
      | .fl .next ρ2 S2 => whileLoop mc m1 m ρ2 S2
      | .fl .cont ρ2 S2 => whileLoop mc m1 m ρ2 S2
      | .fl .brk ρ2 S2 => .fl .next ρ2 S2
      | r => r) (g := fun S => .fl .next ρ S) wd (by unfold whileLoop at h; exact h) fun b H1 bar1 io1 S1 x w q => ?_
    cases b with
    | false => exact q σ H1 bar1 io1 Ext.refl w
    | true =>
      refine ⟨fun σ H => ∃ bar io ρ S, Wd X.K H bar io σ ρ S ∧ AftS X.K X.mg H bar io W E (whileLoop mc m1 m ρ S), fun σ' H' hN => ⟨m, Nat.lt_succ_self m, hN⟩, bar1, io1, ρ, S1, w, ?_⟩
      simp only [if_true] at q
      cases e : m1 ρ S1 with
      | fl f ρ2 S2 =>
        rw [e] at q
        cases f with
        | next => exact fun σ' H' bar' io' x w => ⟨bar', io', ρ2, S2, w, AftS.mono x q⟩
        | cont => exact fun σ' H' bar' io' x w => ⟨bar', io', ρ2, S2, w, AftS.mono x q⟩
        | brk => exact q
        | ret d => exact q
      | exc c ρ2 S2 => rw [e] at q; exact q
      | stuck => rw [e] at q; exact q
theorem AftS.iter {K : PySem.W.Frag} {mg : Str → Option Value} {H : Hp} {bar io : List Addr} {σ : St} {ρ : Env} {E : Ends} {S : Store} {f : Ws → Store → RS} {R' : It → Hp → Prop} (wd : Wd K H bar io σ ρ S) (h : AftS K mg H bar io W E ((mi ρ S).then ρ f))
    (k : ∀ w S1 J H1 bar1 io1, Ext H bar io H1 bar1 io1 → Wd K H1 bar1 io1 σ ρ S1 → WalkD K J w H1 bar1 io1 → AftS K mg H1 bar1 io1 W E (f w S1) → R' J H1) : iD K mg mi W σ H R' := by
  refine ⟨bar, io, ρ, S, wd, ?_⟩
  cases e : mi ρ S with
  | ok w S1 =>
    rw [e] at h
    exact fun J H1 bar1 io1 x wd1 wk => k w S1 J H1 bar1 io1 x wd1 wk (AftS.mono x h)
  | exc c S1 => rw [e] at h; exact fun H' bar' io' C x w ec => h σ H' bar' io' C x w ec
  | stuck => rw [e] at h; exact h
theorem s_for (hp : PassesOwn (model X.prog X.w) X.A X.env X.xe) (hc : X.calm = true) (hi : XI X W tg e mi) (hg : PG X tg (gD X.K t)) (hb : XB X W xs m1) (hs : ∀ x, foldedSetIterable e X.env x = pure x) :
    XS X W (.For tg e xs [] pos) (fun ρ S => (mi ρ S).then ρ fun w S => forLoop w t m1 w.ds ρ S) := by
  refine (ps_for hp hc hi hg hb hs).imp fun E σ H ⟨bar, io, ρ, S, wd, h⟩ => ?_
  refine AftS.iter wd h fun w S1 J H1 bar1 io1 x1 wd1 wk h1 => ?_
  refine ⟨fun i m σ H => m = w.ds.length - i ∧ i ≤ w.ds.length ∧ ∃ bar io ρ S, ExtW H1 bar1 io1 H bar io ∧ Wd X.K H bar io σ ρ S ∧ AftS X.K X.mg H bar io W E (forLoop w t m1 (w.ds.drop i) ρ S),
    ⟨w.ds.length, by simp, Nat.zero_le _, bar1, io1, ρ, S1, ExtW.refl, wd1, by simpa using h1⟩, ?_⟩
  rintro i m σ H ⟨rfl, hi, bar, io, ρ, S, x, wd, h⟩
  by_cases hlt : i < w.ds.length
  · have ed : w.ds.drop i = w.ds[i] :: w.ds.drop (i + 1) := by rw [List.drop_eq_getElem_cons hlt]
    rw [ed] at h
    unfold forLoop at h
    cases ok : w.ok S with
    | false => rw [ok] at h; exact h.elim
    | true =>
      simp only [ok] at h
      refine .inr ⟨wk.go i H bar io S hlt x wd.st ok, fun σ H => ∃ bar io ρ S, ExtW H1 bar1 io1 H bar io ∧ Wd X.K H bar io σ ρ S ∧ AftS X.K X.mg H bar io W E (forLoop w t m1 (w.ds.drop (i + 1)) ρ S),
        fun σ' H' hN => ⟨w.ds.length - (i + 1), by omega, rfl, hlt, hN⟩, fun v H' y => ?_⟩
      obtain ⟨d, ei, y1, y2, y3⟩ := wk.yld i H bar io S v H' hlt x wd.st ok y
      have : d = w.ds[i] := by rw [List.getElem?_eq_getElem hlt] at ei; cases ei; rfl
      subst this
      cases ea : asgT t w.ds[i] ρ with
      | none => rw [ea] at h; exact h.elim
      | some ρ1 =>
        rw [ea] at h
        have h := AftS.mono y1 h
        refine ⟨bar, io, ρ, S, w.ds[i], ρ1, wd.mono' y1 y2, y3, ea, fun σ' w' _ => ⟨bar, io, ρ1, S, w', ?_⟩⟩
        have xw : ExtW H1 bar1 io1 H' bar io := x.trans (y1.weak wd.st.sub)
        dsimp only at h
        cases e2 : m1 ρ1 S with
        | fl f ρ2 S2 =>
          rw [e2] at h
          cases f with
          | next => exact fun σ' H2 bar2 io2 x2 w2 => ⟨bar2, io2, ρ2, S2, xw.trans (x2.weak w'.st.sub), w2, AftS.mono x2 h⟩
          | cont => exact fun σ' H2 bar2 io2 x2 w2 => ⟨bar2, io2, ρ2, S2, xw.trans (x2.weak w'.st.sub), w2, AftS.mono x2 h⟩
          | brk => exact h
          | ret d => exact h
        | exc c ρ2 S2 => rw [e2] at h; exact h
        | stuck => rw [e2] at h; exact h
  · have e : i = w.ds.length := by omega
    subst e
    rw [List.drop_length] at h
    unfold forLoop at h
    cases ok : w.ok S with
    | false => rw [ok] at h; exact h.elim
    | true =>
      simp only [ok] at h
      exact .inl ⟨wk.stop H bar io S x wd.st ok, h.nextNow wd⟩
end
end PX

/-! PX15: raise, try. -/
namespace PX
open PySem L2
/-- an own exception class without a body -/
def ClsGood (K : PySem.W.Frag) (mg : Str → Option Value) (c : Str) : Prop := ∃ (C : Addr) (bmB : List Value) (B newId initId : String), ExcBaseFacts B newId initId bmB ∧ PySem.W.excIn K C bmB newId = true ∧ mg c = some (.ref C) ∧ PySem.W.keepIn K (.ref C) = true ∧
  PySem.W.subIn K (.ref C) (.type "BaseException") = some true ∧ PySem.W.typeIn K (.ref C) = some (.type "type")
/-- a clause at an exception -/
def ExmGood (K : PySem.W.Frag) (mg : Str → Option Value) (c x : Str) (b : Bool) : Prop := ∃ (C T : Addr), mg c = some (.ref C) ∧ mg x = some (.ref T) ∧ PySem.W.exmOne K (.ref C) (.ref T) = some b
section
variable {X : Cx} {W : WX}
theorem s_raise {x m : Str} {j : Nat} {p p2 p3 pos : Pos} (hc : X.calm = true) (tk : Takes X W) (h : ClsGood X.K X.mg x) (hg : Gl X x) (hdb : (x == ("__debug__" : Str)) = false) :
    XS X W (.Raise (some (.Call (.Name x p) [.Constant (.str m) j p2] [] p3)) none pos) (fun ρ S => .exc x ρ S) := by
  obtain ⟨C, bmB, B, newId, initId, F, q, gC, kC, sC, tC⟩ := h
  refine (ps_raise hc tk (pmk_own F q gC kC (raises_own sC tC) hg hdb)).imp fun E σ H ⟨bar, io, ρ, S, wd, h⟩ => ?_
  exact h σ H bar io C Ext.refl wd gC
/-- what a clause does -/
def hEnd (i : Nat) (m : Str) : Addr → Value → Option Addr → TS := fun _ _ _ E σ H => E.nx (σ.set i (some (.str m))) H
def hList (mg : Str → Option Value) (hs : List (Str × List Str × Nat × Str)) : List (Value × (Addr → Value → Option Addr → TS)) := hs.map fun q => ((mg q.1).getD .none, hEnd q.2.2.1 q.2.2.2)
def HdsGood (K : PySem.W.Frag) (mg : Str → Option Value) (cs : List Str) (hs : List (Str × List Str × Nat × Str)) : Prop := ∀ q ∈ hs, ∀ c ∈ cs, ExmGood K mg c q.1 (decide (c ∈ q.2.1))
theorem handle_read {E : Ends} {cs : List Str} {c : Str} {ρ : Env} {S : Store} {C : Addr} (hcs : c ∈ cs) (hC : X.mg c = some (.ref C)) : ∀ {hs : List (Str × List Str × Nat × Str)}, HdsGood X.K X.mg cs hs → (∀ q ∈ hs, q.2.2.2.length ≤ sizeLine ∧ PyData.strOk q.2.2.2 = true) →
    ∀ {H : Hp} {bar io : List Addr}, AftS X.K X.mg H bar io W E (handle hs c ρ S) → ∀ σ' H' bar' io', Ext H bar io H' bar' io' → Wd X.K H' bar' io' σ' ρ S → wMany X.K W E (hList X.mg hs) (.ref C) none σ' H'
  | [], _, _, H, bar, io, h, σ', H', bar', io', x, w => h σ' H' bar' io' C x w hC
  | (x, l, i, m) :: r, g, z, H, bar, io, h, σ', H', bar', io', y, w => by
    obtain ⟨C', T, e1, e2, e3⟩ := g (x, l, i, m) List.mem_cons_self c hcs
    rw [hC] at e1; cases e1
    have e2 : X.mg x = some (.ref T) := e2
    refine ⟨decide (c ∈ l), ?_, fun hb a _ => ?_, fun hb => ?_⟩
    · show PySem.W.exmOne X.K (.ref C) ((X.mg x).getD .none) = _
      rw [e2]; exact e3
    · have h : AftS X.K X.mg H bar io W E (match decide (c ∈ l) with
        | true => .fl .next (ρ.set i (some (.str m))) S
        | false => handle r c ρ S) := h
      rw [hb] at h
      obtain ⟨z1, z2⟩ := z (x, l, i, m) List.mem_cons_self
      exact h _ H' bar' io' y ⟨w.env.set (.str m z1 z2) i, w.st⟩
    · have h : AftS X.K X.mg H bar io W E (match decide (c ∈ l) with
        | true => .fl .next (ρ.set i (some (.str m))) S
        | false => handle r c ρ S) := h
      rw [hb] at h
      exact handle_read hcs hC (fun q hq => g q (List.mem_cons_of_mem _ hq)) (fun q hq => z q (List.mem_cons_of_mem _ hq)) h σ' H' bar' io' y w
/-- a clause's written form: x, the slot's name, the text -/
inductive Hd (X : Cx) : List ExceptHandler → List (Str × List Str × Nat × Str) → Prop
  | nil : Hd X [] []
  | cons {x y m : Str} {l : List Str} {i j : Nat} {np py pc ps pos : Pos} {hds : List ExceptHandler} {hs : List (Str × List Str × Nat × Str)} (hg : Gl X x) (hdb : (x == ("__debug__" : Str)) = false) (h : Sto X i y) (r : Hd X hds hs) :
      Hd X (.ExceptHandler (some (.Name x np)) none [.Assign [.Name y py] (.Constant (.str m) j pc) ps] pos :: hds) ((x, l, i, m) :: hs)
theorem hds_ok {cs : List Str} (hN : X.N.Nodup) (hcs : ∃ c, c ∈ cs) {hds : List ExceptHandler} {hs : List (Str × List Str × Nat × Str)} (h : Hd X hds hs) (g : HdsGood X.K X.mg cs hs) : HdsOk X hds (hList X.mg hs) := by
  obtain ⟨c, hc⟩ := hcs
  induction h with
  | nil => exact .nil
  | @cons x y m l i j np py pc ps pos hds hs hg hdb h r ih =>
    obtain ⟨C', T, e1, e2, e3⟩ := g (x, l, i, m) List.mem_cons_self c hc
    have e2 : X.mg x = some (.ref T) := e2
    refine .cons ⟨hg, hdb, .inl ?_⟩ (fun a oe cls d pn _ _ => ?_) (ih fun q hq => g q (List.mem_cons_of_mem _ hq))
    · show X.mg x = some ((X.mg x).getD .none)
      rw [e2]; rfl
    · exact pss_one ((ps_set (X := X.suite a ((a, oe) :: pn)) (i := i) hN h.1 h.2.1 pe_str rfl h.2.2).imp fun E σ H q => q)
theorem s_try {body : List Stmt} {h₀ : ExceptHandler} {hds : List ExceptHandler} {pos : Pos} {mb : Env → Store → RS} {cs : List Str} {hs : List (Str × List Str × Nat × Str)} (hN : X.N.Nodup) (hst : X.stack = X.env :: X.outer) (hf : X.env.frame = some X.env.locals) (tk : Takes X W)
    (hb : ∀ (W : WX) (pn : List (Addr × Obj)) (xe : Value → Shared → Prop), Takes (X.tr pn xe) W → PassesOwn (model X.prog X.w) X.A X.env xe → XB (X.tr pn xe) W body mb) (hcs : ∃ c, c ∈ cs) (hh : Hd X (h₀ :: hds) hs) (g : HdsGood X.K X.mg cs hs) (z : ∀ q ∈ hs, q.2.2.2.length ≤ sizeLine ∧ PyData.strOk q.2.2.2 = true) :
    XS X W (.Try body (h₀ :: hds) [] [] pos) (fun ρ S => match mb ρ S with
    | .exc c ρ' S' => match decide (c ∈ cs) with
      | true => handle hs c ρ' S'
      | false => .stuck
    | r => r) := by
  refine (ps_try_many (tb := fun W => tS X.K X.mg mb W) hst hf tk hb (hds_ok hN hcs hh g)).imp fun E σ H ⟨bar, io, ρ, S, wd, h⟩ => ⟨bar, io, ρ, S, wd, ?_⟩
  dsimp only at h
  cases e : mb ρ S with
  | fl f ρ' S' => rw [e] at h; cases f <;> exact h
  | stuck => rw [e] at h; exact h
  | exc c ρ' S' =>
    rw [e] at h
    dsimp only at h
    cases hc : decide (c ∈ cs) with
    | false => rw [hc] at h; exact h.elim
    | true =>
      rw [hc] at h
      exact fun σ' H' bar' io' C x w eC => handle_read (of_decide_eq_true hc) eC g z h σ' H' bar' io' x w
end
end PX

/-! PX16: the check that a written form is the given text. -/
namespace PX
open PySem L2
/-! ### small facts of the texts -/
def noStar : Expr → Bool
  | .Starred .. => false
  | _ => true
def plainL (es : List Expr) : Bool := es.all noStar
theorem star_cons {e : Expr} {es : List Expr} {env : PySem.Env} (h : noStar e = true) : starEach (e :: es) env = (false, eval e env) :: starEach es env := by
  cases e <;> first | rfl | cases h
theorem star_all : ∀ {es : List Expr} {env : PySem.Env}, plainL es = true → starEach es env = es.map fun e => (false, eval e env)
  | [], _, _ => rfl
  | e :: es, env, h => by
    have h : (noStar e && plainL es) = true := h
    rw [Bool.and_eq_true] at h
    rw [star_cons h.1, star_all h.2]
    rfl
theorem back_plain {es : List Expr} {env : PySem.Env} {pos : Pos} (h : plainL es = true) : (backTo pos (starEach es env)).any (·.1) = false := by
  rw [star_all h]
  unfold backTo
  rw [List.map_map]
  induction es with
  | nil => rfl
  | cons e es ih =>
    have h : (noStar e && plainL es) = true := h
    rw [Bool.and_eq_true] at h
    rw [List.map_cons, List.any_cons, ih h.2]
    rfl
theorem back_all {es : List Expr} {env : PySem.Env} {pos : Pos} (h : plainL es = true) : (backTo pos (starEach es env)).all (fun x => !x.1) = true := by
  rw [star_all h]
  unfold backTo
  rw [List.map_map]
  induction es with
  | nil => rfl
  | cons e es ih =>
    have h : (noStar e && plainL es) = true := h
    rw [Bool.and_eq_true] at h
    rw [List.map_cons, List.all_cons, ih h.2]
    rfl
theorem kw_all : ∀ (kws : List Keyword) (env : PySem.Env), keywordEach kws env = kws.map fun k => (k.arg, eval k.value env)
  | [], _ => rfl
  | ⟨a, v, p⟩ :: r, env => by
    show (a, eval v env) :: keywordEach r env = _
    rw [kw_all r env]
    rfl
theorem kw_facts {kws : List Keyword} {ks : List Str} {env : PySem.Env} {pos : Pos} (h : kws.map (·.arg) = ks.map some) :
    (backToKw pos (keywordEach kws env)).all (·.1.isSome) = true ∧ (backToKw pos (keywordEach kws env)).filterMap (·.1) = ks ∧ (backToKw pos (keywordEach kws env)).any (·.1.isNone) = false := by
  rw [kw_all]
  unfold backToKw
  rw [List.map_map]
  induction kws generalizing ks with
  | nil =>
    cases ks with
    | nil => exact ⟨rfl, rfl, rfl⟩
    | cons => cases h
  | cons k kws ih =>
    cases ks with
    | nil => cases h
    | cons c ks =>
      rw [List.map_cons, List.map_cons] at h
      have e1 : k.arg = some c := (List.cons.inj h).1
      obtain ⟨h1, h2, h3⟩ := ih (List.cons.inj h).2
      refine ⟨?_, ?_, ?_⟩
      · rw [List.map_cons, List.all_cons, h1]
        show (k.arg.isSome && true) = true
        rw [e1]; rfl
      · have h2 : kws.filterMap (fun x => x.arg) = ks := by
          have := h2
          rw [List.filterMap_map] at this
          exact this
        rw [List.filterMap_map]
        show (k :: kws).filterMap (fun x => x.arg) = _
        rw [List.filterMap_cons, e1, h2]
      · rw [List.map_cons, List.any_cons, h3]
        show (k.arg.isNone || false) = false
        rw [e1]; rfl
/-- no comprehension, no set, no starred one -/
def noComp : Expr → Bool
  | .ListComp .. => false
  | .SetComp .. => false
  | .DictComp .. => false
  | _ => true
theorem noComp_sw {e : Expr} {t : Option Expr} {l : Nat} {env : PySem.Env} (h : noComp e = true) : swapsWith e t l env = pure false := by
  cases e <;> first | rfl | cases h
def notSet : Expr → Bool
  | .Set .. => false
  | _ => true
theorem notSet_marks {e : Expr} {o : CmpOp} (h : notSet e = true) : behindInMarks o e = false := by
  cases e <;> first | rfl | cases h
theorem notSet_fold {e : Expr} {env : PySem.Env} (h : notSet e = true) (x : Value) : foldedSetIterable e env x = pure x := by
  cases e <;> first | rfl | cases h
def notSlice : Expr → Bool
  | .Slice .. => false
  | _ => true
theorem notSlice_ix {e : Expr} (h : notSlice e = true) : PlainIx e := by
  intro o i
  cases e <;> first | rfl | cases h
theorem notSlice_asg {a b : Expr} {p : Pos} {env : PySem.Env} (h : notSlice b = true) (v : Value) : assign (.Subscript a b p) env v = (do
      let ov ← holding [v] (eval a env)
      let iv ← holding [v, ov] (eval b env)
      standAt p
      holding [v, ov, iv] (setItem ov iv v)
      release [v, ov, iv] []) := by
  cases b <;> first | rfl | cases h
def plainTest : Expr → Bool
  | .UnaryOp .Not _ _ => false
  | .BoolOp .. => false
  | .IfExp .. => false
  | .Compare .. => false
  | _ => true
theorem plainTest_is {e : Expr} {env : PySem.Env} (h : plainTest e = true) (whole : Sem Value) : isTrue e env whole = (do let v ← whole; standAt e.pos; holding [v] (PySem.truthy v)) := by
  cases e with
  | UnaryOp op x p => cases op <;> first | rfl | cases h
  | BoolOp => cases h
  | IfExp => cases h
  | Compare => cases h
  | _ => rfl
def notCall : Expr → Bool
  | .Call .. => false
  | _ => true
theorem notCall_base {e : Expr} {a : Str} {env : PySem.Env} {w : Sem Value} (h : notCall e = true) : attributeBase e a env w = w := by
  cases e <;> first | rfl | cases h
/-- the names of a swapped store -/
def swC (ts vs : List Expr) (sc : Scope) : Option (List Str) :=
  if !(ts.length == 2 || ts.length == 3) || vs.length != ts.length then none else
  let line := (ts.head?.map (·.pos.line)).getD 0
  let names := ts.filterMap fun
    | .Name id pos => if sc.names.lookup id == some .local && pos.line == line then some id else none
    | _ => none
  if names.length != ts.length || names.eraseDups.length != names.length then none else
  if vs.all (foldedForSure 8) then none else some names
theorem any_plain : ∀ {vs : List Expr} {p : Expr → Bool}, plainL vs = true → (∀ v, noStar v = true → p v = false) → vs.any p = false
  | [], _, _, _ => rfl
  | v :: vs, p, h, hp => by
    have h : (noStar v && plainL vs) = true := h
    rw [Bool.and_eq_true] at h
    rw [List.any_cons, hp v h.1, any_plain h.2 hp]
    rfl
theorem swC_is {ts vs : List Expr} {kt k2 : Nat} {pt p2 : Pos} {env : PySem.Env} (hk : env.scope.kind = .function) (hv : plainL vs = true) (hc : vs.all (constantsAlone 8) = false ∨ vs.all (foldedForSure 8) = true) :
    swappedStores [.Tuple ts kt pt] (.Tuple vs k2 p2) env = pure (swC ts vs env.scope) := by
  have hb : env.blockKind = .function := by unfold Env.blockKind; rw [hk]; rfl
  unfold swappedStores swC Env.kindOf
  dsimp only
  rw [hb, any_plain hv (p := _) (by intro v h; cases v <;> first | rfl | cases h)]
  have e0 : (ScopeKind.function != ScopeKind.function) = false := by decide
  rw [e0, Bool.or_false]
  split
  · rename_i h1
    first | rfl | rw [if_pos h1]
  · rename_i h1
    rw [if_neg Bool.false_ne_true]
    split
    · rename_i h2
      split
      · rfl
      · rename_i h3
        exact absurd h2 h3
    · rename_i h2
      split
      · rename_i h5
        split
        · rfl
        · first | rfl | rw [if_pos h5]
      · rename_i h5
        rcases hc with hc | hc
        · rw [hc, if_neg Bool.false_ne_true]
          split
          · rename_i h3
            exact absurd h3 h2
          · first | rfl | rw [if_neg h5]
        · exact absurd hc h5
end PX

/-! PX17: the check. -/
namespace PX
open PySem L2
def BF.nm : BF → Str
  | .len => "len" | .sum => "sum" | .all => "all" | .any => "any" | .abs => "abs" | .int => "int" | .bool => "bool" | .str => "str" | .tuple => "tuple" | .list => "list" | .listM => "list"
  | .sorted => "sorted" | .sortedP => "sorted" | .max2 => "max" | .min2 => "min" | .maxL => "max" | .minL => "min"
def TY.nm : TY → Str
  | .int => "int" | .bool => "bool" | .str => "str" | .tuple => "tuple" | .list => "list" | .dict => "dict"
structure CC where
  N : List Str
  sc : Scope
  fn : Str → Bool
def CC.blk (C : CC) (scope : Scope) : CC := ⟨C.N, relS scope C.sc, fun x => scope.names.lookup x == some .cell⟩
def visB (C : CC) (x : Str) : Bool := match C.sc.names.lookup x with
  | some .local => true | some .cell => true | some .free => true | _ => false
def nmOk (x : Str) : Bool := !(x == ("__debug__" : Str)) && !(x == ("__classdict__" : Str))
def glB (C : CC) (x : Str) : Bool := decide (C.sc.names.lookup x = some .globalImplicit) && !(x == ("__debug__" : Str))
def stoB (C : CC) (i : Nat) (x : Str) : Bool := decide (C.N[i]? = some x) && (decide (C.sc.names.lookup x = some .local) || (decide (C.sc.names.lookup x = some .cell) && C.fn x))
def strB (z : Str) : Bool := decide (z.length ≤ sizeLine) && PyData.strOk z
def ownOf (C : CC) (vs : List Nat) : List (Str × Nat) := vs.map fun i => ((C.N[i]?).getD ⟨#[]⟩, i)
def chkNs (C : CC) : List Nat → List Expr → Bool
  | [], [] => true
  | i :: is, .Name x _ :: es => stoB C i x && chkNs C is es
  | _, _ => false
def chkT (C : CC) : T → Expr → Bool
  | .name i, .Name x _ => stoB C i x
  | .tup is, .Tuple es _ _ => chkNs C is es
  | _, _ => false
def isTup : Expr → Bool
  | .Tuple .. => true
  | _ => false
mutual
def chkE (C : CC) : E → Expr → Bool
  | .var i, x => match x with
    | .Name y _ => decide (C.N[i]? = some y) && visB C y && nmOk y
    | _ => false
  | .int i, x => match x with
    | .Constant (.int j) _ _ => decide (i = j)
    | _ => false
  | .str z, x => match x with
    | .Constant (.str y) _ _ => decide (z = y) && strB z
    | _ => false
  | .bl b, x => match x with
    | .Constant (.bool c) _ _ => decide (b = c)
    | _ => false
  | .non, x => match x with
    | .Constant .none _ _ => true
    | _ => false
  | .glob n _, x => match x with
    | .Name y _ => decide (n = y) && glB C y
    | _ => false
  | .tup es, x => match x with
    | .Tuple xs _ _ => chkL C es xs && decide (xs.length ≤ 1000)
    | _ => false
  | .lst es, x => match x with
    | .List xs _ => chkL C es xs && decide (xs.length ≤ 1000)
    | _ => false
  | .new es, x => match x with
    | .List xs _ => chkL C es xs && decide (xs.length ≤ 1000)
    | _ => false
  | .dic, x => match x with
    | .Dict [] [] _ => true
    | _ => false
  | .bin o a b, x => match x with
    | .BinOp l p r _ => decide (opOf o = p) && chkE C a l && chkE C b r
    | _ => false
  | .neg a, x => match x with
    | .UnaryOp .USub l _ => chkE C a l
    | _ => false
  | .not a, x => match x with
    | .UnaryOp .Not l _ => chkE C a l
    | _ => false
  | .cmp o a b, x => match x with
    | .Compare l [p] [r] _ => decide (cmpOf o = p) && notSet r && chkE C a l && chkE C b r
    | _ => false
  | .chain o o' a b c, x => match x with
    | .Compare l [p, p'] [r, r'] _ => decide (cmpOf o = p) && decide (cmpOf o' = p') && notSet r' && chkE C a l && chkE C b r && chkE C c r'
    | _ => false
  | .and es, x => match x with
    | .BoolOp .And xs _ => chkL C es xs && !xs.isEmpty
    | _ => false
  | .or es, x => match x with
    | .BoolOp .Or xs _ => chkL C es xs && !xs.isEmpty
    | _ => false
  | .ite c a b, x => match x with
    | .IfExp t l r _ => chkE C c t && chkE C a l && chkE C b r
    | _ => false
  | .ix a i, x => match x with
    | .Subscript l r _ => notSlice r && chkE C a l && chkE C i r
    | _ => false
  | .sl a lo hi, x => match x with
    | .Subscript l (.Slice p q none _) _ => chkE C a l && chkO C lo p && chkO C hi q
    | _ => false
  | .rev a, x => match x with
    | .Subscript l (.Slice none none (some (.UnaryOp .USub (.Constant (.int j) _ _) _)) _) _ => decide (j = 1) && chkE C a l
    | _ => false
  | .sset a, x => match x with
    | .Call (.Name n _) [.Call (.Name m _) [l] [] _] [] _ => decide (n = ("sorted" : Str)) && decide (m = ("set" : Str)) && glB C n && glB C m && noStar l && chkE C a l
    | _ => false
  | .call _ f es, x => match x with
    | .Call (.Name n _) xs [] _ => decide (f.name = n) && glB C n && chkL C es xs && !xs.isEmpty
    | _ => false
  | .callk _ f es ks kes, x => match x with
    | .Call (.Name n _) xs kws _ => decide (f.name = n) && glB C n && chkL C es xs && chkK C ks kes kws && decide ((xs.length, ks) ∈ f.kps)
    | _ => false
  | .bi f es, x => match x with
    | .Call (.Name n _) xs [] _ => decide (f.nm = n) && glB C n && chkL C es xs && !xs.isEmpty
    | _ => false
  | .isi a t, x => match x with
    | .Call (.Name n _) [l, .Name m _] [] _ => decide (n = ("isinstance" : Str)) && decide (t.nm = m) && glB C n && glB C m && noStar l && chkE C a l
    | _ => false
  | .meth m o es, x => match x with
    | .Call (.Attribute l n ap) xs [] cp => decide (m.name = n) && notCall l && (ap.endLine == cp.line) && chkE C o l && chkL C es xs && decide (xs.length < 30)
    | _ => false
  | .lc vs _ t it c e, x => match x with
    | .ListComp elt [⟨tg, iter, ifs, k⟩] scope _ => decide (k = 0) && blkC C.N C.sc scope (ownOf C vs) && t.slots.all (fun i => decide (i ∈ vs)) && notSet iter &&
        chkI C tg it iter && chkT (C.blk scope) t tg && chkC (C.blk scope) c ifs && chkE (C.blk scope) e elt
    | _ => false
  | .lc2 vs vs1 _ t it c t1 it1 c1 e, x => match x with
    | .ListComp elt [⟨tg, iter, ifs, k⟩, ⟨tg1, iter1, ifs1, k1⟩] scope _ => decide (k = 0) && decide (k1 = 0) && blkC C.N C.sc scope (ownOf C vs) && t.slots.all (fun i => decide (i ∈ vs)) && t1.slots.all (fun i => decide (i ∈ vs1)) && vs1.all (fun i => decide (i ∈ vs)) && notSet iter && notSet iter1 &&
        chkI C tg it iter && chkT (C.blk scope) t tg && chkC (C.blk scope) c ifs && chkI (C.blk scope) tg1 it1 iter1 && chkT (C.blk scope) t1 tg1 && chkC (C.blk scope) c1 ifs1 && chkE (C.blk scope) e elt
    | _ => false
def chkL (C : CC) : L → List Expr → Bool
  | .nil, xs => match xs with
    | [] => true
    | _ => false
  | .cons e es, xs => match xs with
    | x :: xs => noStar x && chkE C e x && chkL C es xs
    | _ => false
def chkK (C : CC) : List Str → L → List Keyword → Bool
  | ks, .nil, kws => match ks, kws with
    | [], [] => true
    | _, _ => false
  | ks, .cons e es, kws => match ks, kws with
    | k :: ks, ⟨some n, x, _⟩ :: kws => decide (k = n) && chkE C e x && chkK C ks es kws
    | _, _ => false
def chkO (C : CC) : O → Option Expr → Bool
  | .none, x => match x with
    | none => true
    | _ => false
  | .some e, x => match x with
    | some x => chkE C e x
    | _ => false
def chkC (C : CC) : O → List Expr → Bool
  | .none, xs => match xs with
    | [] => true
    | _ => false
  | .some e, xs => match xs with
    | [x] => chkE C e x
    | _ => false
def chkI (C : CC) (tg : Expr) : I → Expr → Bool
  | .seq e, x => chkE C e x
  | .rng1 a, x => match x with
    | .Call (.Name n _) [l] [] _ => decide (n = ("range" : Str)) && glB C n && noStar l && chkE C a l
    | _ => false
  | .rng2 a b, x => match x with
    | .Call (.Name n _) [l, r] [] _ => decide (n = ("range" : Str)) && glB C n && noStar l && noStar r && chkE C a l && chkE C b r
    | _ => false
  | .enum a, x => match x with
    | .Call (.Name n _) [l] [] _ => decide (n = ("enumerate" : Str)) && isTup tg && glB C n && noStar l && chkE C a l
    | _ => false
  | .zip a b, x => match x with
    | .Call (.Name n _) [l, r] [] _ => decide (n = ("zip" : Str)) && isTup tg && glB C n && noStar l && noStar r && chkE C a l && chkE C b r
    | _ => false
  | .rev a, x => match x with
    | .Call (.Name n _) [l] [] _ => decide (n = ("reversed" : Str)) && glB C n && noStar l && chkE C a l
    | _ => false
end
/-- what a text needs of the module -/
inductive Nd where
  | fn (f : FnI) | gl (x : Str) (d : D) | bn (x : Str) | cl (c : Str) | hd (cs : List Str) (hs : List (Str × List Str × Nat × Str))
mutual
def ndE : E → List Nd
  | .var _ => [] | .int _ => [] | .str _ => [] | .bl _ => [] | .non => [] | .dic => []
  | .glob x d => [.gl x d]
  | .tup es => ndL es | .lst es => ndL es | .new es => ndL es
  | .bin _ a b => ndE a ++ ndE b
  | .neg a => ndE a | .not a => ndE a
  | .cmp _ a b => ndE a ++ ndE b
  | .chain _ _ a b c => ndE a ++ (ndE b ++ ndE c)
  | .and es => ndL es | .or es => ndL es
  | .ite c a b => ndE c ++ (ndE a ++ ndE b)
  | .ix a i => ndE a ++ ndE i
  | .sl a lo hi => ndE a ++ (ndO lo ++ ndO hi)
  | .rev a => ndE a
  | .sset a => .bn "sorted" :: .bn "set" :: ndE a
  | .call _ f es => .fn f :: ndL es
  | .callk _ f es _ kes => .fn f :: (ndL es ++ ndL kes)
  | .bi f es => .bn f.nm :: ndL es
  | .isi a t => .bn "isinstance" :: .bn t.nm :: ndE a
  | .meth _ o es => ndE o ++ ndL es
  | .lc _ _ _ it c e => ndI it ++ (ndO c ++ ndE e)
  | .lc2 _ _ _ _ it c _ it1 c1 e => ndI it ++ (ndO c ++ (ndI it1 ++ (ndO c1 ++ ndE e)))
def ndL : L → List Nd
  | .nil => []
  | .cons e es => ndE e ++ ndL es
def ndO : O → List Nd
  | .none => []
  | .some e => ndE e
def ndI : I → List Nd
  | .seq e => ndE e
  | .rng1 a => .bn "range" :: ndE a
  | .rng2 a b => .bn "range" :: (ndE a ++ ndE b)
  | .enum a => .bn "enumerate" :: ndE a
  | .zip a b => .bn "zip" :: (ndE a ++ ndE b)
  | .rev a => .bn "reversed" :: ndE a
end
def Nd.okP (P : Program) (w : World) (K : PySem.W.Frag) (mg : Str → Option Value) (base : Heap) (lvl : Nat) : Nd → Prop
  | .fn f => FnGood P w K mg base lvl f
  | .gl x d => GlobOk K mg x d
  | .bn x => mg x = none
  | .cl c => ClsGood K mg c
  | .hd cs hs => HdsGood K mg cs hs
def Nd.ok (X : Cx) (lvl : Nat) (n : Nd) : Prop := n.okP X.prog X.w X.K X.mg X.base lvl
def Has (X : Cx) (lvl : Nat) (ns : List Nd) : Prop := ∀ n ∈ ns, n.ok X lvl
theorem Has.app {X : Cx} {lvl : Nat} {a b : List Nd} (h : Has X lvl (a ++ b)) : Has X lvl a ∧ Has X lvl b := ⟨fun n hn => h n (List.mem_append_left _ hn), fun n hn => h n (List.mem_append_right _ hn)⟩
theorem Has.cons {X : Cx} {lvl : Nat} {a : Nd} {b : List Nd} (h : Has X lvl (a :: b)) : a.ok X lvl ∧ Has X lvl b := ⟨h a List.mem_cons_self, fun n hn => h n (List.mem_cons_of_mem _ hn)⟩
structure CxOk (C : CC) (X : Cx) (lvl : Nat) : Prop where
  calm : X.calm = true
  N : X.N = C.N
  nd : C.N.Nodup
  sc : X.env.scope = C.sc
  fn : X.fn = C.fn
  room : Room lvl X.A
section
variable {C : CC} {X : Cx} {lvl : Nat} {W : WX}
theorem CxOk.xnd (ok : CxOk C X lvl) : X.N.Nodup := by rw [ok.N]; exact ok.nd
theorem CxOk.un (ok : CxOk C X lvl) : X.A.units + 64 < cLine := by have := ok.room.un; omega
theorem CxOk.un1 (ok : CxOk C X lvl) : X.A.units + 1 < cLine := by have := ok.room.un; omega
theorem CxOk.gl {x : Str} (ok : CxOk C X lvl) (h : glB C x = true) : Gl X x ∧ (x == ("__debug__" : Str)) = false := by
  unfold glB at h
  simp only [Bool.and_eq_true, decide_eq_true_eq, Bool.not_eq_true'] at h
  refine ⟨?_, h.2⟩
  show X.env.scope.names.lookup x = _
  rw [ok.sc]; exact h.1
theorem CxOk.vis {x : Str} (ok : CxOk C X lvl) (h : visB C x = true) : Vis X.env.scope x := by
  unfold Vis
  rw [ok.sc]
  unfold visB at h
  split at h
  · exact .inl (by assumption)
  · exact .inr (.inl (by assumption))
  · exact .inr (.inr (by assumption))
  · cases h
theorem CxOk.sto {i : Nat} {x : Str} (ok : CxOk C X lvl) (h : stoB C i x = true) : Sto X i x := by
  unfold stoB at h
  simp only [Bool.and_eq_true, Bool.or_eq_true, decide_eq_true_eq] at h
  obtain ⟨h1, h2⟩ := h
  unfold Sto L2.Loc
  rw [ok.sc, ok.N, ok.fn]
  rcases h2 with h2 | ⟨h2, h3⟩
  · exact ⟨h1, .inl h2, .inr h2⟩
  · exact ⟨h1, .inr h2, .inl h3⟩
theorem nmOk_is {x : Str} (h : nmOk x = true) : (x == ("__debug__" : Str)) = false ∧ (x == ("__classdict__" : Str)) = false := by
  unfold nmOk at h
  simp only [Bool.and_eq_true, Bool.not_eq_true'] at h
  exact h
theorem chkNs_is (ok : CxOk C X lvl) : ∀ {is : List Nat} {es : List Expr}, chkNs C is es = true → Names' X es is
  | [], [], _ => .nil
  | i :: is, e :: es, h => by
    cases e with
    | Name x p =>
      have h : (stoB C i x && chkNs C is es) = true := h
      rw [Bool.and_eq_true] at h
      exact .cons (ok.sto h.1) (chkNs_is ok h.2)
    | _ => cases h
  | [], e :: es, h => by cases h
  | i :: is, [], h => by cases h
theorem chkT_is {t : T} {x : Expr} (ok : CxOk C X lvl) (h : chkT C t x = true) : PG X x (gD X.K t) := by
  unfold chkT at h
  split at h
  · exact g_name ok.xnd (ok.sto h)
  · exact g_tup ok.calm ok.xnd (chkNs_is ok h)
  · cases h
theorem CxOk.blk (ok : CxOk C X lvl) (scope : Scope) (s : Shared) (H : Hp) (A : Addr) (cl : List (Str × Addr)) (fp : List Addr) : CxOk (C.blk scope) (X.blk s H scope (compEnvC scope cl A X.env) fp) lvl :=
  ⟨ok.calm, ok.N, ok.nd, by show relS scope X.env.scope = _; rw [ok.sc]; rfl, rfl, ok.room⟩
theorem ownOf_snd (C : CC) (vs : List Nat) : (ownOf C vs).map (·.2) = vs := by
  unfold ownOf
  rw [List.map_map]
  induction vs with
  | nil => rfl
  | cons v vs ih => rw [List.map_cons, ih]; rfl
theorem boot_bf : ∀ f : BF, bootBuiltins f.nm = some (bfV f) ∧ f.nm ≠ "__name__" := by
  intro f
  cases f <;> exact ⟨by decide +kernel, by decide +kernel⟩
theorem boot_ty : ∀ t : TY, bootBuiltins t.nm = some (.type t.name) ∧ t.nm ≠ "__name__" := by
  intro t
  cases t <;> exact ⟨by decide +kernel, by decide +kernel⟩
theorem bf_kind : ∀ f : BF, (∃ id, bfV f = .builtin id) ∨ ∃ T, bfV f = .type T := by
  intro f
  cases f <;> first | exact .inl ⟨_, rfl⟩ | exact .inr ⟨_, rfl⟩
theorem evL_len : ∀ {es : L} {xs : List Expr}, chkL C es xs = true → ∀ ρ S ds S', evL es ρ S = .ok ds S' → ds.length = xs.length
  | .nil, xs, h, ρ, S, ds, S', e => by
    simp only [chkL] at h
    split at h
    · cases e; rfl
    · cases h
  | .cons a es, xs, h, ρ, S, ds, S', e => by
    simp only [chkL] at h
    split at h
    · rename_i x xs
      simp only [Bool.and_eq_true] at h
      have e : (evE a ρ S).bind (fun d S => (evL es ρ S).bind fun ds S => .ok (d :: ds) S) = .ok ds S' := e
      obtain ⟨d, S1, e1, e⟩ := R.bind_eq_ok e
      obtain ⟨ds', S2, e2, e⟩ := R.bind_eq_ok e
      cases e
      rw [List.length_cons, List.length_cons, evL_len h.2 ρ S1 ds' S' e2]
    · cases h
theorem chkK_len : ∀ {ks : List Str} {es : L} {kws : List Keyword}, chkK C ks es kws = true → kws.map (·.arg) = ks.map some ∧ ∀ ρ S ds S', evL es ρ S = .ok ds S' → ds.length = ks.length
  | ks, .nil, kws, h => by
    simp only [chkK] at h
    split at h
    · exact ⟨rfl, fun ρ S ds S' e => by cases e; rfl⟩
    · cases h
  | ks, .cons a es, kws, h => by
    simp only [chkK] at h
    split at h
    · rename_i k ks n x p kws
      simp only [Bool.and_eq_true, decide_eq_true_eq] at h
      obtain ⟨⟨rfl, h1⟩, h2⟩ := h
      obtain ⟨i1, i2⟩ := chkK_len h2
      refine ⟨by rw [List.map_cons, List.map_cons, i1], fun ρ S ds S' e => ?_⟩
      have e : (evE a ρ S).bind (fun d S => (evL es ρ S).bind fun ds S => .ok (d :: ds) S) = .ok ds S' := e
      obtain ⟨d, S1, e1, e⟩ := R.bind_eq_ok e
      obtain ⟨ds', S2, e2, e⟩ := R.bind_eq_ok e
      cases e
      rw [List.length_cons, List.length_cons, i2 ρ S1 ds' S' e2]
    · cases h
theorem chkL_plain : ∀ {es : L} {xs : List Expr}, chkL C es xs = true → plainL xs = true
  | .nil, xs, h => by
    simp only [chkL] at h
    split at h
    · rfl
    · cases h
  | .cons a es, xs, h => by
    simp only [chkL] at h
    split at h
    · rename_i x xs
      simp only [Bool.and_eq_true] at h
      show (noStar x && plainL xs) = true
      rw [h.1.1, chkL_plain h.2]; rfl
    · cases h
end
end PX

/-! PX18: the check is sound: expressions. -/
namespace PX
open PySem L2
def lastOk {o o' : CmpOp} {b c : Expr} (h : notSet c = true) : lastMarks [o, o'] [b, c] = false := notSet_marks h
theorem both {X : Cx} {W : WX} {x : Expr} {m : Env → Store → R D} (h : XE' X W x m) (hp : plainTest x = true) : XE' X W x m ∧ XT X W x m := ⟨h, t_plain h (plainTest_is hp)⟩
mutual
theorem soundE : ∀ (e : E) {C : CC} {X : Cx} {lvl : Nat} {W : WX} {x : Expr}, CxOk C X lvl → Takes X W → chkE C e x = true → Has X lvl (ndE e) → XE' X W x (evE e) ∧ XT X W x (evE e)
  | .var i, C, X, lvl, W, x, ok, tk, h, hn => by
    simp only [chkE] at h
    split at h
    · simp only [Bool.and_eq_true, decide_eq_true_eq] at h
      obtain ⟨⟨h1, h2⟩, h3⟩ := h
      exact both (x_var (by rw [ok.N]; exact h1) (ok.vis h2) (nmOk_is h3).1 (nmOk_is h3).2) rfl
    · cases h
  | .int i, C, X, lvl, W, x, ok, tk, h, hn => by
    simp only [chkE] at h
    split at h
    · obtain rfl := of_decide_eq_true h
      exact both (x_int) rfl
    · cases h
  | .str z, C, X, lvl, W, x, ok, tk, h, hn => by
    simp only [chkE] at h
    split at h
    · unfold strB at h
      simp only [Bool.and_eq_true, decide_eq_true_eq] at h
      obtain ⟨rfl, h1, h2⟩ := h
      exact both (x_str h1 h2) rfl
    · cases h
  | .bl b, C, X, lvl, W, x, ok, tk, h, hn => by
    simp only [chkE] at h
    split at h
    · obtain rfl := of_decide_eq_true h
      exact both (x_bl) rfl
    · cases h
  | .non, C, X, lvl, W, x, ok, tk, h, hn => by
    simp only [chkE] at h
    split at h
    · exact both (x_non) rfl
    · cases h
  | .glob n d, C, X, lvl, W, x, ok, tk, h, hn => by
    simp only [chkE] at h
    split at h
    · simp only [Bool.and_eq_true, decide_eq_true_eq] at h
      obtain ⟨rfl, h1⟩ := h
      exact both (x_glob (ok.gl h1).1 (hn (.gl n d) List.mem_cons_self) (ok.gl h1).2) rfl
    · cases h
  | .tup es, C, X, lvl, W, x, ok, tk, h, hn => by
    simp only [chkE] at h
    split at h
    · simp only [Bool.and_eq_true, decide_eq_true_eq] at h
      obtain ⟨h1, h2⟩ := h
      exact both (x_tup (Nat.le_trans h2 (by decide)) (evL_len h1) (soundL es ok tk h1 hn)) rfl
    · cases h
  | .lst es, C, X, lvl, W, x, ok, tk, h, hn => by
    simp only [chkE] at h
    split at h
    · simp only [Bool.and_eq_true, decide_eq_true_eq] at h
      obtain ⟨h1, h2⟩ := h
      exact both (x_lst (Nat.le_trans h2 (by decide)) (evL_len h1) (soundL es ok tk h1 hn)) rfl
    · cases h
  | .new es, C, X, lvl, W, x, ok, tk, h, hn => by
    simp only [chkE] at h
    split at h
    · simp only [Bool.and_eq_true, decide_eq_true_eq] at h
      obtain ⟨h1, h2⟩ := h
      exact both (x_new (Nat.le_trans h2 (by decide)) (evL_len h1) (soundL es ok tk h1 hn)) rfl
    · cases h
  | .dic, C, X, lvl, W, x, ok, tk, h, hn => by
    simp only [chkE] at h
    split at h
    · exact both (x_dic) rfl
    · cases h
  | .bin o a b, C, X, lvl, W, x, ok, tk, h, hn => by
    simp only [chkE] at h
    split at h
    · simp only [Bool.and_eq_true, decide_eq_true_eq] at h
      obtain ⟨⟨rfl, h1⟩, h2⟩ := h
      obtain ⟨n1, n2⟩ := Has.app hn
      exact both (x_bin o (soundE a ok tk h1 n1).1 (soundE b ok tk h2 n2).1) rfl
    · cases h
  | .neg a, C, X, lvl, W, x, ok, tk, h, hn => by
    simp only [chkE] at h
    split at h
    · exact both (x_neg (soundE a ok tk h hn).1) rfl
    · cases h
  | .not a, C, X, lvl, W, x, ok, tk, h, hn => by
    simp only [chkE] at h
    split at h
    · exact ⟨x_not (soundE a ok tk h hn).1, t_not (soundE a ok tk h hn).2⟩
    · cases h
  | .cmp o a b, C, X, lvl, W, x, ok, tk, h, hn => by
    simp only [chkE] at h
    split at h
    · simp only [Bool.and_eq_true, decide_eq_true_eq] at h
      obtain ⟨⟨⟨rfl, h0⟩, h1⟩, h2⟩ := h
      obtain ⟨n1, n2⟩ := Has.app hn
      exact ⟨x_cmp ok.un o (soundE a ok tk h1 n1).1 (soundE b ok tk h2 n2).1 (notSet_marks h0), t_cmp ok.un o (soundE a ok tk h1 n1).1 (soundE b ok tk h2 n2).1 (notSet_marks h0)⟩
    · cases h
  | .chain o o' a b c, C, X, lvl, W, x, ok, tk, h, hn => by
    simp only [chkE] at h
    split at h
    · simp only [Bool.and_eq_true, decide_eq_true_eq] at h
      obtain ⟨⟨⟨⟨⟨rfl, rfl⟩, h0⟩, h1⟩, h2⟩, h3⟩ := h
      obtain ⟨n1, n2⟩ := Has.app hn
      obtain ⟨n2, n3⟩ := Has.app n2
      exact ⟨x_chain ok.un o o' (soundE a ok tk h1 n1).1 (soundE b ok tk h2 n2).1 (soundE c ok tk h3 n3).1 (lastOk h0), t_chain ok.un o o' (soundE a ok tk h1 n1).1 (soundE b ok tk h2 n2).1 (soundE c ok tk h3 n3).1 (lastOk h0)⟩
    · cases h
  | .and es, C, X, lvl, W, x, ok, tk, h, hn => by
    simp only [chkE] at h
    split at h
    · simp only [Bool.and_eq_true, Bool.not_eq_true'] at h
      exact ⟨soundAnd es ok tk h.1 h.2 hn, (soundWA es ok tk h.1 h.2 hn).pt⟩
    · cases h
  | .or es, C, X, lvl, W, x, ok, tk, h, hn => by
    simp only [chkE] at h
    split at h
    · simp only [Bool.and_eq_true, Bool.not_eq_true'] at h
      exact ⟨soundOr es ok tk h.1 h.2 hn, (soundWO es ok tk h.1 h.2 hn).pt⟩
    · cases h
  | .ite c a b, C, X, lvl, W, x, ok, tk, h, hn => by
    simp only [chkE] at h
    split at h
    · simp only [Bool.and_eq_true] at h
      obtain ⟨⟨h1, h2⟩, h3⟩ := h
      obtain ⟨n1, n2⟩ := Has.app hn
      obtain ⟨n2, n3⟩ := Has.app n2
      exact ⟨x_ite (soundE c ok tk h1 n1).2 (soundE a ok tk h2 n2).1 (soundE b ok tk h3 n3).1, t_ite (soundE c ok tk h1 n1).2 (soundE a ok tk h2 n2).2 (soundE b ok tk h3 n3).2⟩
    · cases h
  | .ix a i, C, X, lvl, W, x, ok, tk, h, hn => by
    simp only [chkE] at h
    split at h
    · simp only [Bool.and_eq_true] at h
      obtain ⟨⟨h0, h1⟩, h2⟩ := h
      obtain ⟨n1, n2⟩ := Has.app hn
      exact both (x_ix ok.un1 (soundE a ok tk h1 n1).1 (soundE i ok tk h2 n2).1 (notSlice_ix h0)) rfl
    · cases h
  | .sl a lo hi, C, X, lvl, W, x, ok, tk, h, hn => by
    simp only [chkE] at h
    split at h
    · simp only [Bool.and_eq_true] at h
      obtain ⟨⟨h1, h2⟩, h3⟩ := h
      obtain ⟨n1, n2⟩ := Has.app hn
      obtain ⟨n2, n3⟩ := Has.app n2
      exact both (x_sl (soundE a ok tk h1 n1).1 (soundO lo ok tk h2 n2) (soundO hi ok tk h3 n3)) rfl
    · cases h
  | .rev a, C, X, lvl, W, x, ok, tk, h, hn => by
    simp only [chkE] at h
    split at h
    · simp only [Bool.and_eq_true, decide_eq_true_eq] at h
      obtain ⟨rfl, h1⟩ := h
      exact both (x_rev (soundE a ok tk h1 hn).1) rfl
    · cases h
  | .call sh f es, C, X, lvl, W, x, ok, tk, h, hn => by
    simp only [chkE] at h
    split at h
    · simp only [Bool.and_eq_true, decide_eq_true_eq, Bool.not_eq_true'] at h
      obtain ⟨⟨⟨rfl, h1⟩, h2⟩, h3⟩ := h
      obtain ⟨n1, n2⟩ := Has.cons hn
      rename_i xs _
      cases xs with
      | nil => cases h3
      | cons y ys =>
        have hp := chkL_plain h2
        have hp' : (noStar y && plainL ys) = true := hp
        rw [Bool.and_eq_true] at hp'
        exact both (x_call tk n1 ok.room (ok.gl h1).1 (ok.gl h1).2 (soundL es ok tk h2 n2) (star_cons hp'.1) (back_plain hp'.2)) rfl
    · cases h
  | .callk sh f es ks kes, C, X, lvl, W, x, ok, tk, h, hn => by
    simp only [chkE] at h
    split at h
    · simp only [Bool.and_eq_true, decide_eq_true_eq] at h
      obtain ⟨⟨⟨⟨rfl, h1⟩, h2⟩, h3⟩, h4⟩ := h
      obtain ⟨n1, n2⟩ := Has.cons hn
      obtain ⟨n2, n3⟩ := Has.app n2
      obtain ⟨l1, l2⟩ := chkK_len h3
      rename_i xs kws _ _
      obtain ⟨k1, k2, k3⟩ := kw_facts (env := X.env) (pos := _) l1
      cases xs with
      | nil =>
        cases es with
        | nil => exact both (x_callk0 tk n1 ok.room (ok.gl h1).1 (ok.gl h1).2 h4 (soundK kes ok tk h3 n3) l2 k1 k2 (by rw [k3]; rfl)) rfl
        | cons _ _ => simp only [chkL] at h2; exact absurd h2 Bool.false_ne_true
      | cons y ys =>
        have hp := chkL_plain h2
        have hp' : (noStar y && plainL ys) = true := hp
        rw [Bool.and_eq_true] at hp'
        exact both (x_callk tk n1 ok.room (ok.gl h1).1 (ok.gl h1).2 h4 (soundL es ok tk h2 n2) (soundK kes ok tk h3 n3) (evL_len h2) l2 k1 k2 (star_cons hp'.1) (by rw [k3, back_plain hp]; rfl)) rfl
    · cases h
  | .bi f es, C, X, lvl, W, x, ok, tk, h, hn => by
    simp only [chkE] at h
    split at h
    · simp only [Bool.and_eq_true, decide_eq_true_eq, Bool.not_eq_true'] at h
      obtain ⟨⟨⟨rfl, h1⟩, h2⟩, h3⟩ := h
      obtain ⟨n1, n2⟩ := Has.cons hn
      rename_i xs _
      cases xs with
      | nil => cases h3
      | cons y ys =>
        have hp := chkL_plain h2
        have hp' : (noStar y && plainL ys) = true := hp
        rw [Bool.and_eq_true] at hp'
        obtain ⟨b1, b2⟩ := boot_bf f
        rcases bf_kind f with ⟨id, e⟩ | ⟨T, e⟩
        · exact both (x_biB ok.calm e (ok.gl h1).1 n1 (by rw [b1, e]) b2 (ok.gl h1).2 (soundL es ok tk h2 n2) (star_cons hp'.1) (back_plain hp'.2)) rfl
        · exact both (x_biT ok.calm e (ok.gl h1).1 n1 (by rw [b1, e]) b2 (ok.gl h1).2 (soundL es ok tk h2 n2) (star_cons hp'.1) (back_plain hp'.2)) rfl
    · cases h
  | .sset a, C, X, lvl, W, x, ok, tk, h, hn => by
    simp only [chkE] at h
    split at h
    · simp only [Bool.and_eq_true, decide_eq_true_eq] at h
      obtain ⟨⟨⟨⟨⟨rfl, rfl⟩, h1⟩, h2⟩, h3⟩, h4⟩ := h
      obtain ⟨n1, n2⟩ := Has.cons hn
      obtain ⟨n2, n3⟩ := Has.cons n2
      exact both (x_sset ok.calm (ok.gl h1).1 n1 (ok.gl h2).1 n2 (soundE a ok tk h4 n3).1 (by rw [star_cons h3])) rfl
    · cases h
  | .isi a t, C, X, lvl, W, x, ok, tk, h, hn => by
    simp only [chkE] at h
    split at h
    · simp only [Bool.and_eq_true, decide_eq_true_eq] at h
      obtain ⟨⟨⟨⟨⟨rfl, rfl⟩, h1⟩, h2⟩, h3⟩, h4⟩ := h
      obtain ⟨n1, n2⟩ := Has.cons hn
      obtain ⟨n2, n3⟩ := Has.cons n2
      obtain ⟨b1, b2⟩ := boot_ty t
      exact both (x_isi (ok.gl h1).1 n1 (ok.gl h2).1 n2 b1 b2 (ok.gl h2).2 (soundE a ok tk h4 n3).1 (by rw [star_cons h3]; rfl)) rfl
    · cases h
  | .meth m o es, C, X, lvl, W, x, ok, tk, h, hn => by
    simp only [chkE] at h
    split at h
    · simp only [Bool.and_eq_true, decide_eq_true_eq] at h
      obtain ⟨⟨⟨⟨⟨rfl, h0⟩, h1⟩, h2⟩, h3⟩, h4⟩ := h
      obtain ⟨n1, n2⟩ := Has.app hn
      rename_i xs _
      cases xs with
      | nil =>
        cases es with
        | nil => exact both (x_meth0 ok.un1 (soundE o ok tk h2 n1).1 (notCall_base h0) h1) rfl
        | cons => simp only [chkL] at h3; cases h3
      | cons y ys =>
        have hp := chkL_plain h3
        have hp' : (noStar y && plainL ys) = true := hp
        rw [Bool.and_eq_true] at hp'
        refine both (x_meth ok.un1 (soundE o ok tk h2 n1).1 (soundL es ok tk h3 n2) (notCall_base h0) ?_ h1 (star_cons hp'.1) (back_plain hp'.2)) rfl
        rw [back_all hp]
        show (true && true && decide ((y :: ys).length + 0 + 0 < 30)) = true
        rw [Bool.and_self, Bool.true_and]
        exact decide_eq_true h4
    · cases h
  | .lc vs mu t it c e, C, X, lvl, W, x, ok, tk, h, hn => by
    simp only [chkE] at h
    split at h
    · simp only [Bool.and_eq_true, decide_eq_true_eq, List.all_eq_true] at h
      obtain ⟨⟨⟨⟨⟨⟨⟨rfl, h1⟩, h2⟩, h3⟩, h4⟩, h5⟩, h6⟩, h7⟩ := h
      obtain ⟨n1, n2⟩ := Has.app hn
      obtain ⟨n2, n3⟩ := Has.app n2
      exact both (x_lc (own := ownOf C vs) ok.calm ok.xnd (soundI it ok tk h4 n1) (blkOk_by (by rw [ok.N, ok.sc]; exact h1)) (ownOf_snd C vs) h2 (fun s H A cl fp => chkT_is (ok.blk _ s H A cl fp) h5)
        (fun s H A cl fp => soundC c (ok.blk _ s H A cl fp) h6 n2) (fun s H A cl fp => (soundE e (ok.blk _ s H A cl fp) takes0 h7 n3).1) (notSet_fold h3)) rfl
    · cases h
  | .lc2 vs vs1 mu t it c t1 it1 c1 e, C, X, lvl, W, x, ok, tk, h, hn => by
    simp only [chkE] at h
    split at h
    · simp only [Bool.and_eq_true, decide_eq_true_eq, List.all_eq_true] at h
      obtain ⟨⟨⟨⟨⟨⟨⟨⟨⟨⟨⟨⟨⟨⟨rfl, rfl⟩, h1⟩, h2⟩, h2b⟩, h2c⟩, h3⟩, h3b⟩, h4⟩, h5⟩, h6⟩, h7⟩, h8⟩, h9⟩, h10⟩ := h
      obtain ⟨n1, n2⟩ := Has.app hn
      obtain ⟨n2, n3⟩ := Has.app n2
      obtain ⟨n3, n4⟩ := Has.app n3
      obtain ⟨n4, n5⟩ := Has.app n4
      exact both (x_lc2 (own := ownOf C vs) ok.calm ok.xnd (soundI it ok tk h4 n1) (blkOk_by (by rw [ok.N, ok.sc]; exact h1)) (ownOf_snd C vs) h2 h2b h2c (fun s H A cl fp => chkT_is (ok.blk _ s H A cl fp) h5)
        (fun s H A cl fp => soundC c (ok.blk _ s H A cl fp) h6 n2) (fun s H A cl fp => soundI it1 (ok.blk _ s H A cl fp) takes0 h7 n3) (fun s H A cl fp => chkT_is (ok.blk _ s H A cl fp) h8)
        (fun s H A cl fp => soundC c1 (ok.blk _ s H A cl fp) h9 n4) (fun s H A cl fp => (soundE e (ok.blk _ s H A cl fp) takes0 h10 n5).1) (notSet_fold h3) (fun env => notSet_fold h3b)) rfl
    · cases h
theorem soundL : ∀ (es : L) {C : CC} {X : Cx} {lvl : Nat} {W : WX} {xs : List Expr}, CxOk C X lvl → Takes X W → chkL C es xs = true → Has X lvl (ndL es) → XL X W xs (evL es)
  | .nil, C, X, lvl, W, xs, ok, tk, h, hn => by
    simp only [chkL] at h
    split at h
    · exact l_nil
    · cases h
  | .cons e es, C, X, lvl, W, xs, ok, tk, h, hn => by
    simp only [chkL] at h
    split at h
    · simp only [Bool.and_eq_true] at h
      obtain ⟨⟨h0, h1⟩, h2⟩ := h
      obtain ⟨n1, n2⟩ := Has.app hn
      exact l_cons (soundE e ok tk h1 n1).1 (soundL es ok tk h2 n2) (star_cons h0)
    · cases h
theorem soundK : ∀ (es : L) {C : CC} {X : Cx} {lvl : Nat} {W : WX} {ks : List Str} {kws : List Keyword}, CxOk C X lvl → Takes X W → chkK C ks es kws = true → Has X lvl (ndL es) → XK' X W kws (evL es)
  | .nil, C, X, lvl, W, ks, kws, ok, tk, h, hn => by
    simp only [chkK] at h
    split at h
    · exact k_nil
    · cases h
  | .cons e es, C, X, lvl, W, ks, kws, ok, tk, h, hn => by
    simp only [chkK] at h
    split at h
    · simp only [Bool.and_eq_true] at h
      obtain ⟨⟨h0, h1⟩, h2⟩ := h
      obtain ⟨n1, n2⟩ := Has.app hn
      exact k_cons (soundE e ok tk h1 n1).1 (soundK es ok tk h2 n2)
    · cases h
theorem soundAnd : ∀ (es : L) {C : CC} {X : Cx} {lvl : Nat} {W : WX} {xs : List Expr} {pos : Pos}, CxOk C X lvl → Takes X W → chkL C es xs = true → xs.isEmpty = false → Has X lvl (ndL es) → XE' X W (.BoolOp .And xs pos) (evAnd es)
  | .nil, C, X, lvl, W, xs, pos, ok, tk, h, he, hn => by
    simp only [chkL] at h
    split at h
    · cases he
    · cases h
  | .cons e es, C, X, lvl, W, xs, pos, ok, tk, h, he, hn => by
    simp only [chkL] at h
    split at h
    · simp only [Bool.and_eq_true] at h
      obtain ⟨⟨h0, h1⟩, h2⟩ := h
      obtain ⟨n1, n2⟩ := Has.app hn
      rename_i x xs
      cases es with
      | nil =>
        simp only [chkL] at h2
        split at h2
        · exact pe_one (soundE e ok tk h1 n1).1
        · cases h2
      | cons e2 es =>
        cases xs with
        | nil => simp only [chkL] at h2; cases h2
        | cons y ys => exact x_and (soundE e ok tk h1 n1).1 (soundAnd (.cons e2 es) ok tk h2 rfl n2)
    · cases h
theorem soundOr : ∀ (es : L) {C : CC} {X : Cx} {lvl : Nat} {W : WX} {xs : List Expr} {pos : Pos}, CxOk C X lvl → Takes X W → chkL C es xs = true → xs.isEmpty = false → Has X lvl (ndL es) → XE' X W (.BoolOp .Or xs pos) (evOr es)
  | .nil, C, X, lvl, W, xs, pos, ok, tk, h, he, hn => by
    simp only [chkL] at h
    split at h
    · cases he
    · cases h
  | .cons e es, C, X, lvl, W, xs, pos, ok, tk, h, he, hn => by
    simp only [chkL] at h
    split at h
    · simp only [Bool.and_eq_true] at h
      obtain ⟨⟨h0, h1⟩, h2⟩ := h
      obtain ⟨n1, n2⟩ := Has.app hn
      rename_i x xs
      cases es with
      | nil =>
        simp only [chkL] at h2
        split at h2
        · exact pe_one (soundE e ok tk h1 n1).1
        · cases h2
      | cons e2 es =>
        cases xs with
        | nil => simp only [chkL] at h2; cases h2
        | cons y ys => exact x_or (soundE e ok tk h1 n1).1 (soundOr (.cons e2 es) ok tk h2 rfl n2)
    · cases h
theorem soundWA : ∀ (es : L) {C : CC} {X : Cx} {lvl : Nat} {W : WX} {xs : List Expr} {pos : Pos}, CxOk C X lvl → Takes X W → chkL C es xs = true → xs.isEmpty = false → Has X lvl (ndL es) → XW X W (.BoolOp .And xs pos) (evAnd es)
  | .nil, C, X, lvl, W, xs, pos, ok, tk, h, he, hn => by
    simp only [chkL] at h
    split at h
    · cases he
    · cases h
  | .cons e es, C, X, lvl, W, xs, pos, ok, tk, h, he, hn => by
    simp only [chkL] at h
    split at h
    · simp only [Bool.and_eq_true] at h
      obtain ⟨⟨h0, h1⟩, h2⟩ := h
      obtain ⟨n1, n2⟩ := Has.app hn
      rename_i x xs
      cases es with
      | nil =>
        simp only [chkL] at h2
        split at h2
        · exact pw_and1 (soundE e ok tk h1 n1).2
        · cases h2
      | cons e2 es =>
        cases xs with
        | nil => simp only [chkL] at h2; cases h2
        | cons y ys => exact w_and (soundE e ok tk h1 n1).2 (soundWA (.cons e2 es) ok tk h2 rfl n2)
    · cases h
theorem soundWO : ∀ (es : L) {C : CC} {X : Cx} {lvl : Nat} {W : WX} {xs : List Expr} {pos : Pos}, CxOk C X lvl → Takes X W → chkL C es xs = true → xs.isEmpty = false → Has X lvl (ndL es) → XW X W (.BoolOp .Or xs pos) (evOr es)
  | .nil, C, X, lvl, W, xs, pos, ok, tk, h, he, hn => by
    simp only [chkL] at h
    split at h
    · cases he
    · cases h
  | .cons e es, C, X, lvl, W, xs, pos, ok, tk, h, he, hn => by
    simp only [chkL] at h
    split at h
    · simp only [Bool.and_eq_true] at h
      obtain ⟨⟨h0, h1⟩, h2⟩ := h
      obtain ⟨n1, n2⟩ := Has.app hn
      rename_i x xs
      cases es with
      | nil =>
        simp only [chkL] at h2
        split at h2
        · exact pw_or1 (soundE e ok tk h1 n1).2
        · cases h2
      | cons e2 es =>
        cases xs with
        | nil => simp only [chkL] at h2; cases h2
        | cons y ys => exact w_or (soundE e ok tk h1 n1).2 (soundWO (.cons e2 es) ok tk h2 rfl n2)
    · cases h
theorem soundO : ∀ (o : O) {C : CC} {X : Cx} {lvl : Nat} {W : WX} {x : Option Expr}, CxOk C X lvl → Takes X W → chkO C o x = true → Has X lvl (ndO o) → XO X W x (evO o)
  | .none, C, X, lvl, W, x, ok, tk, h, hn => by
    simp only [chkO] at h
    split at h
    · exact o_none
    · cases h
  | .some e, C, X, lvl, W, x, ok, tk, h, hn => by
    simp only [chkO] at h
    split at h
    · exact o_some (soundE e ok tk h hn).1
    · cases h
theorem soundC : ∀ (o : O) {C : CC} {X : Cx} {lvl : Nat} {xs : List Expr}, CxOk C X lvl → chkC C o xs = true → Has X lvl (ndO o) → PTs X xs (tQ X.K X.mg (evC o) W0)
  | .none, C, X, lvl, xs, ok, h, hn => by
    simp only [chkC] at h
    split at h
    · exact c_none
    · cases h
  | .some e, C, X, lvl, xs, ok, h, hn => by
    simp only [chkC] at h
    split at h
    · exact c_some (soundE e ok takes0 h hn).2
    · cases h
theorem soundI : ∀ (i : I) {C : CC} {X : Cx} {lvl : Nat} {W : WX} {tg x : Expr}, CxOk C X lvl → Takes X W → chkI C tg i x = true → Has X lvl (ndI i) → XI X W tg x (evI i)
  | .seq e, C, X, lvl, W, tg, x, ok, tk, h, hn => by
    simp only [chkI] at h
    exact i_seq (soundE e ok tk h hn).1
  | .rng1 a, C, X, lvl, W, tg, x, ok, tk, h, hn => by
    simp only [chkI] at h
    split at h
    · simp only [Bool.and_eq_true, decide_eq_true_eq] at h
      obtain ⟨⟨⟨rfl, h1⟩, h2⟩, h3⟩ := h
      obtain ⟨n1, n2⟩ := Has.cons hn
      exact i_rng1 (ok.gl h1).1 n1 (soundE a ok tk h3 n2).1 (by rw [star_cons h2]; rfl)
    · cases h
  | .rng2 a b, C, X, lvl, W, tg, x, ok, tk, h, hn => by
    simp only [chkI] at h
    split at h
    · simp only [Bool.and_eq_true, decide_eq_true_eq] at h
      obtain ⟨⟨⟨⟨⟨rfl, h1⟩, h2⟩, h3⟩, h4⟩, h5⟩ := h
      obtain ⟨n1, n2⟩ := Has.cons hn
      obtain ⟨n2, n3⟩ := Has.app n2
      exact i_rng2 (ok.gl h1).1 n1 (soundE a ok tk h4 n2).1 (soundE b ok tk h5 n3).1 (by rw [star_cons h2, star_cons h3]; rfl) (by rw [star_cons h3]; rfl)
    · cases h
  | .enum a, C, X, lvl, W, tg, x, ok, tk, h, hn => by
    simp only [chkI] at h
    split at h
    · simp only [Bool.and_eq_true, decide_eq_true_eq] at h
      obtain ⟨⟨⟨⟨rfl, h0⟩, h1⟩, h2⟩, h3⟩ := h
      obtain ⟨n1, n2⟩ := Has.cons hn
      cases tg with
      | Tuple => exact i_enum (ok.gl h1).1 n1 (soundE a ok tk h3 n2).1 (by rw [star_cons h2]; rfl)
      | _ => cases h0
    · cases h
  | .zip a b, C, X, lvl, W, tg, x, ok, tk, h, hn => by
    simp only [chkI] at h
    split at h
    · simp only [Bool.and_eq_true, decide_eq_true_eq] at h
      obtain ⟨⟨⟨⟨⟨⟨rfl, h0⟩, h1⟩, h2⟩, h3⟩, h4⟩, h5⟩ := h
      obtain ⟨n1, n2⟩ := Has.cons hn
      obtain ⟨n2, n3⟩ := Has.app n2
      cases tg with
      | Tuple => exact i_zip (ok.gl h1).1 n1 (soundE a ok tk h4 n2).1 (soundE b ok tk h5 n3).1 (star_cons h2) (by rw [star_cons h3]; rfl)
      | _ => cases h0
    · cases h
  | .rev a, C, X, lvl, W, tg, x, ok, tk, h, hn => by
    simp only [chkI] at h
    split at h
    · simp only [Bool.and_eq_true, decide_eq_true_eq] at h
      obtain ⟨⟨⟨rfl, h1⟩, h2⟩, h3⟩ := h
      obtain ⟨n1, n2⟩ := Has.cons hn
      exact i_rev (ok.gl h1).1 n1 (soundE a ok tk h3 n2).1 (by rw [star_cons h2]; rfl)
    · cases h
end
end PX

/-! PX19: the check is sound: statements, defs. -/
namespace PX
open PySem L2
def noTgt : Expr → Expr → Bool
  | .Name .., _ => true
  | .Tuple .., x => !isTup x
  | _, _ => false
theorem noTgt_is {tg x : Expr} {env : PySem.Env} (h : noTgt tg x = true) : swappedStores [tg] x env = pure none := by
  cases tg with
  | Name => cases x <;> rfl
  | Tuple => cases x <;> first | rfl | cases h
  | _ => cases h
theorem tgt_each {t : T} {C : CC} {tg : Expr} {env : PySem.Env} (h : chkT C t tg = true) : (assignEach [tg] env).map (·.2) = [assign tg env] := by
  unfold chkT at h
  split at h
  · rfl
  · rfl
  · cases h
/-- a comprehension's store that is exchanged -/
def swLc (C : CC) (y : Str) (py pos : Pos) (scope : Scope) : Bool := decide (C.sc.names.lookup y = some .local) && (py.line == pos.line) && !(scope.names.any fun (n, k) => n == y && (k == .local || k == .cell))
theorem swLc_not {elt : Expr} {gs : List Comprehension} {scope : Scope} {pos py : Pos} {y : Str} {l : Nat} {env : PySem.Env} {C : CC} (hk : env.scope.kind = .function) (hs : env.scope = C.sc) (h : swLc C y py pos scope = false) : swapsWith (.ListComp elt gs scope pos) (some (.Name y py)) l env = pure false := by
  have hb : env.blockKind = .function := by unfold Env.blockKind; rw [hk]; rfl
  unfold swLc at h
  unfold swapsWith Env.kindOf
  dsimp only
  rw [hb, hs]
  have e0 : (ScopeKind.function == ScopeKind.function) = true := by decide
  rw [e0, Bool.true_and]
  have e1 : (C.sc.names.lookup y == some NameKind.local) = decide (C.sc.names.lookup y = some .local) := by
    by_cases q : C.sc.names.lookup y = some .local
    · rw [q]; decide
    · rw [decide_eq_false q]; simpa using q
  rw [e1]
  show pure _ = pure _
  congr 1
theorem noComp_sole {e tg : Expr} {l : Nat} {env : PySem.Env} (h : noComp e = true) : swapsWithSole [tg] e l env = pure false := by
  cases e <;> first | rfl | cases h
def lcOk : Expr → Bool
  | .ListComp .. => true
  | v => noComp v
mutual
def chkS (C : CC) : S → Stmt → Bool
  | .asg t e, x => match x with
    | .Assign [tg] v _ => chkT C t tg && chkE C e v && lcOk v && (match tg, v with
      | .Tuple ts _ _, .Tuple vs _ _ => plainL vs && decide (swC ts vs C.sc = none) && (!vs.all (constantsAlone 8) || vs.all (foldedForSure 8))
      | _, _ => noTgt tg v)
    | _ => false
  | .par2 i j a b, x => match x with
    | .Assign [.Tuple [.Name y p, .Name z q] k r] (.Tuple [u, v] k2 r2) _ => decide (i ≠ j) && decide (C.N[i]? = some y) && decide (C.N[j]? = some z) && decide (C.sc.names.lookup y = some .local) && decide (C.sc.names.lookup z = some .local) && noStar u && noStar v &&
        chkE C a u && chkE C b v && decide (swC [.Name y p, .Name z q] [u, v] C.sc = some [y, z]) && (!([u, v].all (constantsAlone 8)) || [u, v].all (foldedForSure 8))
    | _ => false
  | .par3 i j l a b c, x => match x with
    | .Assign [.Tuple [.Name y p, .Name z q, .Name t o] k r] (.Tuple [u, v, g] k2 r2) _ => decide (i ≠ j) && decide (i ≠ l) && decide (j ≠ l) && decide (C.N[i]? = some y) && decide (C.N[j]? = some z) && decide (C.N[l]? = some t) && decide (C.sc.names.lookup y = some .local) && decide (C.sc.names.lookup z = some .local) && decide (C.sc.names.lookup t = some .local) && noStar u && noStar v && noStar g &&
        chkE C a u && chkE C b v && chkE C c g && decide (swC [.Name y p, .Name z q, .Name t o] [u, v, g] C.sc = some [y, z, t]) && (!([u, v, g].all (constantsAlone 8)) || [u, v, g].all (foldedForSure 8))
    | _ => false
  | .aug i o e, x => match x with
    | .AugAssign (.Name y _) op v _ => (decide (o = .add) || decide (o = .sub)) && decide (opOf o = op) && stoB C i y && chkE C e v
    | _ => false
  | .set o i e, x => match x with
    | .Assign [.Subscript l r _] v _ => chkE C o l && chkE C i r && chkE C e v && noComp v && notSlice r
    | _ => false
  | .expr e, x => match x with
    | .Expr v _ => chkE C e v && noComp v
    | _ => false
  | .ret e, x => match x with
    | .Return (some v) _ => chkE C e v
    | _ => false
  | .retN, x => match x with
    | .Return none _ => true
    | _ => false
  | .ite c a b, x => match x with
    | .If t l r _ => chkE C c t && chkB C a l && chkB C b r
    | _ => false
  | .for_ t it b, x => match x with
    | .For tg v l [] _ => chkI C tg it v && chkT C t tg && notSet v && chkB C b l
    | _ => false
  | .while_ c b, x => match x with
    | .While t l [] _ => chkE C c t && chkB C b l
    | _ => false
  | .brk, x => match x with
    | .Break _ => true
    | _ => false
  | .cont, x => match x with
    | .Continue _ => true
    | _ => false
  | .pass, x => match x with
    | .Pass _ => true
    | _ => false
  | .raise c _, x => match x with
    | .Raise (some (.Call (.Name n _) [.Constant (.str _) _ _] [] _)) none _ => decide (c = n) && glB C n
    | _ => false
  | .try_ b cs hs, x => match x with
    | .Try l hds [] [] _ => chkB C b l && !cs.isEmpty && chkH C hds hs && !hds.isEmpty && hs.all (fun q => strB q.2.2.2)
    | _ => false
def chkB (C : CC) : B → List Stmt → Bool
  | .nil, xs => match xs with
    | [] => true
    | _ => false
  | .cons s r, xs => match xs with
    | x :: xs => chkS C s x && chkB C r xs
    | _ => false
def chkH (C : CC) : List ExceptHandler → List (Str × List Str × Nat × Str) → Bool
  | [], hs => match hs with
    | [] => true
    | _ => false
  | h :: r, hs => match h, hs with
    | .ExceptHandler (some (.Name x _)) none [.Assign [.Name y _] (.Constant (.str m) _ _) _] _, (n, _, i, m') :: hs => decide (n = x) && decide (m = m') && glB C x && stoB C i y && chkH C r hs
    | _, _ => false
end
mutual
def ndS : S → List Nd
  | .asg _ e => ndE e
  | .par2 _ _ a b => ndE a ++ ndE b
  | .par3 _ _ _ a b c => ndE a ++ (ndE b ++ ndE c)
  | .aug _ _ e => ndE e
  | .set o i e => ndE o ++ (ndE i ++ ndE e)
  | .expr e => ndE e
  | .ret e => ndE e
  | .retN => []
  | .ite c a b => ndE c ++ (ndB a ++ ndB b)
  | .for_ _ it b => ndI it ++ ndB b
  | .while_ c b => ndE c ++ ndB b
  | .brk => [] | .cont => [] | .pass => []
  | .raise c _ => [.cl c]
  | .try_ b cs hs => .hd cs hs :: ndB b
def ndB : B → List Nd
  | .nil => []
  | .cons s r => ndS s ++ ndB r
end
structure SxOk (C : CC) (X : Cx) (lvl : Nat) : Prop where
  cx : CxOk C X lvl
  kd : C.sc.kind = .function
  st : X.stack = X.env :: X.outer
  fr : X.env.frame = some X.env.locals
  po : PassesOwn (model X.prog X.w) X.A X.env X.xe
section
variable {C : CC} {X : Cx} {lvl : Nat} {W : WX}
theorem SxOk.tr (ok : SxOk C X lvl) {pn : List (Addr × Obj)} {xe : Value → Shared → Prop} (po : PassesOwn (model X.prog X.w) X.A X.env xe) : SxOk C (X.tr pn xe) lvl :=
  ⟨⟨ok.cx.calm, ok.cx.N, ok.cx.nd, ok.cx.sc, ok.cx.fn, ok.cx.room⟩, ok.kd, ok.st, ok.fr, po⟩
theorem chkH_is (ok : CxOk C X lvl) : ∀ {hds : List ExceptHandler} {hs : List (Str × List Str × Nat × Str)}, chkH C hds hs = true → Hd X hds hs
  | [], hs, h => by
    simp only [chkH] at h
    split at h
    · exact .nil
    · cases h
  | hd :: hds, hs, h => by
    simp only [chkH] at h
    split at h
    · simp only [Bool.and_eq_true, decide_eq_true_eq] at h
      obtain ⟨⟨⟨⟨rfl, rfl⟩, h1⟩, h2⟩, h3⟩ := h
      exact .cons (ok.gl h1).1 (ok.gl h1).2 (ok.sto h2) (chkH_is ok h3)
    · cases h
theorem gD_name {K : PySem.W.Frag} {i : Nat} {x : V} {σ : St} {H : Hp} {Q : St → Hp → Prop} (h : gD K (.name i) x σ H Q) : gName i x σ H Q := by
  obtain ⟨bar, io, ρ, S, d, ρ', wd, r, e, q⟩ := h
  have e : some (ρ.set i (some d)) = some ρ' := e
  cases e
  exact q _ ⟨wd.env.set r i, wd.st⟩ fun vs hv => wipe_set (hv i (by simp [T.slots]))
/-- a value into a target -/
theorem asg_sound {t : T} {e : E} {tg v : Expr} {pos : Pos} (ok : SxOk C X lvl) (tk : Takes X W) (h1 : chkT C t tg = true) (h2 : chkE C e v = true) (h3 : lcOk v = true) (h4 : swappedStores [tg] v X.env = pure none) (hn : Has X lvl (ndE e)) : XS X W (.Assign [tg] v pos) (fun ρ S => (evE e ρ S).then ρ fun d S => match asgT t d ρ with
      | some ρ1 => .fl .next ρ1 S
      | none => .stuck) := by
  have hE := (soundE e ok.cx tk h2 hn).1
  have hG : PG X tg (gD X.K t) := chkT_is ok.cx h1
  have plain : swapsWithSole [tg] v pos.line X.env = pure false → XS X W (.Assign [tg] v pos) (fun ρ S => (evE e ρ S).then ρ fun d S => match asgT t d ρ with
      | some ρ1 => .fl .next ρ1 S
      | none => .stuck) := fun hs => s_asg hE hG hs h4 (tgt_each h1)
  cases v with
  | ListComp elt gs scope pos' =>
    cases tg with
    | Name y py =>
      cases t with
      | tup => cases h1
      | name i =>
        have h1' : stoB C i y = true := h1
        by_cases hsw : swLc C y py pos' scope = true
        · have hsw2 := hsw
          unfold swLc at hsw2
          simp only [Bool.and_eq_true, decide_eq_true_eq, Bool.not_eq_true'] at hsw2
          obtain ⟨⟨hl, hln⟩, hno⟩ := hsw2
          have hl' : X.env.scope.names.lookup y = some .local := by rw [ok.cx.sc]; exact hl
          have sw : swapsWith (.ListComp elt gs scope pos') (some (.Name y py)) pos.line X.env = pure true := sw_true (by rw [ok.cx.sc]; exact ok.kd) hl' hln hno
          have hi : X.N[i]? = some y := (ok.cx.sto h1').1
          have nd := ok.cx.xnd
          cases e with
          | lc vs mu t it c e =>
            simp only [chkE] at h2
            split at h2
            · simp only [Bool.and_eq_true, decide_eq_true_eq, List.all_eq_true] at h2
              rename_i heq
              cases heq
              obtain ⟨⟨⟨⟨⟨⟨⟨rfl, g1⟩, g2⟩, g3⟩, g4⟩, g5⟩, g6⟩, g7⟩ := h2
              obtain ⟨n1, n2⟩ := Has.app hn
              obtain ⟨n2, n3⟩ := Has.app n2
              refine (ps_setLc (te := tE X.K X.mg (evE e) W0) (g := gD X.K t) (tt := tQ X.K X.mg (evC c) W0) (own := ownOf C vs) ok.cx.calm nd hi hl' sw (soundI it ok.cx tk g4 n1) (blkOk_by (by rw [ok.cx.N, ok.cx.sc]; exact g1)) (fun s H A cl fp => chkT_is (ok.cx.blk _ s H A cl fp) g5)
                (fun s H A cl fp => soundC c (ok.cx.blk _ s H A cl fp) g6 n2) (fun s H A cl fp => (soundE e (ok.cx.blk _ s H A cl fp) takes0 g7 n3).1) (notSet_fold g3)).imp fun E σ H ⟨bar, io, ρ, S, wd, h⟩ => ?_
              have hr := asg_read (W := W) (ma := evE (.lc vs mu t it c e)) (t := .name i) wd h
              obtain ⟨b1, b2, b3, b4, b5, b6⟩ := hr
              refine lc_read (mu := mu) (by rw [ownOf_snd]; exact g2) ⟨b1, b2, b3, b4, b5, ?_⟩
              rw [ownOf_snd]
              exact Aft.imp b6 fun x H1 q => gD_name q
            · cases h2
          | lc2 vs vs1 mu t it c t1 it1 c1 e =>
            simp only [chkE] at h2
            split at h2
            · simp only [Bool.and_eq_true, decide_eq_true_eq, List.all_eq_true] at h2
              rename_i heq
              cases heq
              obtain ⟨⟨⟨⟨⟨⟨⟨⟨⟨⟨⟨⟨⟨⟨rfl, rfl⟩, g1⟩, g2⟩, g2b⟩, g2c⟩, g3⟩, g3b⟩, g4⟩, g5⟩, g6⟩, g7⟩, g8⟩, g9⟩, g10⟩ := h2
              obtain ⟨n1, n2⟩ := Has.app hn
              obtain ⟨n2, n3⟩ := Has.app n2
              obtain ⟨n3, n4⟩ := Has.app n3
              obtain ⟨n4, n5⟩ := Has.app n4
              refine (ps_setLc2 (te := tE X.K X.mg (evE e) W0) (g := gD X.K t) (g1 := gD X.K t1) (tt := tQ X.K X.mg (evC c) W0) (tt1 := tQ X.K X.mg (evC c1) W0) (wi1 := iD X.K X.mg (evI it1) W0) (vs1 := vs1) (own := ownOf C vs) ok.cx.calm nd hi hl' sw (soundI it ok.cx tk g4 n1) (blkOk_by (by rw [ok.cx.N, ok.cx.sc]; exact g1)) (by rw [ownOf_snd]; exact g2c) (fun s H A cl fp => chkT_is (ok.cx.blk _ s H A cl fp) g5)
                (fun s H A cl fp => soundC c (ok.cx.blk _ s H A cl fp) g6 n2) (fun s H A cl fp => soundI it1 (ok.cx.blk _ s H A cl fp) takes0 g7 n3) (fun s H A cl fp => chkT_is (ok.cx.blk _ s H A cl fp) g8)
                (fun s H A cl fp => soundC c1 (ok.cx.blk _ s H A cl fp) g9 n4) (fun s H A cl fp => (soundE e (ok.cx.blk _ s H A cl fp) takes0 g10 n5).1) (notSet_fold g3) (fun env => notSet_fold g3b)).imp fun E σ H ⟨bar, io, ρ, S, wd, h⟩ => ?_
              have hr := asg_read (W := W) (ma := evE (.lc2 vs vs1 mu t it c t1 it1 c1 e)) (t := .name i) wd h
              obtain ⟨b1, b2, b3, b4, b5, b6⟩ := hr
              refine lc2_read (mu := mu) (by rw [ownOf_snd]; exact g2) g2b ⟨b1, b2, b3, b4, b5, ?_⟩
              rw [ownOf_snd]
              exact Aft.imp b6 fun x H1 q => gD_name q
            · cases h2
          | _ => simp only [chkE] at h2; cases h2
        · exact plain (swLc_not (l := pos.line) (by rw [ok.cx.sc]; exact ok.kd) ok.cx.sc (by simpa using hsw))
    | Tuple => exact plain rfl
    | _ => cases t <;> cases h1
  | SetComp => cases h3
  | DictComp => cases h3
  | _ => exact plain (noComp_sole rfl)
theorem all_or {vs : List Expr} (h : (!vs.all (constantsAlone 8) || vs.all (foldedForSure 8)) = true) : vs.all (constantsAlone 8) = false ∨ vs.all (foldedForSure 8) = true := by
  rw [Bool.or_eq_true, Bool.not_eq_true'] at h
  exact h
mutual
theorem soundS : ∀ (s : S) {C : CC} {X : Cx} {lvl : Nat} {W : WX} {x : Stmt} (n : Nat), SxOk C X lvl → Takes X W → chkS C s x = true → Has X lvl (ndS s) → XS X W x (evS n s)
  | .asg t e, C, X, lvl, W, x, n, ok, tk, h, hn => by
    simp only [chkS] at h
    split at h
    · simp only [Bool.and_eq_true] at h
      obtain ⟨⟨⟨h1, h2⟩, h3⟩, h4⟩ := h
      refine asg_sound ok tk h1 h2 h3 ?_ hn
      split at h4
      · simp only [Bool.and_eq_true, decide_eq_true_eq] at h4
        obtain ⟨⟨h4, h5⟩, h6⟩ := h4
        rw [swC_is (by rw [ok.cx.sc]; exact ok.kd) h4 (all_or h6), ok.cx.sc, h5]
      · exact noTgt_is h4
    · cases h
  | .par2 i j a b, C, X, lvl, W, x, n, ok, tk, h, hn => by
    simp only [chkS] at h
    split at h
    · simp only [Bool.and_eq_true, decide_eq_true_eq] at h
      obtain ⟨⟨⟨⟨⟨⟨⟨⟨⟨⟨h1, h2⟩, h3⟩, h4⟩, h5⟩, h6⟩, h7⟩, h8⟩, h9⟩, h10⟩, h11⟩ := h
      obtain ⟨n1, n2⟩ := Has.app hn
      refine s_par2 ok.cx.calm ok.cx.xnd (by rw [ok.cx.N]; exact h2) (by rw [ok.cx.N]; exact h3) h1 (by rw [ok.cx.sc]; exact h4) (by rw [ok.cx.sc]; exact h5) (soundE a ok.cx tk h8 n1).1 (soundE b ok.cx tk h9 n2).1 (star_cons h6) (by rw [star_cons h7]; rfl) ?_
      rw [swC_is (by rw [ok.cx.sc]; exact ok.kd) (by simp [plainL, h6, h7]) (all_or h11), ok.cx.sc, h10]
    · cases h
  | .par3 i j l a b c, C, X, lvl, W, x, n, ok, tk, h, hn => by
    simp only [chkS] at h
    split at h
    · simp only [Bool.and_eq_true, decide_eq_true_eq] at h
      obtain ⟨⟨⟨⟨⟨⟨⟨⟨⟨⟨⟨⟨⟨⟨⟨⟨h1, h2⟩, h3⟩, h4⟩, h5⟩, h6⟩, h7⟩, h8⟩, h9⟩, h10⟩, h11⟩, h12⟩, h13⟩, h14⟩, h15⟩, h16⟩, h17⟩ := h
      obtain ⟨n1, n2⟩ := Has.app hn
      obtain ⟨n2, n3⟩ := Has.app n2
      refine s_par3 ok.cx.calm ok.cx.xnd (by rw [ok.cx.N]; exact h4) (by rw [ok.cx.N]; exact h5) (by rw [ok.cx.N]; exact h6) h1 h2 h3 (by rw [ok.cx.sc]; exact h7) (by rw [ok.cx.sc]; exact h8) (by rw [ok.cx.sc]; exact h9)
        (soundE a ok.cx tk h13 n1).1 (soundE b ok.cx tk h14 n2).1 (soundE c ok.cx tk h15 n3).1 (star_cons h10) (star_cons h11) (by rw [star_cons h12]; rfl) ?_
      rw [swC_is (by rw [ok.cx.sc]; exact ok.kd) (by simp [plainL, h10, h11, h12]) (all_or h17), ok.cx.sc, h16]
    · cases h
  | .aug i o e, C, X, lvl, W, x, n, ok, tk, h, hn => by
    simp only [chkS] at h
    split at h
    · simp only [Bool.and_eq_true, Bool.or_eq_true, decide_eq_true_eq] at h
      obtain ⟨⟨⟨h1, rfl⟩, h2⟩, h3⟩ := h
      exact s_aug o h1 ok.cx.xnd (ok.cx.sto h2) (soundE e ok.cx tk h3 hn).1
    · cases h
  | .set o i e, C, X, lvl, W, x, n, ok, tk, h, hn => by
    simp only [chkS] at h
    split at h
    · simp only [Bool.and_eq_true] at h
      obtain ⟨⟨⟨⟨h1, h2⟩, h3⟩, h4⟩, h5⟩ := h
      obtain ⟨n1, n2⟩ := Has.app hn
      obtain ⟨n2, n3⟩ := Has.app n2
      exact s_set ok.cx.un1 (soundE o ok.cx tk h1 n1).1 (soundE i ok.cx tk h2 n2).1 (soundE e ok.cx tk h3 n3).1 (noComp_sole h4) (notSlice_asg h5)
    · cases h
  | .expr e, C, X, lvl, W, x, n, ok, tk, h, hn => by
    simp only [chkS] at h
    split at h
    · simp only [Bool.and_eq_true] at h
      exact s_expr (soundE e ok.cx tk h.1 hn).1 (noComp_sw h.2)
    · cases h
  | .ret e, C, X, lvl, W, x, n, ok, tk, h, hn => by
    simp only [chkS] at h
    split at h
    · exact s_ret (soundE e ok.cx tk h hn).1
    · cases h
  | .retN, C, X, lvl, W, x, n, ok, tk, h, hn => by
    simp only [chkS] at h
    split at h
    · exact s_retN
    · cases h
  | .ite c a b, C, X, lvl, W, x, n, ok, tk, h, hn => by
    simp only [chkS] at h
    split at h
    · simp only [Bool.and_eq_true] at h
      obtain ⟨⟨h1, h2⟩, h3⟩ := h
      obtain ⟨n1, n2⟩ := Has.app hn
      obtain ⟨n2, n3⟩ := Has.app n2
      exact s_if (soundE c ok.cx tk h1 n1).2 (soundB a n ok tk h2 n2) (soundB b n ok tk h3 n3)
    · cases h
  | .for_ t it b, C, X, lvl, W, x, n, ok, tk, h, hn => by
    simp only [chkS] at h
    split at h
    · simp only [Bool.and_eq_true] at h
      obtain ⟨⟨⟨h1, h2⟩, h3⟩, h4⟩ := h
      obtain ⟨n1, n2⟩ := Has.app hn
      exact s_for ok.po ok.cx.calm (soundI it ok.cx tk h1 n1) (chkT_is ok.cx h2) (soundB b n ok tk h4 n2) (notSet_fold h3)
    · cases h
  | .while_ c b, C, X, lvl, W, x, n, ok, tk, h, hn => by
    simp only [chkS] at h
    split at h
    · simp only [Bool.and_eq_true] at h
      obtain ⟨h1, h2⟩ := h
      obtain ⟨n1, n2⟩ := Has.app hn
      exact s_while ok.po (soundE c ok.cx tk h1 n1).2 (soundB b n ok tk h2 n2) n
    · cases h
  | .brk, C, X, lvl, W, x, n, ok, tk, h, hn => by
    simp only [chkS] at h
    split at h
    · exact s_brk
    · cases h
  | .cont, C, X, lvl, W, x, n, ok, tk, h, hn => by
    simp only [chkS] at h
    split at h
    · exact s_cont
    · cases h
  | .pass, C, X, lvl, W, x, n, ok, tk, h, hn => by
    simp only [chkS] at h
    split at h
    · exact s_pass
    · cases h
  | .raise c m, C, X, lvl, W, x, n, ok, tk, h, hn => by
    simp only [chkS] at h
    split at h
    · simp only [Bool.and_eq_true, decide_eq_true_eq] at h
      obtain ⟨rfl, h1⟩ := h
      exact s_raise ok.cx.calm tk (hn (.cl c) List.mem_cons_self) (ok.cx.gl h1).1 (ok.cx.gl h1).2
    · cases h
  | .try_ b cs hs, C, X, lvl, W, x, n, ok, tk, h, hn => by
    simp only [chkS] at h
    split at h
    · simp only [Bool.and_eq_true, Bool.not_eq_true', List.all_eq_true] at h
      obtain ⟨⟨⟨⟨h1, h2⟩, h3⟩, h4⟩, h5⟩ := h
      obtain ⟨n1, n2⟩ := Has.cons hn
      have hcs : ∃ c, c ∈ cs := by
        cases cs with
        | nil => cases h2
        | cons c cs => exact ⟨c, List.mem_cons_self⟩
      have hz : ∀ q ∈ hs, q.2.2.2.length ≤ sizeLine ∧ PyData.strOk q.2.2.2 = true := fun q hq => by
        have := h5 q hq
        unfold strB at this
        simp only [Bool.and_eq_true, decide_eq_true_eq] at this
        exact this
      have hH := chkH_is ok.cx h3
      rename_i hds _
      cases hds with
      | nil => cases h4
      | cons h₀ hds => exact s_try ok.cx.xnd ok.st ok.fr tk (fun W pn xe tk po => soundB b n (ok.tr po) tk h1 n2) hcs hH n1 hz
    · cases h
theorem soundB : ∀ (b : B) {C : CC} {X : Cx} {lvl : Nat} {W : WX} {xs : List Stmt} (n : Nat), SxOk C X lvl → Takes X W → chkB C b xs = true → Has X lvl (ndB b) → XB X W xs (evB n b)
  | .nil, C, X, lvl, W, xs, n, ok, tk, h, hn => by
    simp only [chkB] at h
    split at h
    · exact s_nil
    · cases h
  | .cons s r, C, X, lvl, W, xs, n, ok, tk, h, hn => by
    simp only [chkB] at h
    split at h
    · simp only [Bool.and_eq_true] at h
      obtain ⟨n1, n2⟩ := Has.app hn
      exact s_cons (soundS s n ok tk h.1 n1) (soundB r n ok tk h.2 n2)
    · cases h
end
end
end PX

/-! PX20: a def by its written form. -/
namespace PX
open PySem L2
def HasP (P : Program) (w : World) (K : PySem.W.Frag) (mg : Str → Option Value) (base : Heap) (lvl : Nat) (ns : List Nd) : Prop := ∀ n ∈ ns, n.okP P w K mg base lvl
theorem start_env {K : PySem.W.Frag} {H : Hp} {bar io : List Addr} {vs : List V} {ds : List D} (r : Reps K H bar io vs ds) (m : Nat) : EnvRep K H bar io (vs.map some ++ List.replicate (m - vs.length) none) (ds.map some ++ List.replicate (m - ds.length) none) := by
  have hl := r.length
  refine ⟨by simp [hl], fun i d e => ?_⟩
  by_cases h : i < ds.length
  · rw [List.getElem?_append_left (by simpa using h)] at e
    rw [List.getElem?_map] at e
    cases ed : ds[i]? with
    | none => rw [ed] at e; cases e
    | some d' =>
      rw [ed] at e
      cases e
      obtain ⟨v, ev, rv⟩ := r.get ed
      refine ⟨v, ?_, rv⟩
      rw [List.getElem?_append_left (by simp; omega), List.getElem?_map, ev]
      rfl
  · rw [List.getElem?_append_right (by simpa using h)] at e
    rw [List.getElem?_replicate] at e
    split at e <;> cases e
theorem fn_ok {P : Program} {w : World} {K : PySem.W.Frag} {mg : Str → Option Value} {base : Heap} {lvl : Nat} {f : FnI} {st : Stmt} {fa : Addr} {fd : FuncData} {N : List Str} (F : Fun K f.name f.name st fa fd) (SC : FnScope N f.ps (defScope st)) (b : B)
    (hc : chkB ⟨N, defScope st, fun _ => true⟩ b (defBody st) = true) (hn : HasP P w K mg base lvl (ndB b)) (hsem : ∀ S ds, ds.length = f.ps.length → f.sem S ds ≠ .stuck → ∃ n, runB n N.length b S ds = f.sem S ds) :
    FnOk P w K mg base (L2.CX P w) (lvl + 1) fa fd f.ps (spFn K mg f) := by
  refine F.okX SC (fun vs H Q E h => h.1) (fun cdv A outer s H vs Q E hr h => ?_)
  obtain ⟨hl, bar, io, S, ds, st0, r, h⟩ := h
  have hne : f.sem S ds ≠ .stuck := fun e => by rw [e] at h; exact h
  obtain ⟨n, en⟩ := hsem S ds (by rw [← r.length]; exact hl) hne
  refine ⟨_, soundB (C := ⟨N, defScope st, fun _ => true⟩) (lvl := lvl) (W := fun cls d _ H => E cls d H) b n ⟨⟨rfl, rfl, SC.nd, rfl, rfl, hr⟩, SC.kind, rfl, rfl, passes_of rfl⟩ (takes_of rfl rfl rfl rfl) hc hn, ?_⟩
  have wd : Wd K H bar io (start N vs) (ds.map some ++ List.replicate (N.length - ds.length) none) S := ⟨start_env r N.length, st0⟩
  refine ⟨bar, io, _, S, wd, ?_⟩
  rw [← en] at h
  unfold runB at h
  cases e : evB n b (ds.map some ++ List.replicate (N.length - ds.length) none) S with
  | fl fl ρ' S' =>
    rw [e] at h
    cases fl with
    | next => exact fun σ' H' bar' io' x w => h .non H' bar' io' x w.st .non
    | ret d => exact fun v H' bar' io' x st r => h v H' bar' io' x st r
    | brk => exact h.elim
    | cont => exact h.elim
  | exc c ρ' S' =>
    rw [e] at h
    exact fun σ' H' bar' io' C x w ec => h H' bar' io' C x w.st ec
  | stuck => rw [e] at h; exact h.elim
/-- what the caller has of a def -/
theorem fn_good {P : Program} {w : World} {K : PySem.W.Frag} {mg : Str → Option Value} {base : Heap} {lvl : Nat} {f : FnI} {st : Stmt} {fa : Addr} {fd : FuncData} (F : Fun K f.name f.name st fa fd) (ok : FnOk P w K mg base (L2.CX P w) lvl fa fd f.ps (spFn K mg f)) (hm : mg f.name = some (.ref fa))
    (hb : Binds K fd f.ps []) (hk : ∀ q ∈ f.kps, ∀ (s : Shared) (us ws : List Value), us.length = q.1 → ws.length = q.2.length → BindsTo s fd ⟨us, q.2.zip ws⟩ (f.ps.zip (argG Value.none f.ps q.2 us ws))) : FnGood P w K mg base lvl f :=
  ⟨fa, fd, ok, hm, F.kp, hb, hk⟩
end PX

/-! PX21: for the end. -/
namespace PX
open PySem L2
mutual
/-- how much there is of it -/
def D.sz : D → Nat
  | .tup xs => D.szs xs + 1
  | .lst xs => D.szs xs + 1
  | .scr xs => D.szs xs + 1
  | .kup xs => D.szs xs + 1
  | _ => 1
def D.szs : List D → Nat
  | [] => 0
  | x :: xs => D.sz x + D.szs xs
end
def fuelOf (ds : List D) : Nat := D.szs ds + 2
theorem HasP.nil {P : Program} {w : World} {K : PySem.W.Frag} {mg : Str → Option Value} {base : Heap} {lvl : Nat} : HasP P w K mg base lvl [] := fun n hn => by cases hn
theorem HasP.cons {P : Program} {w : World} {K : PySem.W.Frag} {mg : Str → Option Value} {base : Heap} {lvl : Nat} {n : Nd} {ns : List Nd} (h : n.okP P w K mg base lvl) (t : HasP P w K mg base lvl ns) : HasP P w K mg base lvl (n :: ns) := fun m hm => by
  rcases List.mem_cons.mp hm with e | hm
  · rw [e]; exact h
  · exact t m hm
def KpsOk (fd : FuncData) (ps : List Str) (l : List (Nat × List Str)) : Prop := ∀ q ∈ l, ∀ (s : Shared) (us ws : List Value), us.length = q.1 → ws.length = q.2.length → BindsTo s fd ⟨us, q.2.zip ws⟩ (ps.zip (argG Value.none ps q.2 us ws))
theorem kps_nil {fd : FuncData} {ps : List Str} : KpsOk fd ps [] := fun q hq => by cases hq
theorem kps_cons {fd : FuncData} {ps : List Str} {n : Nat} {ks : List Str} {l : List (Nat × List Str)} (h : ∀ (s : Shared) (us ws : List Value), us.length = n → ws.length = ks.length → BindsTo s fd ⟨us, ks.zip ws⟩ (ps.zip (argG Value.none ps ks us ws))) (t : KpsOk fd ps l) : KpsOk fd ps ((n, ks) :: l) := fun q hq => by
  rcases List.mem_cons.mp hq with e | hq
  · subst e; exact h
  · exact t q hq
def ExsOk (K : PySem.W.Frag) (mg : Str → Option Value) (cs : List Str) (x : Str) (l : List Str) : Prop := ∀ c ∈ cs, ExmGood K mg c x (decide (c ∈ l))
theorem exs_nil {K : PySem.W.Frag} {mg : Str → Option Value} {x : Str} {l : List Str} : ExsOk K mg [] x l := fun c hc => by cases hc
theorem exs_cons {K : PySem.W.Frag} {mg : Str → Option Value} {x c : Str} {l cs : List Str} (h : ExmGood K mg c x (decide (c ∈ l))) (t : ExsOk K mg cs x l) : ExsOk K mg (c :: cs) x l := fun d hd => by
  rcases List.mem_cons.mp hd with e | hd
  · rw [e]; exact h
  · exact t d hd
theorem hds_nil {K : PySem.W.Frag} {mg : Str → Option Value} {cs : List Str} : HdsGood K mg cs [] := fun q hq => by cases hq
theorem hds_cons {K : PySem.W.Frag} {mg : Str → Option Value} {cs : List Str} {q : Str × List Str × Nat × Str} {hs : List (Str × List Str × Nat × Str)} (h : ExsOk K mg cs q.1 q.2.1) (t : HdsGood K mg cs hs) : HdsGood K mg cs (q :: hs) := fun r hr => by
  rcases List.mem_cons.mp hr with e | hr
  · rw [e]; exact h
  · exact t r hr
/-- the law's promise -/
def spLaw (K : PySem.W.Frag) : Sp := fun vs H Q _ => ∃ (a : Addr) (ns : List Int), vs = [.ref a] ∧ SqL K H a (ns.map V.int) ∧ Only H ∧ ns.length ≤ 63 ∧ (∀ z ∈ ns, Builtin.Int.intBits z ≤ 1048576) ∧ ∀ H', Q (.bl true) H'
theorem spLaw_mk {K : PySem.W.Frag} {H : Hp} {a : Addr} {ns : List Int} (hl : ns.length ≤ 63) (hb : ∀ z ∈ ns, Builtin.Int.intBits z ≤ 1048576) (hO : Only H) (hS : SqL K H a (ns.map V.int)) : spLaw K [.ref a] H (fun v _ => v = .bl true) fun _ _ _ => False :=
  ⟨a, ns, rfl, hS, hO, hl, hb, fun _ => rfl⟩
theorem cx_none {P : Program} {w : World} {H : Hp} {s s' : Shared} {e : Value} (h : L2.CX P w [] H s (fun _ _ _ => False) e s') : False := by
  obtain ⟨_, _, _, _, _, _, _, _, _, _, _, _, q⟩ := h
  exact q
theorem promise {K : PySem.W.Frag} {mg : Str → Option Value} {f : FnI} (hp : f.ps.length = 1) (law : ∀ ns : List Int, ns.length ≤ 63 → (∀ z ∈ ns, Builtin.Int.intBits z ≤ 1048576) → ∃ S', f.sem [] [.scr (ns.map D.int)] = .ok (.bl true) S')
    {vs : List V} {H : Hp} {Q : VK} {E : XK} (h : spLaw K vs H Q E) : spFn K mg f vs H Q E := by
  obtain ⟨a, ns, rfl, hS, hO, hl, hb, hQ⟩ := h
  obtain ⟨S', e⟩ := law ns hl hb
  have z : (ns.map V.int).length ≤ sizeLine := by rw [List.length_map]; exact Nat.le_trans hl (by decide)
  have r : Rep K H [] [] (.ref a) (.scr (ns.map D.int)) := by
    rcases hS with (hS | ⟨o, hS⟩) | ⟨o, its, n, h1, h2, h3, h4, h5, h6⟩
    · rcases hO a with q | ⟨o, xs, q⟩
      · rw [q] at hS; cases hS
      · rw [q] at hS; cases hS
    · exact .scr hS z Reps.of_ints
    · exact .scrK h1 h2 h3 h4 h5 h6 Reps.of_ints
  refine ⟨hp.symm, [], [], [], [.scr (ns.map D.int)], ⟨rfl, List.nodup_nil, by simp, by simp, by simp⟩, .cons r .nil, ?_⟩
  rw [e]
  intro v H' bar' io' x st rv
  cases rv
  exact hQ H'
theorem exm_of {K : PySem.W.Frag} {C T : Addr} {b : Bool} (h1 : PySem.W.subIn K (.ref T) (.type "BaseException") = some true) (h2 : PySem.W.isClsIn K T = true) (h3 : PySem.W.typeIn K (.ref T) = some (.type "type")) (h4 : PySem.W.subIn K (.ref C) (.ref T) = some b) :
    PySem.W.exmOne K (.ref C) (.ref T) = some b := by
  have h2' : (PySem.W.clsIn K T).isSome = true := h2
  unfold PySem.W.exmOne PySem.W.kitCls
  dsimp only
  rw [h1, h2', h3]
  exact h4
end PX

/-! PX22: reckoning with written forms. -/
namespace PX
open PySem L2
section
variable {ρ : Env} {S : Store}
theorem ev_var {i : Nat} {d : D} (h : ρ[i]? = some (some d)) : evE (.var i) ρ S = .ok d S := by
  show (match ρ[i]? with | some (some d) => R.ok d S | _ => .stuck) = _
  rw [h]
theorem ev_v (i : Nat) : evE (.var i) ρ S = match ρ[i]? with
    | some (some d) => .ok d S
    | _ => .stuck := rfl
@[simp] theorem ev_int (i : Int) : evE (.int i) ρ S = .ok (.int i) S := rfl
@[simp] theorem ev_str (z : Str) : evE (.str z) ρ S = .ok (.str z) S := rfl
@[simp] theorem ev_bl (b : Bool) : evE (.bl b) ρ S = .ok (.bl b) S := rfl
@[simp] theorem ev_non : evE .non ρ S = .ok .non S := rfl
@[simp] theorem ev_glob (x : Str) (d : D) : evE (.glob x d) ρ S = .ok d S := rfl
@[simp] theorem ev_tup (es : L) : evE (.tup es) ρ S = (evL es ρ S).bind fun ds S => .ok (.tup ds) S := rfl
@[simp] theorem ev_lst (es : L) : evE (.lst es) ρ S = (evL es ρ S).bind fun ds S => .ok (.lst ds) S := rfl
@[simp] theorem ev_new (es : L) : evE (.new es) ρ S = (evL es ρ S).bind fun ds S => .ok (.adr S.length) (S ++ [.lst ds]) := rfl
@[simp] theorem ev_dic : evE .dic ρ S = .ok (.adr S.length) (S ++ [.dic []]) := rfl
@[simp] theorem ev_bin (o : BO) (a b : E) : evE (.bin o a b) ρ S = (evE a ρ S).bind fun x S => (evE b ρ S).bind fun y S => binV o S x y := rfl
@[simp] theorem ev_neg (a : E) : evE (.neg a) ρ S = (evE a ρ S).bind fun x S => match x with
    | .int i => .ok (.int (-i)) S
    | _ => .stuck := rfl
@[simp] theorem ev_not (a : E) : evE (.not a) ρ S = (evE a ρ S).bind fun x S => match truthy S x with
    | some b => .ok (.bl (!b)) S
    | none => .stuck := rfl
@[simp] theorem ev_cmp (o : CO) (a b : E) : evE (.cmp o a b) ρ S = (evE a ρ S).bind fun x S => (evE b ρ S).bind fun y S => cmpV o S x y := rfl
@[simp] theorem ev_chain (o o' : CO) (a b c : E) : evE (.chain o o' a b c) ρ S = (evE a ρ S).bind fun x S => (evE b ρ S).bind fun y S => (cmpV o S x y).bind fun z S => match z with
    | .bl true => (evE c ρ S).bind fun w S => cmpV o' S y w
    | .bl false => .ok (.bl false) S
    | _ => .stuck := rfl
@[simp] theorem ev_and (es : L) : evE (.and es) ρ S = evAnd es ρ S := rfl
@[simp] theorem ev_or (es : L) : evE (.or es) ρ S = evOr es ρ S := rfl
@[simp] theorem ev_and1 (e : E) : evAnd (.cons e .nil) ρ S = evE e ρ S := rfl
@[simp] theorem ev_and2 (e e2 : E) (es : L) : evAnd (.cons e (.cons e2 es)) ρ S = (evE e ρ S).bind fun d S => match truthy S d with
      | some true => evAnd (.cons e2 es) ρ S
      | some false => .ok d S
      | none => .stuck := rfl
@[simp] theorem ev_or1 (e : E) : evOr (.cons e .nil) ρ S = evE e ρ S := rfl
@[simp] theorem ev_or2 (e e2 : E) (es : L) : evOr (.cons e (.cons e2 es)) ρ S = (evE e ρ S).bind fun d S => match truthy S d with
      | some true => .ok d S
      | some false => evOr (.cons e2 es) ρ S
      | none => .stuck := rfl
@[simp] theorem ev_ite (c a b : E) : evE (.ite c a b) ρ S = (evE c ρ S).bind fun x S => match truthy S x with
    | some true => evE a ρ S
    | some false => evE b ρ S
    | none => .stuck := rfl
@[simp] theorem ev_ix (a i : E) : evE (.ix a i) ρ S = (evE a ρ S).bind fun x S => (evE i ρ S).bind fun y S => ixV S x y := rfl
@[simp] theorem ev_sl (a : E) (lo hi : O) : evE (.sl a lo hi) ρ S = (evE a ρ S).bind fun x S => (evO lo ρ S).bind fun l S => (evO hi ρ S).bind fun h S => slV S x l h := rfl
@[simp] theorem ev_rev (a : E) : evE (.rev a) ρ S = (evE a ρ S).bind fun x S => backV S x := rfl
@[simp] theorem ev_sset (a : E) : evE (.sset a) ρ S = (evE a ρ S).bind fun x S => ssetV S x := rfl
@[simp] theorem ev_call (sh : Bool) (f : FnI) (es : L) : evE (.call sh f es) ρ S = (evL es ρ S).bind fun ds S => callV sh f ds S := rfl
@[simp] theorem ev_callk (sh : Bool) (f : FnI) (es : L) (ks : List Str) (kes : L) : evE (.callk sh f es ks kes) ρ S = (evL es ρ S).bind fun us S => (evL kes ρ S).bind fun ws S => callV sh f (argK f.ps ks us ws) S := rfl
@[simp] theorem ev_bi (f : BF) (es : L) : evE (.bi f es) ρ S = (evL es ρ S).bind fun ds S => biV f S ds := rfl
@[simp] theorem ev_isi (a : E) (t : TY) : evE (.isi a t) ρ S = (evE a ρ S).bind fun x S => isiV S x t := rfl
@[simp] theorem ev_meth (m : ME) (o : E) (es : L) : evE (.meth m o es) ρ S = (evE o ρ S).bind fun x S => guardR (mkind m S x) ((evL es ρ S).bind fun ds S => methV m S x ds) := rfl
@[simp] theorem ev_nilL : evL .nil ρ S = .ok [] S := rfl
@[simp] theorem ev_consL (e : E) (es : L) : evL (.cons e es) ρ S = (evE e ρ S).bind fun d S => (evL es ρ S).bind fun ds S => .ok (d :: ds) S := rfl
@[simp] theorem ev_noneO : evO .none ρ S = .ok none S := rfl
@[simp] theorem ev_someO (e : E) : evO (.some e) ρ S = (evE e ρ S).bind fun d S => match d with
    | .int i => .ok (some i) S
    | _ => .stuck := rfl
@[simp] theorem ev_noneC : evC .none ρ S = .ok true S := rfl
@[simp] theorem ev_someC (e : E) : evC (.some e) ρ S = (evE e ρ S).bind fun d S => optR (truthy S d) S := rfl
@[simp] theorem ev_seq (e : E) : evI (.seq e) ρ S = (evE e ρ S).bind fun x S => optR (seqW S x) S := rfl
@[simp] theorem ev_rng1 (a : E) : evI (.rng1 a) ρ S = (evE a ρ S).bind fun x S => match x with
    | .int j => guardR (rngOk j) (.ok ⟨rngL 0 j.toNat, []⟩ S)
    | _ => .stuck := rfl
@[simp] theorem ev_rng2 (a b : E) : evI (.rng2 a b) ρ S = (evE a ρ S).bind fun x S => (evE b ρ S).bind fun y S => match x, y with
    | .int i, .int j => guardR (rngOk i && rngOk j) (.ok ⟨rngL i (j - i).toNat, []⟩ S)
    | _, _ => .stuck := rfl
@[simp] theorem ev_enum (a : E) : evI (.enum a) ρ S = (evE a ρ S).bind fun x S => enumV S x := rfl
@[simp] theorem ev_zip (a b : E) : evI (.zip a b) ρ S = (evE a ρ S).bind fun x S => (evE b ρ S).bind fun y S => zipV S x y := rfl
@[simp] theorem ev_revI (a : E) : evI (.rev a) ρ S = (evE a ρ S).bind fun x S => optR (revW S x) S := rfl
end
section
variable {ρ : Env} {S : Store} {n : Nat}
@[simp] theorem es_asg (t : T) (e : E) : evS n (.asg t e) ρ S = (evE e ρ S).then ρ fun d S => match asgT t d ρ with
    | some ρ1 => .fl .next ρ1 S
    | none => .stuck := rfl
@[simp] theorem es_par2 (i j : Nat) (a b : E) : evS n (.par2 i j a b) ρ S = (evE a ρ S).then ρ fun x S => (evE b ρ S).then ρ fun y S => .fl .next ((ρ.set i (some x)).set j (some y)) S := rfl
@[simp] theorem es_par3 (i j k : Nat) (a b c : E) : evS n (.par3 i j k a b c) ρ S = (evE a ρ S).then ρ fun x S => (evE b ρ S).then ρ fun y S => (evE c ρ S).then ρ fun z S => .fl .next (((ρ.set i (some x)).set j (some y)).set k (some z)) S := rfl
@[simp] theorem es_aug (i : Nat) (o : BO) (e : E) : evS n (.aug i o e) ρ S = match ρ[i]? with
    | some (some x) => (evE e ρ S).then ρ fun y S => (match x, y with
      | .int _, .int _ => binV o S x y
      | _, _ => .stuck).then ρ fun z S => .fl .next (ρ.set i (some z)) S
    | _ => .stuck := rfl
@[simp] theorem es_set (o i e : E) : evS n (.set o i e) ρ S = (evE e ρ S).then ρ fun v S => (evE o ρ S).then ρ fun x S => (evE i ρ S).then ρ fun y S => (setV S x y v).then ρ fun _ S => .fl .next ρ S := rfl
@[simp] theorem es_expr (e : E) : evS n (.expr e) ρ S = (evE e ρ S).then ρ fun _ S => .fl .next ρ S := rfl
@[simp] theorem es_ret (e : E) : evS n (.ret e) ρ S = (evE e ρ S).then ρ fun d S => .fl (.ret d) ρ S := rfl
@[simp] theorem es_retN : evS n .retN ρ S = .fl (.ret .non) ρ S := rfl
@[simp] theorem es_ite (c : E) (a b : B) : evS n (.ite c a b) ρ S = (evE c ρ S).then ρ fun d S => match truthy S d with
    | some true => evB n a ρ S
    | some false => evB n b ρ S
    | none => .stuck := rfl
theorem es_for (t : T) (it : I) (b : B) : evS n (.for_ t it b) ρ S = (evI it ρ S).then ρ fun w S => forLoop w t (evB n b) w.ds ρ S := rfl
theorem es_while (c : E) (b : B) : evS n (.while_ c b) ρ S = whileLoop (evE c) (evB n b) n ρ S := rfl
@[simp] theorem es_brk : evS n .brk ρ S = .fl .brk ρ S := rfl
@[simp] theorem es_cont : evS n .cont ρ S = .fl .cont ρ S := rfl
@[simp] theorem es_pass : evS n .pass ρ S = .fl .next ρ S := rfl
@[simp] theorem es_raise (c m : Str) : evS n (.raise c m) ρ S = .exc c ρ S := rfl
@[simp] theorem es_try (b : B) (cs : List Str) (hs : List (Str × List Str × Nat × Str)) : evS n (.try_ b cs hs) ρ S = match evB n b ρ S with
    | .exc c ρ' S' => match decide (c ∈ cs) with
      | true => handle hs c ρ' S'
      | false => .stuck
    | r => r := rfl
@[simp] theorem eb_nil : evB n .nil ρ S = .fl .next ρ S := rfl
theorem eb_cons (s : PX.S) (r : B) : evB n (.cons s r) ρ S = match evS n s ρ S with
    | .fl .next ρ' S' => evB n r ρ' S'
    | q => q := rfl
end
/-- a pure comprehension over what is encoded -/
theorem lc_pure {α : Type} {w : Ws} {turn : D → List D → Store → R (List D)} {enc : α → D} {b : α → Bool} {y : α → D} {S : Store} (hw : w.ok S = true) :
    ∀ (xs : List α) (acc : List D), (∀ x ∈ xs, ∀ acc, acc.length < sizeLine → turn (enc x) acc S = .ok (if b x = true then acc ++ [y x] else acc) S) → acc.length + xs.length ≤ sizeLine →
      lcLoop w turn (xs.map enc) acc S = .ok (acc ++ (xs.filter b).map y) S
  | [], acc, _, _ => by
    show guardR (w.ok S) (.ok acc S) = _
    rw [hw]
    simp
  | x :: xs, acc, h, hl => by
    rw [List.length_cons] at hl
    have h1 := h x List.mem_cons_self acc (by omega)
    show guardR (w.ok S) (match turn (enc x) acc S with
      | .ok acc' S' => lcLoop w turn (xs.map enc) acc' S'
      | _ => .stuck) = _
    rw [hw, h1, guardR_true]
    dsimp only
    have h2 := fun z hz => h z (List.mem_cons_of_mem x hz)
    by_cases hb : b x = true
    · rw [if_pos hb, lc_pure hw xs _ h2 (by rw [List.length_append, List.length_singleton]; omega), List.filter_cons_of_pos hb]
      simp
    · rw [if_neg hb, lc_pure hw xs _ h2 (by omega), List.filter_cons_of_neg hb]
theorem ev_lc {α : Type} {enc : α → D} {b : α → Bool} {y : α → D} {vs : List Nat} {t : T} {it : I} {c : O} {e : E} {ρ : Env} {S : Store} {xs : List α} {g : List (Nat × Cell)} (hi : evI it ρ S = .ok ⟨xs.map enc, g⟩ S) (hg : Ws.ok ⟨xs.map enc, g⟩ S = true) (hl : xs.length ≤ sizeLine)
    (h : ∀ x ∈ xs, ∃ ρ1, asgT t (enc x) (wipeE ρ vs) = some ρ1 ∧ evC c ρ1 S = .ok (b x) S ∧ (b x = true → evE e ρ1 S = .ok (y x) S)) : evE (.lc vs false t it c e) ρ S = .ok (.lst ((xs.filter b).map y)) S := by
  show (evI it ρ S).bind (fun w S => (lcLoop w (turnE t vs (evC c) (evE e) ρ) w.ds [] S).bind fun acc S => endL false acc S) = _
  rw [hi, R.bind_ok]
  dsimp only
  rw [lc_pure (enc := enc) (b := b) (y := y) hg xs [] (fun x hx acc hacc => ?_) (by simpa using hl)]
  · simp [endL]
  · obtain ⟨ρ1, h1, h2, h3⟩ := h x hx
    unfold turnE
    rw [h1]
    dsimp only
    rw [h2, R.bind_ok]
    cases hb : b x with
    | true => simp [h3 hb, hacc]
    | false => simp
/-- all of them -/
theorem ev_lcA {α : Type} {enc : α → D} {y : α → D} {vs : List Nat} {t : T} {it : I} {e : E} {ρ : Env} {S : Store} {xs : List α} {g : List (Nat × Cell)} (hi : evI it ρ S = .ok ⟨xs.map enc, g⟩ S) (hg : Ws.ok ⟨xs.map enc, g⟩ S = true) (hl : xs.length ≤ sizeLine)
    (h : ∀ x ∈ xs, ∃ ρ1, asgT t (enc x) (wipeE ρ vs) = some ρ1 ∧ evE e ρ1 S = .ok (y x) S) : evE (.lc vs false t it .none e) ρ S = .ok (.lst (xs.map y)) S := by
  have := ev_lc (b := fun _ => true) (c := .none) (y := y) hi hg hl fun x hx => let ⟨ρ1, h1, h2⟩ := h x hx; ⟨ρ1, h1, rfl, fun _ => h2⟩
  rw [this, List.filter_eq_self.mpr fun _ _ => rfl]
@[simp] theorem ok_nil {ds : List D} {S : Store} : Ws.ok ⟨ds, []⟩ S = true := rfl
section
variable {S : Store}
@[simp] theorem tr_non : PX.truthy S .non = some false := rfl
@[simp] theorem tr_bl (b : Bool) : PX.truthy S (.bl b) = some b := rfl
@[simp] theorem tr_int (i : Int) : PX.truthy S (.int i) = some (i != 0) := rfl
@[simp] theorem tr_tup (xs : List D) : PX.truthy S (.tup xs) = some (!xs.isEmpty) := rfl
@[simp] theorem tr_lst (xs : List D) : PX.truthy S (.lst xs) = some (!xs.isEmpty) := rfl
@[simp] theorem fr_non : D.free .non = true := by simp only [D.free]
@[simp] theorem fr_bl (b : Bool) : D.free (.bl b) = true := by simp only [D.free]
@[simp] theorem fr_int (b : Int) : D.free (.int b) = true := by simp only [D.free]
@[simp] theorem fr_str (b : PySem.Str) : D.free (.str b) = true := by simp only [D.free]
@[simp] theorem fr_tup (xs : List D) : D.free (.tup xs) = D.frees xs := by simp only [D.free]
@[simp] theorem fr_lst (xs : List D) : D.free (.lst xs) = D.frees xs := by simp only [D.free]
@[simp] theorem fr_scr (xs : List D) : D.free (.scr xs) = D.frees xs := by simp only [D.free]
@[simp] theorem fr_kup (xs : List D) : D.free (.kup xs) = D.frees xs := by simp only [D.free]
@[simp] theorem fr_adr (n : Nat) : D.free (.adr n) = false := by simp only [D.free]
@[simp] theorem frs_nil : D.frees [] = true := by simp only [D.frees]
@[simp] theorem frs_cons (x : D) (xs : List D) : D.frees (x :: xs) = (D.free x && D.frees xs) := by simp only [D.frees]
@[simp] theorem bin_int (o : BO) (i j : Int) : binV o S (.int i) (.int j) = match o with
    | .add => .ok (.int (i + j)) S
    | .sub => .ok (.int (i - j)) S
    | .mul => guardR (mulOk i j) (.ok (.int (i * j)) S)
    | .fdiv => guardR (divOk j) (.ok (.int (i / j)) S)
    | .mod => guardR (decide (0 < j)) (.ok (.int (i % j)) S)
    | .pow => guardR (powOk i j) (.ok (.int (i ^ j.toNat)) S)
    | .and => .ok (.int (PySem.Builtin.bitAnd i j)) S
    | .or => .ok (.int (PySem.Builtin.bitOr i j)) S
    | .xor => .ok (.int (PySem.Builtin.bitXor i j)) S
    | .shl => guardR (powOk i j) (.ok (.int (i * 2 ^ j.toNat)) S)
    | .shr => guardR (decide (0 ≤ j)) (.ok (.int (i / 2 ^ j.toNat)) S) := rfl
@[simp] theorem cmp_eq (x y : D) : cmpV .eq S x y = eqR false S x y := rfl
@[simp] theorem cmp_ne (x y : D) : cmpV .ne S x y = eqR true S x y := rfl
@[simp] theorem cmp_is (x y : D) : cmpV .is S x y = isR false S x y := rfl
@[simp] theorem cmp_isNot (x y : D) : cmpV .isNot S x y = isR true S x y := rfl
@[simp] theorem cmp_inn (x y : D) : cmpV .inn S x y = inR false S x y := rfl
@[simp] theorem cmp_notIn (x y : D) : cmpV .notIn S x y = inR true S x y := rfl
@[simp] theorem cmp_lt (i j : Int) : cmpV .lt S (.int i) (.int j) = .ok (.bl (decide (i < j))) S := rfl
@[simp] theorem cmp_le (i j : Int) : cmpV .le S (.int i) (.int j) = .ok (.bl (decide (i ≤ j))) S := rfl
@[simp] theorem cmp_gt (i j : Int) : cmpV .gt S (.int i) (.int j) = .ok (.bl (decide (j < i))) S := rfl
@[simp] theorem cmp_ge (i j : Int) : cmpV .ge S (.int i) (.int j) = .ok (.bl (decide (j ≤ i))) S := rfl
@[simp] theorem eq_int (b : Bool) (i j : Int) : eqR b S (.int i) (.int j) = .ok (.bl (if b then !(i == j) else i == j)) S := rfl
@[simp] theorem eq_bl (b : Bool) (i j : Bool) : eqR b S (.bl i) (.bl j) = .ok (.bl (if b then !(i == j) else i == j)) S := rfl
@[simp] theorem isi_int (i : Int) (t : TY) : isiV S (.int i) t = .ok (.bl (decide (t = .int))) S := by cases t <;> rfl
@[simp] theorem isi_bl (i : Bool) (t : TY) : isiV S (.bl i) t = .ok (.bl (decide (t = .bool) || decide (t = .int))) S := by cases t <;> rfl
@[simp] theorem isi_tup (i : List D) (t : TY) : isiV S (.tup i) t = .ok (.bl (decide (t = .tuple))) S := by cases t <;> rfl
@[simp] theorem isi_kup (i : List D) (t : TY) : isiV S (.kup i) t = .ok (.bl (decide (t = .tuple))) S := by cases t <;> rfl
@[simp] theorem isi_lst (i : List D) (t : TY) : isiV S (.lst i) t = .ok (.bl (decide (t = .list))) S := by cases t <;> rfl
@[simp] theorem isi_scr (i : List D) (t : TY) : isiV S (.scr i) t = .ok (.bl (decide (t = .list))) S := by cases t <;> rfl
@[simp] theorem isi_str (i : PySem.Str) (t : TY) : isiV S (.str i) t = .ok (.bl (decide (t = .str))) S := by cases t <;> rfl
@[simp] theorem isi_non (t : TY) : isiV S .non t = .ok (.bl false) S := rfl
@[simp] theorem seqW_tup (xs : List D) : seqW S (.tup xs) = some ⟨xs, []⟩ := rfl
@[simp] theorem seqW_kup (xs : List D) : seqW S (.kup xs) = some ⟨xs, []⟩ := rfl
@[simp] theorem seqW_lst (xs : List D) : seqW S (.lst xs) = some ⟨xs, []⟩ := rfl
@[simp] theorem seqW_scr (xs : List D) : seqW S (.scr xs) = some ⟨xs, []⟩ := rfl
@[simp] theorem ix_tup (xs : List D) (i : Int) : ixV S (.tup xs) (.int i) = optR (L2.atI xs i) S := rfl
@[simp] theorem ix_lst (xs : List D) (i : Int) : ixV S (.lst xs) (.int i) = optR (L2.atI xs i) S := rfl
@[simp] theorem len_tup (xs : List D) : biV .len S [.tup xs] = .ok (.int xs.length) S := rfl
@[simp] theorem len_lst (xs : List D) : biV .len S [.lst xs] = .ok (.int xs.length) S := rfl
@[simp] theorem len_scr (xs : List D) : biV .len S [.scr xs] = .ok (.int xs.length) S := rfl
@[simp] theorem len_kup (xs : List D) : biV .len S [.kup xs] = .ok (.int xs.length) S := rfl
@[simp] theorem tuple_tup (xs : List D) : biV .tuple S [.tup xs] = .ok (.tup xs) S := rfl
@[simp] theorem tuple_lst (xs : List D) : biV .tuple S [.lst xs] = .ok (.tup xs) S := rfl
@[simp] theorem int_int (i : Int) : biV .int S [.int i] = .ok (.int i) S := rfl
theorem sum_lst {xs : List D} {ns : List Int} (h : asInts xs = some ns) : biV .sum S [.lst xs] = .ok (.int ns.sum) S := by
  show (match (some xs).bind asInts with | some ns => R.ok (D.int ns.sum) S | none => .stuck) = _
  rw [Option.bind_some, h]
theorem all_lst {xs : List D} {ns : List Bool} (h : asBls xs = some ns) : biV .all S [.lst xs] = .ok (.bl (ns.all id)) S := by
  show (match (some xs).bind asBls with | some ns => R.ok (D.bl (ns.all id)) S | none => .stuck) = _
  rw [Option.bind_some, h]
theorem any_lst {xs : List D} {ns : List Bool} (h : asBls xs = some ns) : biV .any S [.lst xs] = .ok (.bl (ns.any id)) S := by
  show (match (some xs).bind asBls with | some ns => R.ok (D.bl (ns.any id)) S | none => .stuck) = _
  rw [Option.bind_some, h]
@[simp] theorem optR_some' {α : Type} (a : α) : optR (some a) S = .ok a S := rfl
@[simp] theorem atI0 {α : Type} {x : α} {xs : List α} : L2.atI (x :: xs) 0 = some x := L2.atI_nat (xs := x :: xs) (j := 0) (v := x) rfl
@[simp] theorem atI1 {α : Type} {x y : α} {xs : List α} : L2.atI (x :: y :: xs) 1 = some y := L2.atI_nat (xs := x :: y :: xs) (j := 1) (v := y) rfl
@[simp] theorem atI2 {α : Type} {x y z : α} {xs : List α} : L2.atI (x :: y :: z :: xs) 2 = some z := L2.atI_nat (xs := x :: y :: z :: xs) (j := 2) (v := z) rfl
@[simp] theorem asgT_name (i : Nat) (d : D) (ρ : Env) : asgT (.name i) d ρ = some (ρ.set i (some d)) := rfl
@[simp] theorem asgT_tup (is : List Nat) (ds : List D) (ρ : Env) : asgT (.tup is) (.tup ds) ρ = asgs is ds ρ := rfl
@[simp] theorem asgs_nil (ρ : Env) : asgs [] [] ρ = some ρ := rfl
@[simp] theorem asgs_cons (i : Nat) (is : List Nat) (d : D) (ds : List D) (ρ : Env) : asgs (i :: is) (d :: ds) ρ = asgs is ds (ρ.set i (some d)) := rfl
@[simp] theorem wipe_nil (ρ : Env) : wipeE ρ [] = ρ := rfl
@[simp] theorem wipe_cons (ρ : Env) (v : Nat) (vs : List Nat) : wipeE ρ (v :: vs) = (wipeE ρ vs).set v none := rfl
end
theorem callV_ok {f : FnI} {ds : List D} {d : D} {S0 : Store} (S : Store) (h : f.sem [] ds = .ok d S0) (hl : ds.length = f.ps.length) (hf : D.frees ds = true) (hd : D.free d = true) : callV false f ds S = .ok d S := by
  unfold callV
  rw [decide_eq_true hl, guardR_true]
  dsimp only
  rw [hf, guardR_true, h]
  dsimp only
  rw [hd, guardR_true]
theorem callV_exc {f : FnI} {ds : List D} {c : PySem.Str} {S0 : Store} (S : Store) (h : f.sem [] ds = .exc c S0) (hl : ds.length = f.ps.length) (hf : D.frees ds = true) : callV false f ds S = .exc c S := by
  unfold callV
  rw [decide_eq_true hl, guardR_true]
  dsimp only
  rw [hf, guardR_true, h]
/-- an int that is no bool -/
def D.isI : D → Bool
  | .int _ => true
  | _ => false
@[simp] theorem isI_int (i : Int) : (D.int i).isI = true := rfl
theorem frees_pairs (ts : List (Int × Int)) : D.frees (ts.map pairD) = true := by
  induction ts with
  | nil => rfl
  | cons t ts ih => simp [pairD, ih]
theorem frees_ints (ns : List Int) : D.frees (ns.map D.int) = true := by
  induction ns with
  | nil => rfl
  | cons t ts ih => simp [ih]
theorem frees_append (xs ys : List D) : D.frees (xs ++ ys) = (D.frees xs && D.frees ys) := by
  induction xs with
  | nil => rfl
  | cons x xs ih => simp [ih, Bool.and_assoc]
theorem asBls_map' {α : Type} (xs : List α) (f : α → Bool) : asBls (xs.map fun x => D.bl (f x)) = some (xs.map f) := by
  rw [show (xs.map fun x => D.bl (f x)) = (xs.map f).map D.bl by simp]
  exact asBls_map _
theorem asInts_map' {α : Type} (xs : List α) (f : α → Int) : asInts (xs.map fun x => D.int (f x)) = some (xs.map f) := by
  rw [show (xs.map fun x => D.int (f x)) = (xs.map f).map D.int by simp]
  exact asInts_map _
theorem d2 : divOk 2 = true := by decide +kernel
theorem slV_lst {S : Store} (xs : List D) (lo hi : Option Int) : slV S (.lst xs) lo hi = .ok (.lst (cutG xs lo hi)) S := rfl
theorem slV_scr {S : Store} (xs : List D) (lo hi : Option Int) : slV S (.scr xs) lo hi = .ok (.lst (cutG xs lo hi)) S := rfl
theorem slV_tup {S : Store} (xs : List D) (lo hi : Option Int) : slV S (.tup xs) lo hi = .ok (.tup (cutG xs lo hi)) S := rfl
theorem zipV_lst {S : Store} (xs ys : List D) : zipV S (.lst xs) (.lst ys) = .ok ⟨zipD xs ys, []⟩ S := rfl
theorem cut_from {α : Type} (xs : List α) (k : Nat) : cutG xs (some (k : Int)) none = xs.drop k := by
  unfold cutG
  rw [HT.sIx_nat, HT.sIx_none]
  by_cases h : k ≤ xs.length
  · rw [Nat.min_eq_left h, List.take_of_length_le (by simp)]
  · rw [Nat.min_eq_right (by omega), Nat.sub_self, List.take_zero, List.drop_eq_nil_of_le (by omega)]
theorem cut_to {α : Type} (xs : List α) (k : Nat) : cutG xs none (some (k : Int)) = xs.take k := by
  unfold cutG
  rw [HT.sIx_nat, HT.sIx_none, List.drop_zero, Nat.sub_zero]
  by_cases h : k ≤ xs.length
  · rw [Nat.min_eq_left h]
  · rw [Nat.min_eq_right (by omega), List.take_of_length_le (Nat.le_refl _), List.take_of_length_le (by omega)]
theorem zip_ints (as bs : List Int) : zipD (as.map D.int) (bs.map D.int) = (as.zip bs).map pairD := by
  unfold zipD
  rw [List.zip_map, List.map_map]
  rfl
end PX

/-! PX23: loops by invariants. -/
namespace PX
theorem for_inv {w : Ws} {t : T} {body : Env → Store → RS} (P : Nat → Env → Store → Prop) (hok : ∀ i ρ S, P i ρ S → w.ok S = true)
    (hstep : ∀ i d ρ S, w.ds[i]? = some d → P i ρ S → ∃ ρ1, asgT t d ρ = some ρ1 ∧ ∃ ρ2 S2, (body ρ1 S = .fl .next ρ2 S2 ∨ body ρ1 S = .fl .cont ρ2 S2) ∧ P (i + 1) ρ2 S2) {ρ : Env} {S : Store} (h0 : P 0 ρ S) :
    ∃ ρ' S', forLoop w t body w.ds ρ S = .fl .next ρ' S' ∧ P w.ds.length ρ' S' := by
  suffices h : ∀ (k i : Nat) (ρ : Env) (S : Store), i + k = w.ds.length → P i ρ S → ∃ ρ' S', forLoop w t body (w.ds.drop i) ρ S = .fl .next ρ' S' ∧ P w.ds.length ρ' S' by
    simpa using h w.ds.length 0 ρ S (by omega) h0
  intro k
  induction k with
  | zero =>
    intro i ρ S hi hp
    have : i = w.ds.length := by omega
    subst this
    rw [List.drop_length]
    refine ⟨ρ, S, ?_, hp⟩
    unfold forLoop
    rw [hok _ _ _ hp]
  | succ k ih =>
    intro i ρ S hi hp
    have hlt : i < w.ds.length := by omega
    rw [List.drop_eq_getElem_cons hlt]
    obtain ⟨ρ1, e1, ρ2, S2, e2, hp2⟩ := hstep i _ ρ S (List.getElem?_eq_getElem hlt) hp
    obtain ⟨ρ', S', e3, hp3⟩ := ih (i + 1) ρ2 S2 (by omega) hp2
    refine ⟨ρ', S', ?_, hp3⟩
    rw [← e3]
    conv => lhs; unfold forLoop
    rw [hok _ _ _ hp]
    dsimp only
    rw [e1]
    dsimp only
    rcases e2 with e2 | e2 <;> rw [e2]
theorem lc_inv {w : Ws} {turn : D → List D → Store → R (List D)} (P : Nat → List D → Store → Prop) (hok : ∀ i acc S, P i acc S → w.ok S = true)
    (hstep : ∀ i d acc S, w.ds[i]? = some d → P i acc S → ∃ acc' S', turn d acc S = .ok acc' S' ∧ P (i + 1) acc' S') {acc : List D} {S : Store} (h0 : P 0 acc S) :
    ∃ acc' S', lcLoop w turn w.ds acc S = .ok acc' S' ∧ P w.ds.length acc' S' := by
  suffices h : ∀ (k i : Nat) (acc : List D) (S : Store), i + k = w.ds.length → P i acc S → ∃ acc' S', lcLoop w turn (w.ds.drop i) acc S = .ok acc' S' ∧ P w.ds.length acc' S' by
    simpa using h w.ds.length 0 acc S (by omega) h0
  intro k
  induction k with
  | zero =>
    intro i acc S hi hp
    have : i = w.ds.length := by omega
    subst this
    rw [List.drop_length]
    refine ⟨acc, S, ?_, hp⟩
    unfold lcLoop
    rw [hok _ _ _ hp]
    rfl
  | succ k ih =>
    intro i acc S hi hp
    have hlt : i < w.ds.length := by omega
    rw [List.drop_eq_getElem_cons hlt]
    obtain ⟨acc2, S2, e2, hp2⟩ := hstep i _ acc S (List.getElem?_eq_getElem hlt) hp
    obtain ⟨acc', S', e3, hp3⟩ := ih (i + 1) acc2 S2 (by omega) hp2
    refine ⟨acc', S', ?_, hp3⟩
    rw [← e3]
    conv => lhs; unfold lcLoop
    rw [hok _ _ _ hp, e2]
    rfl
/-- elements that are reckoned one after the other, with what the store keeps -/
theorem ev_lcS {α : Type} {y : α → D} {vs : List Nat} {t : T} {it : I} {e : E} {ρ : Env} {S S1 : Store} {w : Ws} (Q : Store → Prop) (Y : Nat → α → Prop) (hi : evI it ρ S = .ok w S1) (hl : w.ds.length ≤ PySem.sizeLine) (hok : ∀ S, Q S → w.ok S = true) (h0 : Q S1)
    (hstep : ∀ i d S, w.ds[i]? = some d → Q S → ∃ ρ1 x S', asgT t d (wipeE ρ vs) = some ρ1 ∧ evE e ρ1 S = .ok (y x) S' ∧ Y i x ∧ Q S') :
    ∃ (xs : List α) (S' : Store), evE (.lc vs false t it .none e) ρ S = .ok (.lst (xs.map y)) S' ∧ Q S' ∧ xs.length = w.ds.length ∧ ∀ i x, xs[i]? = some x → Y i x := by
  obtain ⟨acc, S', e1, xs, rfl, h2, h3, h4⟩ := lc_inv (w := w) (turn := turnE t vs (evC .none) (evE e) ρ) (P := fun i acc S => ∃ xs : List α, acc = xs.map y ∧ Q S ∧ xs.length = i ∧ ∀ i x, xs[i]? = some x → Y i x) (fun i acc S ⟨_, _, h, _, _⟩ => hok S h) (fun i d acc S hd ⟨xs, ea, hq, hl2, hy⟩ => by
    obtain ⟨ρ1, x, S', h1, h2, h3, h4⟩ := hstep i d S hd hq
    refine ⟨acc ++ [y x], S', ?_, xs ++ [x], by simp [ea], h4, by simp [hl2], fun j z hz => ?_⟩
    · unfold turnE
      rw [h1]
      have hlt : i < w.ds.length := (List.getElem?_eq_some_iff.mp hd).1
      have : acc.length < PySem.sizeLine := by rw [ea, List.length_map]; omega
      show ((evE e ρ1 S).bind fun y S => guardR (decide (acc.length < PySem.sizeLine)) (.ok (acc ++ [y]) S)) = _
      rw [h2, R.bind_ok, decide_eq_true this]
      rfl
    · by_cases hj : j < xs.length
      · rw [List.getElem?_append_left hj] at hz
        exact hy j z hz
      · rw [List.getElem?_append_right (by omega)] at hz
        have hj0 : j - xs.length = 0 := by
          by_cases q : j - xs.length = 0
          · exact q
          · rw [List.getElem?_eq_none (by simp; omega)] at hz; cases hz
        rw [hj0] at hz
        have e : x = z := by simpa using hz
        subst e
        have : j = i := by omega
        subst this
        exact h3) (acc := []) (S := S1) ⟨[], rfl, h0, rfl, by simp⟩
  refine ⟨xs, S', ?_, h2, h3, h4⟩
  show (evI it ρ S).bind (fun w S => (lcLoop w (turnE t vs (evC .none) (evE e) ρ) w.ds [] S).bind fun acc S => endL false acc S) = _
  rw [hi, R.bind_ok, e1, R.bind_ok]
  rfl
/-- .. into a cell -/
theorem ev_lcM {α : Type} {enc : α → D} {y : α → D} {vs : List Nat} {t : T} {it : I} {e : E} {ρ : Env} {S : Store} {xs : List α} {g : List (Nat × Cell)} (hi : evI it ρ S = .ok ⟨xs.map enc, g⟩ S) (hg : Ws.ok ⟨xs.map enc, g⟩ S = true) (hl : xs.length ≤ PySem.sizeLine)
    (h : ∀ x ∈ xs, ∃ ρ1, asgT t (enc x) (wipeE ρ vs) = some ρ1 ∧ evE e ρ1 S = .ok (y x) S) : evE (.lc vs true t it .none e) ρ S = .ok (.adr S.length) (S ++ [.lst (xs.map y)]) := by
  show (evI it ρ S).bind (fun w S => (lcLoop w (turnE t vs (evC .none) (evE e) ρ) w.ds [] S).bind fun acc S => endL true acc S) = _
  rw [hi, R.bind_ok]
  dsimp only
  rw [lc_pure (enc := enc) (b := fun _ => true) (y := y) hg xs [] (fun x hx acc hacc => ?_) (by simpa using hl)]
  · rw [List.filter_eq_self.mpr fun _ _ => rfl]
    simp [endL]
  · obtain ⟨ρ1, h1, h3⟩ := h x hx
    unfold turnE
    rw [h1]
    simp [h3, hacc]
theorem rngL_length (lo : Int) (n : Nat) : (rngL lo n).length = n := by simp [rngL]
theorem rngL_get {lo : Int} {n i : Nat} {d : D} (h : (rngL lo n)[i]? = some d) : d = .int (lo + i) ∧ i < n := by
  have hi : i < n := by have := (List.getElem?_eq_some_iff.mp h).1; rwa [rngL_length] at this
  refine ⟨?_, hi⟩
  simp [rngL, hi] at h
  exact h.symm
end PX

/-! GAP: sums over literals as what they come to at all assignments. -/
namespace PX
/-- the value of a literal at an assignment -/
def litX (x : Int → Int) (l : Int) : Int := if l < 0 then (if l = -1 then 1 else 0) else if l % 2 = 0 then x (l / 2) else 1 - x (l / 2)
def valX (x : Int → Int) (ps : List (Int × Int)) : Int := (ps.map fun p => p.2 * litX x p.1).sum
def totI (ts : List (Int × Int)) : Int := (ts.map fun t => t.2).sum
@[simp] theorem valX_nil (x : Int → Int) : valX x [] = 0 := rfl
@[simp] theorem valX_cons (x : Int → Int) (p : Int × Int) (ps : List (Int × Int)) : valX x (p :: ps) = p.2 * litX x p.1 + valX x ps := by simp [valX]
theorem valX_append (x : Int → Int) (ps qs : List (Int × Int)) : valX x (ps ++ qs) = valX x ps + valX x qs := by simp [valX]
theorem valX_perm (x : Int → Int) {ps qs : List (Int × Int)} (h : ps.Perm qs) : valX x ps = valX x qs := by
  induction h with
  | nil => rfl
  | cons a _ ih => simp [ih]
  | swap a b l => simp; omega
  | trans _ _ h1 h2 => rw [h1, h2]
theorem valX_reverse (x : Int → Int) (ps : List (Int × Int)) : valX x ps.reverse = valX x ps := valX_perm x (List.reverse_perm ps)
theorem valX_neg (x : Int → Int) (ps : List (Int × Int)) : valX x (ps.map fun p => (p.1, -p.2)) = -valX x ps := by
  induction ps with
  | nil => rfl
  | cons p ps ih => simp only [List.map_cons, valX_cons, ih, Int.neg_mul]; omega
theorem valX_scale (x : Int → Int) (c : Int) (ps : List (Int × Int)) : valX x (ps.map fun p => (p.1, c * p.2)) = c * valX x ps := by
  induction ps with
  | nil => simp
  | cons p ps ih => simp only [List.map_cons, valX_cons, ih, Int.mul_add, Int.mul_assoc]
@[simp] theorem totI_nil : totI [] = 0 := rfl
@[simp] theorem totI_cons (p : Int × Int) (ps : List (Int × Int)) : totI (p :: ps) = p.2 + totI ps := by simp [totI]
theorem totI_append (ps qs : List (Int × Int)) : totI (ps ++ qs) = totI ps + totI qs := by simp [totI]
theorem totI_perm {ps qs : List (Int × Int)} (h : ps.Perm qs) : totI ps = totI qs := by
  induction h with
  | nil => rfl
  | cons a _ ih => simp [ih]
  | swap a b l => simp; omega
  | trans _ _ h1 h2 => rw [h1, h2]
/-- the opposite -/
def flipI (l : Int) : Int := l + 1 - 2 * (l % 2)
theorem flip_half (l : Int) : flipI l / 2 = l / 2 := by unfold flipI; omega
theorem flip_mod (l : Int) : flipI l % 2 = 1 - l % 2 := by unfold flipI; omega
theorem flip_nonneg {l : Int} (h : 0 ≤ l) : 0 ≤ flipI l := by unfold flipI; omega
theorem flip_flip (l : Int) : flipI (flipI l) = l := by unfold flipI; omega
theorem litX_flip (x : Int → Int) {l : Int} (h : 0 ≤ l) : litX x (flipI l) = 1 - litX x l := by
  have h1 := flip_nonneg h
  have h2 := flip_half l
  have h3 := flip_mod l
  have n1 : ¬ flipI l < 0 := by omega
  have n2 : ¬ l < 0 := by omega
  unfold litX
  rw [if_neg n1, if_neg n2, h2]
  by_cases e : l % 2 = 0
  · have n3 : ¬ flipI l % 2 = 0 := by omega
    rw [if_neg n3, if_pos e]
  · have n3 : flipI l % 2 = 0 := by omega
    rw [if_pos n3, if_neg e]; omega
theorem valX_flip (x : Int → Int) : ∀ {ts : List (Int × Int)}, (∀ t ∈ ts, 0 ≤ t.1) → valX x (ts.map fun t => (flipI t.1, t.2)) = totI ts - valX x ts
  | [], _ => rfl
  | t :: ts, h => by
    have h1 := litX_flip x (h t List.mem_cons_self)
    have h2 := valX_flip x (ts := ts) fun u hu => h u (List.mem_cons_of_mem _ hu)
    simp only [List.map_cons, valX_cons, totI_cons, h1, h2, Int.mul_sub, Int.mul_one]
    omega
/-! ### the one form -/
structure SumOk (ts : List (Int × Int)) : Prop where
  tm : ∀ t ∈ ts, 0 ≤ t.1 ∧ 1 ≤ t.2
  asc : (ts.map fun t => t.1 / 2).Pairwise (· < ·)
  len : ts.length ≤ 100000
theorem SumOk.nil : SumOk [] := ⟨by simp, by simp, by simp⟩
theorem SumOk.tail {t : Int × Int} {ts : List (Int × Int)} (s : SumOk (t :: ts)) : SumOk ts :=
  ⟨fun u hu => s.tm u (List.mem_cons_of_mem _ hu), (List.pairwise_cons.mp s.asc).2, Nat.le_trans (Nat.le_succ _) s.len⟩
theorem SumOk.head {t : Int × Int} {ts : List (Int × Int)} (s : SumOk (t :: ts)) : ∀ u ∈ ts, t.1 / 2 < u.1 / 2 := fun u hu =>
  (List.pairwise_cons.mp s.asc).1 _ (List.mem_map.mpr ⟨u, hu, rfl⟩)
def ind (v : Int) : Int → Int := fun u => if u = v then 1 else 0
def zr : Int → Int := fun _ => 0
theorem val_fresh {v : Int} : ∀ {ts : List (Int × Int)}, (∀ t ∈ ts, t.1 / 2 ≠ v) → valX (ind v) ts = valX zr ts
  | [], _ => rfl
  | t :: ts, h => by
    have h1 := h t List.mem_cons_self
    rw [valX_cons, valX_cons, val_fresh fun u hu => h u (List.mem_cons_of_mem _ hu)]
    have : litX (ind v) t.1 = litX zr t.1 := by unfold litX ind zr; simp [h1]
    rw [this]
theorem lit_ind {l : Int} (h : 0 ≤ l) : litX (ind (l / 2)) l = if l % 2 = 0 then 1 else 0 := by
  unfold litX ind; rw [if_neg (by omega)]; simp
theorem lit_zr {l : Int} (h : 0 ≤ l) : litX zr l = if l % 2 = 0 then 0 else 1 := by
  unfold litX zr; rw [if_neg (by omega)]; simp
theorem uniq_const : ∀ {ts us : List (Int × Int)} {c : Int}, SumOk ts → SumOk us → (∀ x, valX x ts - valX x us = c) → ts = us
  | [], [], _, _, _, _ => rfl
  | [], u :: us, c, _, s, h => by
    have h1 := h (ind (u.1 / 2))
    have h2 := h zr
    have f : valX (ind (u.1 / 2)) us = valX zr us := val_fresh fun t ht => by have := s.head t ht; omega
    obtain ⟨k1, k2⟩ := s.tm u List.mem_cons_self
    simp only [valX_cons, valX_nil, f, lit_ind k1, lit_zr k1] at h1 h2
    exfalso
    by_cases e : u.1 % 2 = 0 <;> simp [e] at h1 h2 <;> omega
  | t :: ts, [], c, s, _, h => by
    have h1 := h (ind (t.1 / 2))
    have h2 := h zr
    have f : valX (ind (t.1 / 2)) ts = valX zr ts := val_fresh fun u ht => by have := s.head u ht; omega
    obtain ⟨k1, k2⟩ := s.tm t List.mem_cons_self
    simp only [valX_cons, valX_nil, f, lit_ind k1, lit_zr k1] at h1 h2
    exfalso
    by_cases e : t.1 % 2 = 0 <;> simp [e] at h1 h2 <;> omega
  | t :: ts, u :: us, c, s, s', h => by
    obtain ⟨k1, k2⟩ := s.tm t List.mem_cons_self
    obtain ⟨k3, k4⟩ := s'.tm u List.mem_cons_self
    have h0 := h zr
    rcases Int.lt_trichotomy (t.1 / 2) (u.1 / 2) with q | q | q
    · have h1 := h (ind (t.1 / 2))
      have f : valX (ind (t.1 / 2)) ts = valX zr ts := val_fresh fun v hv => by have := s.head v hv; omega
      have g : valX (ind (t.1 / 2)) (u :: us) = valX zr (u :: us) := val_fresh fun v hv => by
        rcases List.mem_cons.mp hv with e | hv
        · subst e; omega
        · have := s'.head v hv; omega
      rw [g, valX_cons, f, lit_ind k1] at h1
      rw [valX_cons, lit_zr k1] at h0
      exfalso
      by_cases e : t.1 % 2 = 0 <;> simp [e] at h1 h0 <;> omega
    · have h1 := h (ind (t.1 / 2))
      have f : valX (ind (t.1 / 2)) ts = valX zr ts := val_fresh fun v hv => by have := s.head v hv; omega
      have g : valX (ind (t.1 / 2)) us = valX zr us := val_fresh fun v hv => by have := s'.head v hv; omega
      have l1 := lit_ind k1
      have l2 := lit_ind k3
      rw [← q] at l2
      rw [valX_cons, valX_cons, f, g, l1, l2] at h1
      rw [valX_cons, valX_cons, lit_zr k1, lit_zr k3] at h0
      have e : t = u := by
        have e1 : t.1 = u.1 ∧ t.2 = u.2 := by
          by_cases e1 : t.1 % 2 = 0 <;> by_cases e2 : u.1 % 2 = 0 <;> simp [e1, e2] at h0 h1 <;> constructor <;> omega
        exact Prod.ext e1.1 e1.2
      subst e
      rw [uniq_const (ts := ts) (us := us) (c := c) s.tail s'.tail fun x => by have := h x; rw [valX_cons, valX_cons] at this; omega]
    · have h1 := h (ind (u.1 / 2))
      have f : valX (ind (u.1 / 2)) us = valX zr us := val_fresh fun v hv => by have := s'.head v hv; omega
      have g : valX (ind (u.1 / 2)) (t :: ts) = valX zr (t :: ts) := val_fresh fun v hv => by
        rcases List.mem_cons.mp hv with e | hv
        · subst e; omega
        · have := s.head v hv; omega
      rw [g, valX_cons (ind (u.1 / 2)), f, lit_ind k3] at h1
      rw [valX_cons zr u, lit_zr k3] at h0
      exfalso
      by_cases e : u.1 % 2 = 0 <;> simp [e] at h1 h0 <;> omega
/-- sums in the one form that come to the same everywhere are the same -/
theorem SumOk.uniq {ts us : List (Int × Int)} {a b : Int} (s : SumOk ts) (s' : SumOk us) (h : ∀ x, valX x ts - a = valX x us - b) : ts = us ∧ a = b := by
  have e : ts = us := uniq_const (c := a - b) s s' fun x => by have := h x; omega
  subst e
  have := h zr
  exact ⟨rfl, by omega⟩
/-- the weights of what is true -/
theorem val_filter {x : Int → Int} {p : Int × Int → Bool} : ∀ {ts : List (Int × Int)}, (∀ t ∈ ts, litX x t.1 = if p t = true then 1 else 0) → ((ts.filter p).map fun t => t.2).sum = valX x ts
  | [], _ => rfl
  | t :: ts, h => by
    have h1 := h t List.mem_cons_self
    have h2 := val_filter (ts := ts) fun u hu => h u (List.mem_cons_of_mem _ hu)
    rw [valX_cons, ← h2, h1, List.filter_cons]
    cases e : p t <;> simp
theorem SumOk.flip {ts : List (Int × Int)} (s : SumOk ts) : SumOk (ts.map fun t => (flipI t.1, t.2)) := by
  refine ⟨fun t ht => ?_, ?_, by simpa using s.len⟩
  · obtain ⟨u, hu, rfl⟩ := List.mem_map.mp ht
    have := s.tm u hu
    exact ⟨flip_nonneg this.1, this.2⟩
  · have : (ts.map fun t => (flipI t.1, t.2)).map (fun t => t.1 / 2) = ts.map fun t => t.1 / 2 := by
      rw [List.map_map]
      exact List.map_congr_left fun t _ => flip_half t.1
    rw [this]; exact s.asc
theorem SumOk.sub {ts us : List (Int × Int)} (s : SumOk ts) (h : us.Sublist ts) : SumOk us :=
  ⟨fun t ht => s.tm t (h.subset ht), s.asc.sublist (h.map _), Nat.le_trans h.length_le s.len⟩
/-- the assignment of a row of bits -/
def valsX (bs : List Int) : Int → Int := fun v => bs.getD v.toNat 0
/-- the assignment of a number's binary digits -/
def digX (row : Int) : Int → Int := fun v => row / 2 ^ v.toNat % 2
theorem dig_bit (row v : Int) : digX row v = 0 ∨ digX row v = 1 := by unfold digX; omega
end PX
namespace PX
/-! ### a dict of ints by ints -/
def getN : List (Int × Int) → Int → Int
  | [], _ => 0
  | (k, b) :: r, v => if k = v then b else getN r v
def hasN : List (Int × Int) → Int → Bool
  | [], _ => false
  | (k, _) :: r, v => decide (k = v) || hasN r v
def putN : List (Int × Int) → Int → Int → List (Int × Int)
  | [], v, a => [(v, a)]
  | (k, b) :: r, v, a => if k = v then (k, a) :: r else (k, b) :: putN r v a
def keysN (net : List (Int × Int)) : List Int := net.map fun q => q.1
def netX (x : Int → Int) (net : List (Int × Int)) : Int := (net.map fun q => q.2 * x q.1).sum
@[simp] theorem netX_nil (x : Int → Int) : netX x [] = 0 := rfl
@[simp] theorem netX_cons (x : Int → Int) (q : Int × Int) (r : List (Int × Int)) : netX x (q :: r) = q.2 * x q.1 + netX x r := by simp [netX]
theorem netX_put (x : Int → Int) (v δ : Int) : ∀ net : List (Int × Int), netX x (putN net v (getN net v + δ)) = netX x net + δ * x v
  | [] => by simp [putN, getN]
  | (k, b) :: r => by
    unfold putN getN
    by_cases h : k = v
    · subst h
      simp [Int.add_mul]; omega
    · rw [if_neg h, if_neg h, netX_cons, netX_cons, netX_put x v δ r]; omega
theorem keys_put (v a : Int) : ∀ net : List (Int × Int), keysN (putN net v a) = if hasN net v = true then keysN net else keysN net ++ [v]
  | [] => by simp [putN, hasN, keysN]
  | (k, b) :: r => by
    have ih := keys_put v a r
    unfold putN hasN
    by_cases h : k = v
    · simp [h, keysN]
    · simp only [keysN] at ih ⊢
      simp only [h, if_false, List.map_cons, ih, decide_false, Bool.false_or]
      split <;> rfl
theorem has_iff {v : Int} : ∀ {net : List (Int × Int)}, hasN net v = true ↔ v ∈ keysN net
  | [] => by simp [hasN, keysN]
  | (k, b) :: r => by
    have ih := has_iff (v := v) (net := r)
    simp only [hasN, keysN, List.map_cons, List.mem_cons, Bool.or_eq_true, decide_eq_true_eq] at ih ⊢
    rw [ih]
    exact ⟨fun h => h.imp Eq.symm id, fun h => h.imp Eq.symm id⟩
theorem nodup_put {v a : Int} {net : List (Int × Int)} (h : (keysN net).Nodup) : (keysN (putN net v a)).Nodup := by
  rw [keys_put]
  split
  · exact h
  · rename_i q
    rw [List.nodup_append]
    refine ⟨h, by simp, fun a ha b hb => ?_⟩
    have hb : b = v := by simpa using hb
    subst hb
    intro e
    subst e
    exact q (has_iff.mpr ha)
theorem len_put (v a : Int) (net : List (Int × Int)) : (putN net v a).length ≤ net.length + 1 := by
  have := congrArg List.length (keys_put v a net)
  simp only [keysN, List.length_map] at this
  rw [this]
  split <;> simp
theorem mem_put {v a : Int} {net : List (Int × Int)} {k : Int} (h : k ∈ keysN (putN net v a)) : k ∈ keysN net ∨ k = v := by
  rw [keys_put] at h
  split at h
  · exact .inl h
  · simpa using h
/-- the sum over the keys -/
theorem netX_keys (x : Int → Int) : ∀ {net : List (Int × Int)}, (keysN net).Nodup → netX x net = ((keysN net).map fun k => getN net k * x k).sum
  | [], _ => rfl
  | (k, b) :: r, h => by
    have hn := List.nodup_cons.mp (show (k :: keysN r).Nodup from h)
    rw [netX_cons, netX_keys x hn.2]
    show _ = (((k :: keysN r).map fun j => getN ((k, b) :: r) j * x j)).sum
    have e1 : getN ((k, b) :: r) k = b := by simp [getN]
    rw [List.map_cons, List.sum_cons, e1]
    congr 2
    apply List.map_congr_left
    intro j hj
    have : ¬ k = j := fun e => hn.1 (e ▸ hj)
    simp [getN, this]
/-- what weighted literals, put together, are -/
structure IsPut (ps : List (Int × Int)) (dg : Int) (ts : List (Int × Int)) (dg' : Int) : Prop where
  ok : SumOk ts
  eq : ∀ x, valX x ts - dg' = valX x ps - dg
theorem IsPut.uniq {ps qs ts us : List (Int × Int)} {dg dh a b : Int} (h : IsPut ps dg ts a) (k : IsPut qs dh us b) (e : ∀ x, valX x ps - dg = valX x qs - dh) : us = ts ∧ b = a :=
  k.ok.uniq h.ok fun x => by rw [k.eq, h.eq, e]
theorem IsPut.of_ok {ps ts : List (Int × Int)} {dg dg' a : Int} {us : List (Int × Int)} (h : IsPut ps dg ts dg') (s : SumOk us) (e : ∀ x, valX x us - a = valX x ps - dg) : ts = us ∧ dg' = a :=
  h.ok.uniq s fun x => by rw [h.eq, e]
def absW (ps : List (Int × Int)) : Int := (ps.map fun p => if p.2 < 0 then -p.2 else p.2).sum
theorem absW_nonneg : ∀ ps : List (Int × Int), 0 ≤ absW ps
  | [] => by decide
  | p :: ps => by
    have := absW_nonneg ps
    simp only [absW, List.map_cons, List.sum_cons] at this ⊢
    split <;> omega
theorem absW_le {c : Int} : ∀ {ps : List (Int × Int)}, (∀ p ∈ ps, -c ≤ p.2 ∧ p.2 ≤ c) → absW ps ≤ c * ps.length
  | [], _ => by simp [absW]
  | p :: ps, h => by
    have h1 := h p List.mem_cons_self
    have h2 := absW_le (ps := ps) fun q hq => h q (List.mem_cons_of_mem _ hq)
    simp only [absW, List.map_cons, List.sum_cons, List.length_cons] at h2 ⊢
    push_cast
    rw [Int.mul_add, Int.mul_one]
    split <;> omega
def bit01 (x : Int → Int) : Prop := ∀ v, x v = 0 ∨ x v = 1
theorem lit_bit {x : Int → Int} (h : bit01 x) (l : Int) : litX x l = 0 ∨ litX x l = 1 := by
  unfold litX
  have := h (l / 2)
  split
  · split <;> simp
  · split <;> omega
theorem val_abs {x : Int → Int} (h : bit01 x) : ∀ ps : List (Int × Int), -absW ps ≤ valX x ps ∧ valX x ps ≤ absW ps
  | [] => by simp [absW]
  | p :: ps => by
    have := val_abs h ps
    simp only [valX_cons, absW, List.map_cons, List.sum_cons] at this ⊢
    rcases lit_bit h p.1 with e | e <;> rw [e] <;> split <;> omega
theorem val_diff {x y : Int → Int} (h : bit01 x) (k : bit01 y) : ∀ ps : List (Int × Int), valX x ps - valX y ps ≤ absW ps ∧ -absW ps ≤ valX x ps - valX y ps
  | [] => by simp [absW]
  | p :: ps => by
    have := val_diff h k ps
    simp only [valX_cons, absW, List.map_cons, List.sum_cons] at this ⊢
    rcases lit_bit h p.1 with e | e <;> rcases lit_bit k p.1 with f | f <;> rw [e, f] <;> split <;> omega
theorem bit_ind (v : Int) : bit01 (ind v) := fun u => by unfold ind; split <;> simp
theorem bit_zr : bit01 zr := fun _ => .inl rfl
/-- one term by itself -/
theorem val_ind : ∀ {ts : List (Int × Int)}, SumOk ts → ∀ t ∈ ts, valX (ind (t.1 / 2)) ts - valX zr ts = if t.1 % 2 = 0 then t.2 else -t.2
  | [], _, t, h => by cases h
  | u :: ts, s, t, h => by
    rcases List.mem_cons.mp h with e | h
    · subst e
      obtain ⟨k1, k2⟩ := s.tm t List.mem_cons_self
      have f : valX (ind (t.1 / 2)) ts = valX zr ts := val_fresh fun u hu => by have := s.head u hu; omega
      rw [valX_cons, valX_cons, f, lit_ind k1, lit_zr k1]
      split <;> simp <;> omega
    · have ih := val_ind s.tail t h
      have hu := s.head t h
      have e : litX (ind (t.1 / 2)) u.1 = litX zr u.1 := by
        have : ¬ u.1 / 2 = t.1 / 2 := by omega
        unfold litX ind zr; simp [this]
      rw [valX_cons, valX_cons, e, ← ih]; omega
theorem IsPut.weight {ps ts : List (Int × Int)} {dg dg' : Int} (h : IsPut ps dg ts dg') : ∀ t ∈ ts, t.2 ≤ absW ps := fun t ht => by
  have h1 := val_ind h.ok t ht
  have h2 := h.eq (ind (t.1 / 2))
  have h3 := h.eq zr
  have h4 := val_diff (bit_ind (t.1 / 2)) bit_zr ps
  split at h1 <;> omega
/-- each variable comes from the pairs -/
theorem IsPut.from {ps ts : List (Int × Int)} {dg dg' : Int} (h : IsPut ps dg ts dg') : ∀ t ∈ ts, ∃ p ∈ ps, 0 ≤ p.1 ∧ p.1 / 2 = t.1 / 2 := fun t ht => by
  have h1 := val_ind h.ok t ht
  have h2 := h.eq (ind (t.1 / 2))
  have h3 := h.eq zr
  have h5 := h.ok.tm t ht
  false_or_by_contra
  rename_i hn
  have key : ∀ qs : List (Int × Int), (∀ q ∈ qs, ¬ (0 ≤ q.1 ∧ q.1 / 2 = t.1 / 2)) → valX (ind (t.1 / 2)) qs = valX zr qs := by
    intro qs
    induction qs with
    | nil => intro _; rfl
    | cons q qs ih =>
      intro hq
      have e : litX (ind (t.1 / 2)) q.1 = litX zr q.1 := by
        have := hq q List.mem_cons_self
        unfold litX ind zr
        by_cases c : q.1 < 0
        · simp [c]
        · have : ¬ q.1 / 2 = t.1 / 2 := fun e => this ⟨by omega, e⟩
          simp [this]
      rw [valX_cons, valX_cons, e, ih fun r hr => hq r (List.mem_cons_of_mem _ hr)]
  have := key ps fun q hq c => hn ⟨q, hq, c⟩
  split at h1 <;> omega
theorem SumOk.inj : ∀ {ts : List (Int × Int)}, SumOk ts → ∀ {t u : Int × Int}, t ∈ ts → u ∈ ts → t.1 / 2 = u.1 / 2 → t = u
  | [], _, t, u, h, _, _ => by cases h
  | w :: ts, s, t, u, h, k, e => by
    rcases List.mem_cons.mp h with h1 | h1 <;> rcases List.mem_cons.mp k with k1 | k1
    · rw [h1, k1]
    · have := s.head u k1; rw [h1] at e; omega
    · have := s.head t h1; rw [k1] at e; omega
    · exact s.tail.inj h1 k1 e
/-- an assignment at which nothing of a sum is true -/
def offX (ts : List (Int × Int)) : Int → Int := fun v => if (ts.any fun t => decide (t.1 / 2 = v) && decide (t.1 % 2 = 1)) = true then 1 else 0
theorem off_bit (ts : List (Int × Int)) : bit01 (offX ts) := fun v => by unfold offX; split <;> simp
theorem SumOk.off {ts : List (Int × Int)} (s : SumOk ts) : valX (offX ts) ts = 0 := by
  suffices h : ∀ us : List (Int × Int), (∀ u ∈ us, u ∈ ts) → valX (offX ts) us = 0 from h ts fun _ h => h
  intro us
  induction us with
  | nil => intro _; rfl
  | cons u us ih =>
    intro hu
    have hm := hu u List.mem_cons_self
    have h0 := s.tm u hm
    have e : litX (offX ts) u.1 = 0 := by
      unfold litX
      rw [if_neg (by omega)]
      by_cases c : u.1 % 2 = 0
      · rw [if_pos c]
        unfold offX
        rw [if_neg]
        intro q
        rw [List.any_eq_true] at q
        obtain ⟨t, ht, k⟩ := q
        simp only [Bool.and_eq_true, decide_eq_true_eq] at k
        have : t = u := s.inj ht hm k.1
        subst this
        omega
      · rw [if_neg c]
        unfold offX
        rw [if_pos]
        · rfl
        · rw [List.any_eq_true]
          exact ⟨u, hm, by simp; omega⟩
    rw [valX_cons, e, ih fun v hv => hu v (List.mem_cons_of_mem _ hv)]
    simp
theorem IsPut.degree {ps ts : List (Int × Int)} {dg dg' : Int} (h : IsPut ps dg ts dg') : dg - absW ps ≤ dg' ∧ dg' ≤ dg + absW ps := by
  have h1 := h.eq (offX ts)
  rw [h.ok.off] at h1
  have := val_abs (off_bit ts) ps
  omega
theorem IsPut.add {p q ts us vs : List (Int × Int)} {a b c d e : Int} (h : IsPut p a ts b) (k : IsPut q c us d) (m : IsPut (ts ++ us) (b + d) vs e) : ∀ x, valX x vs - e = valX x (p ++ q) - (a + c) := fun x => by
  rw [m.eq, valX_append, valX_append]
  have := h.eq x
  have := k.eq x
  omega
end PX
namespace PX
theorem IsPut.len {ps ts : List (Int × Int)} {dg dg' : Int} (h : IsPut ps dg ts dg') : ts.length ≤ ps.length := by
  have h1 : (ts.map fun t => t.1 / 2).Nodup := h.ok.asc.imp fun hlt => by omega
  have := List.Nodup.length_le_of_subset (l₂ := ps.map fun p => p.1 / 2) h1 fun v hv => by
    obtain ⟨t, ht, rfl⟩ := List.mem_map.mp hv
    obtain ⟨p, hp, _, e⟩ := h.from t ht
    exact List.mem_map.mpr ⟨p, hp, e⟩
  simpa using this
end PX

/-! PX24: what all laws share, without their defs. -/
namespace PX
mutual
/-- made of tuples, ints, truths, texts, None -/
def D.plain : D → Bool
  | .non => true | .bl _ => true | .int _ => true | .str _ => true
  | .tup xs => D.plains xs
  | _ => false
def D.plains : List D → Bool
  | [] => true
  | x :: xs => D.plain x && D.plains xs
end
theorem plains_iff : ∀ {xs : List D}, D.plains xs = true ↔ ∀ x ∈ xs, D.plain x = true
  | [] => by simp [D.plains]
  | x :: xs => by simp [D.plains, plains_iff (xs := xs)]
mutual
theorem D.plain.free : ∀ {d : D}, d.plain = true → d.free = true
  | .non, _ => by simp
  | .bl _, _ => by simp
  | .int _, _ => by simp
  | .str _, _ => by simp
  | .tup xs, h => by rw [fr_tup]; exact D.plains.free (by simpa [D.plain] using h)
  | .lst _, h => by simp [D.plain] at h
  | .scr _, h => by simp [D.plain] at h
  | .kup _, h => by simp [D.plain] at h
  | .adr _, h => by simp [D.plain] at h
theorem D.plains.free : ∀ {xs : List D}, D.plains xs = true → D.frees xs = true
  | [], _ => by simp
  | x :: xs, h => by
    simp only [D.plains, Bool.and_eq_true] at h
    rw [frs_cons, D.plain.free h.1, D.plains.free h.2]; rfl
end
mutual
theorem eqv_self : ∀ {d : D}, d.plain = true → D.eqv d d = true
  | .non, _ => by simp [D.eqv]
  | .bl _, _ => by simp [D.eqv]
  | .int _, _ => by simp [D.eqv]
  | .str _, _ => by simp [D.eqv]
  | .tup xs, h => by simp only [D.eqv]; exact eqvs_self (by simpa [D.plain] using h)
  | .lst _, h => by simp [D.plain] at h
  | .scr _, h => by simp [D.plain] at h
  | .kup _, h => by simp [D.plain] at h
  | .adr _, h => by simp [D.plain] at h
theorem eqvs_self : ∀ {xs : List D}, D.plains xs = true → D.eqvs xs xs = true
  | [], _ => by simp [D.eqvs]
  | x :: xs, h => by
    simp only [D.plains, Bool.and_eq_true] at h
    simp only [D.eqvs, eqv_self h.1, eqvs_self h.2, Bool.and_self]
end
theorem szs_append (xs ys : List D) : D.szs (xs ++ ys) = D.szs xs + D.szs ys := by
  induction xs with
  | nil => simp [D.szs]
  | cons x xs ih => simp [D.szs, ih]; omega
theorem eqvs_nil (xs : List D) : D.eqvs xs [] = xs.isEmpty := by cases xs <;> simp [D.eqvs]
def twin (x : D) : D := .tup [x, x]
end PX
namespace PX
theorem kindW {ws : List D} (m : ME) (h : m.ofDict = false) : mkind m [.lst ws] (.adr 0) = true := by
  unfold mkind
  rw [h]
  rfl
theorem depth_str (z : PySem.Str) : (D.str z).depth = 0 := by simp [D.depth]
theorem ne_self {S : Store} {x : D} (h : x.plain = true) (hd : x.depth ≤ 64) : eqR true S x x = .ok (.bl false) S := by
  have hs : snap S x = some x := by
    cases x <;> simp [D.plain] at h <;> simp [snap]
    exact D.plains.free h
  unfold eqR
  rw [hs]
  dsimp only
  rw [decide_eq_true hd, eqv_self h]
  rfl
theorem depths_le {xs : List D} {k : Nat} (h : ∀ x ∈ xs, x.depth ≤ k) : D.depths xs ≤ k := by
  induction xs with
  | nil => simp [D.depths]
  | cons x xs ih =>
    have h1 := h x List.mem_cons_self
    have h2 := ih fun y hy => h y (List.mem_cons_of_mem _ hy)
    simp only [D.depths]
    omega
theorem depth_of_mem {xs : List D} {x : D} (h : x ∈ xs) : x.depth ≤ D.depths xs := by
  induction xs with
  | nil => cases h
  | cons y ys ih =>
    simp only [D.depths]
    rcases List.mem_cons.mp h with e | h
    · subst e; omega
    · have := ih h; omega
theorem twin_frees {ws : List D} (h : D.plains ws = true) : D.frees (ws.map twin) = true := by
  rw [D.frees_iff]
  intro x hx
  obtain ⟨w, hw, rfl⟩ := List.mem_map.mp hx
  have := D.plain.free (plains_iff.mp h w hw)
  simp [twin, this]
theorem wait_ne {ws : List D} (h : D.plains ws = true) (hd : ∀ w ∈ ws, w.depth ≤ 60) : eqR true [.lst (ws.map twin)] (.adr 0) (.lst []) = .ok (.bl (!ws.isEmpty)) [.lst (ws.map twin)] := by
  have h1 : snap [.lst (ws.map twin)] (.adr 0) = some (.lst (ws.map twin)) := by simp [snap, twin_frees h]
  have h2 : (D.lst (ws.map twin)).depth ≤ 64 := by
    have : D.depths (ws.map twin) ≤ 61 := depths_le fun x hx => by
      obtain ⟨w, hw, rfl⟩ := List.mem_map.mp hx
      have := hd w hw
      simp only [twin, D.depth, D.depths]
      omega
    simp only [D.depth]; omega
  have h3 : (D.lst []).depth ≤ 64 := by simp [D.depth, D.depths]
  unfold eqR
  rw [h1]
  simp only [snap, fr_lst, frs_nil, if_true]
  rw [decide_eq_true h2, decide_eq_true h3]
  simp [D.eqv, eqvs_nil]
theorem len_szs : ∀ ys : List D, ys.length ≤ D.szs ys
  | [] => by simp
  | y :: ys => by
    have : 1 ≤ D.sz y := by cases y <;> simp [D.sz]
    have := len_szs ys
    simp only [D.szs, List.length_cons]; omega
theorem twin_rng (ys : List D) : (List.range ys.length).map (fun i => twin ((ys[i]?).getD .non)) = ys.map twin := by
  apply List.ext_getElem?
  intro i
  by_cases h : i < ys.length
  · simp [h]
  · simp [h]
theorem ev_rng1_ok {a : E} {ρ : Env} {S S1 : Store} {j : Int} (h : evE a ρ S = .ok (.int j) S1) (hr : rngOk j = true) : evI (.rng1 a) ρ S = .ok ⟨rngL 0 j.toNat, []⟩ S1 := by
  rw [ev_rng1, h]
  show guardR (rngOk j) _ = _
  rw [hr]
  rfl
/-! ### the deck -/
structure Deck (S : Store) (n m : Nat) : Prop where
  ex : ∃ (cs : List Int) (a b : Int), S[n]? = some (.lst [.adr m, .int a, .int b]) ∧ S[m]? = some (.lst (cs.map D.int))
  ne : n ≠ m
/-- but for the deck's two cells the store stays -/
structure Stay (n m : Nat) (S S' : Store) : Prop where
  len : S.length ≤ S'.length
  old : ∀ i, i ≠ n → i ≠ m → i < S.length → S'[i]? = S[i]?
theorem Stay.refl {n m : Nat} {S : Store} : Stay n m S S := ⟨Nat.le_refl _, fun _ _ _ _ => rfl⟩
theorem Stay.trans {n m : Nat} {S S1 S2 : Store} (x : Stay n m S S1) (y : Stay n m S1 S2) : Stay n m S S2 := ⟨Nat.le_trans x.len y.len, fun i h1 h2 h3 => by rw [y.old i h1 h2 (Nat.lt_of_lt_of_le h3 x.len), x.old i h1 h2 h3]⟩
theorem depths_ints : ∀ cs : List Int, D.depths (cs.map D.int) = 0
  | [] => by simp [D.depths]
  | c :: cs => by simp [D.depths, D.depth, depths_ints cs]
theorem p6 : powOk 10 6 = true := by decide +kernel
theorem p18 : powOk 10 18 = true := by decide +kernel
theorem p40 : powOk 10 40 = true := by decide +kernel
theorem m1 (i : Int) : mulOk i 69621 = true := by simp [mulOk, small64]
theorem m2 (i : Int) : mulOk i 40014 = true := by simp [mulOk, small64]
theorem m3 (i : Int) : mulOk i 48271 = true := by simp [mulOk, small64]
theorem m4 (i : Int) : mulOk 2 i = true := by simp [mulOk, small64]
theorem m5 (i : Int) : mulOk i 2 = true := by simp [mulOk, small64]
theorem d53 : divOk 53 = true := by decide +kernel
/-- ints of the deck's list, the first one popped -/
theorem ne_nil {S : Store} {m : Nat} {cs : List Int} (h : S[m]? = some (.lst (cs.map D.int))) : eqR true S (.adr m) (.lst []) = .ok (.bl (!cs.isEmpty)) S := by
  unfold eqR snap
  simp only [h, frees_ints, if_true, frs_nil, fr_lst]
  have e1 : (D.lst (cs.map D.int)).depth = 1 := by simp [D.depth, depths_ints]
  have e2 : (D.lst []).depth = 1 := by simp [D.depth, D.depths]
  rw [e1, e2]
  simp [D.eqv, eqvs_nil]
theorem pop0 {S : Store} {m : Nat} {c : Int} {cs : List Int} (h : S[m]? = some (.lst ((c :: cs).map D.int))) : guardR (mkind .popAt S (.adr m)) (methV .popAt S (.adr m) [.int 0]) = .ok (.int c) (S.set m (.lst (cs.map D.int))) := by
  have e1 : mkind .popAt S (.adr m) = true := by simp [mkind, ME.ofDict, asLstW, h]
  rw [e1, guardR_true]
  unfold methV
  simp [h]
  have : L2.ixN (cs.length + 1) 0 = some 0 := by
    unfold L2.ixN
    rw [if_pos (by omega), if_pos (by omega)]
    rfl
  rw [this]
  simp
theorem set_cell {S : Store} {n : Nat} {xs : List D} {i : Int} {k : Nat} {v : D} (h : S[n]? = some (.lst xs)) (hi : i = (k : Int)) (hk : k < xs.length) : setV S (.adr n) (.int i) v = .ok () (S.set n (.lst (xs.set k v))) := by
  unfold setV
  simp only [h]
  have : L2.ixN xs.length i = some k := by
    unfold L2.ixN
    rw [if_pos (by omega), if_pos (by omega), hi, Int.toNat_natCast]
  rw [this]
theorem ix_cell {S : Store} {n : Nat} {xs : List D} (i : Int) (h : S[n]? = some (.lst xs)) : ixV S (.adr n) (.int i) = optR (L2.atI xs i) S := by
  unfold ixV
  simp [asLst, h]
theorem kind_cell {S : Store} {t : Nat} {xs : List D} (m : ME) (hm : m.ofDict = false) (h : S[t]? = some (.lst xs)) : mkind m S (.adr t) = true := by
  unfold mkind
  rw [hm]
  simp [asLstW, h]
theorem app_cell {S : Store} {t : Nat} {xs : List D} {v : D} (h : S[t]? = some (.lst xs)) (hl : xs.length < PySem.sizeLine) : methV .append S (.adr t) [v] = .ok .non (S.set t (.lst (xs ++ [v]))) := by
  unfold methV
  simp [h, hl]
theorem tup_cell {S : Store} {t : Nat} {xs : List D} (h : S[t]? = some (.lst xs)) : biV .tuple S [.adr t] = .ok (.tup xs) S := by
  unfold biV
  simp [asLst, h]
theorem Deck.lt {S : Store} {n m : Nat} (h : Deck S n m) : n < S.length ∧ m < S.length := by
  obtain ⟨⟨cs, a, b, h1, h2⟩, _⟩ := h
  exact ⟨(List.getElem?_eq_some_iff.mp h1).1, (List.getElem?_eq_some_iff.mp h2).1⟩
/-- another cell is written -/
theorem Deck.put {S : Store} {n m t : Nat} (h : Deck S n m) (hn : t ≠ n) (hm : t ≠ m) (c : Cell) : Deck (S.set t c) n m := by
  obtain ⟨⟨cs, a, b, h1, h2⟩, ne⟩ := h
  exact ⟨⟨cs, a, b, by rw [List.getElem?_set_ne hn]; exact h1, by rw [List.getElem?_set_ne hm]; exact h2⟩, ne⟩
theorem Deck.app {S : Store} {n m : Nat} (h : Deck S n m) (c : Cell) : Deck (S ++ [c]) n m := by
  obtain ⟨h3, h4⟩ := h.lt
  obtain ⟨⟨cs, a, b, h1, h2⟩, ne⟩ := h
  exact ⟨⟨cs, a, b, by rw [List.getElem?_append_left h3]; exact h1, by rw [List.getElem?_append_left h4]; exact h2⟩, ne⟩
theorem Stay.app {n m : Nat} {S S' : Store} (h : Stay n m S S') (c : Cell) : Stay n m S (S' ++ [c]) :=
  ⟨by simp; have := h.len; omega, fun i h1 h2 h3 => by rw [List.getElem?_append_left (Nat.lt_of_lt_of_le h3 h.len)]; exact h.old i h1 h2 h3⟩
theorem Stay.put {n m t : Nat} {S S' : Store} (h : Stay n m S S') (ht : S.length ≤ t) (c : Cell) : Stay n m S (S'.set t c) :=
  ⟨by simpa using h.len, fun i h1 h2 h3 => by rw [List.getElem?_set_ne (by omega)]; exact h.old i h1 h2 h3⟩
end PX
namespace PX
open PySem
theorem sz100000 {n : Nat} (h : n ≤ 100000) : n ≤ PySem.sizeLine := Nat.le_trans h (by decide)
theorem xor1 (l : Int) : PySem.Builtin.bitXor l 1 = flipI l := by rw [PyProof.Rows.bitXor_and, PyProof.Rows.bitAnd_m1]; rfl
theorem and1 (l : Int) : PySem.Builtin.bitAnd l 1 = l % 2 := PyProof.Rows.bitAnd_m1 l
def sumD (ts : List (Int × Int)) (dg : Int) : D := .tup [.tup (ts.map pairD), .int dg]
@[simp] theorem free_sum (ts : List (Int × Int)) (dg : Int) : (sumD ts dg).free = true := by simp [sumD, frees_pairs]
theorem plains_pairs (ts : List (Int × Int)) : D.plains (ts.map pairD) = true := by
  induction ts with
  | nil => rfl
  | cons t ts ih => simp [D.plains, D.plain, pairD, ih]
theorem plain_sum (ts : List (Int × Int)) (dg : Int) : (sumD ts dg).plain = true := by simp [sumD, D.plain, D.plains, plains_pairs]
theorem depths_pairs : ∀ ts : List (Int × Int), D.depths (ts.map pairD) ≤ 1
  | [] => by simp [D.depths]
  | t :: ts => by
    have := depths_pairs ts
    simp only [List.map_cons, D.depths, pairD, D.depth]
    omega
theorem depth_sum (ts : List (Int × Int)) (dg : Int) : (sumD ts dg).depth ≤ 3 := by
  have := depths_pairs ts
  simp only [sumD, D.depth, D.depths]; omega
theorem szs_pairs : ∀ ts : List (Int × Int), D.szs (ts.map pairD) = 3 * ts.length
  | [] => rfl
  | t :: ts => by
    have := szs_pairs ts
    simp only [List.map_cons, D.szs, pairD, D.sz, List.length_cons, this]; omega
theorem sz_sum (ts : List (Int × Int)) (dg : Int) : D.sz (sumD ts dg) = 3 * ts.length + 3 := by
  simp only [sumD, D.sz, D.szs, szs_pairs]
theorem ix0_sum {ts : List (Int × Int)} {dg : Int} {S : Store} : ixV S (sumD ts dg) (.int 0) = .ok (.tup (ts.map pairD)) S := by simp [sumD]
theorem ix1_sum {ts : List (Int × Int)} {dg : Int} {S : Store} : ixV S (sumD ts dg) (.int 1) = .ok (.int dg) S := by simp [sumD]
theorem sum_inj {ts us : List (Int × Int)} {a b : Int} (h : sumD ts a = sumD us b) : ts = us ∧ a = b := by
  simp only [sumD, D.tup.injEq, List.cons.injEq, D.int.injEq, and_true] at h
  refine ⟨?_, h.2⟩
  have h2 := congrArg asPairs h.1
  rw [asPairs_map, asPairs_map] at h2
  exact Option.some.inj h2
/-! ### any object -/
mutual
/-- made of None, truths, ints, texts, tuples, lists of at most 100,000 entries -/
def D.good : D → Bool
  | .non => true | .bl _ => true | .int _ => true | .str _ => true
  | .tup xs => decide (xs.length ≤ 100000) && D.goods xs
  | .lst xs => decide (xs.length ≤ 100000) && D.goods xs
  | _ => false
def D.goods : List D → Bool
  | [] => true
  | x :: xs => D.good x && D.goods xs
end
theorem goods_iff : ∀ {xs : List D}, D.goods xs = true ↔ ∀ x ∈ xs, D.good x = true
  | [] => by simp [D.goods]
  | x :: xs => by simp [D.goods, goods_iff (xs := xs)]
mutual
theorem D.good.free : ∀ {d : D}, d.good = true → d.free = true
  | .non, _ => by simp
  | .bl _, _ => by simp
  | .int _, _ => by simp
  | .str _, _ => by simp
  | .tup xs, h => by rw [fr_tup]; exact D.goods.free (by simp only [D.good, Bool.and_eq_true] at h; exact h.2)
  | .lst xs, h => by rw [fr_lst]; exact D.goods.free (by simp only [D.good, Bool.and_eq_true] at h; exact h.2)
  | .scr _, h => by simp [D.good] at h
  | .kup _, h => by simp [D.good] at h
  | .adr _, h => by simp [D.good] at h
theorem D.goods.free : ∀ {xs : List D}, D.goods xs = true → D.frees xs = true
  | [], _ => by simp
  | x :: xs, h => by
    simp only [D.goods, Bool.and_eq_true] at h
    rw [frs_cons, D.good.free h.1, D.goods.free h.2]; rfl
end
theorem goods_pairs (ts : List (Int × Int)) : D.goods (ts.map pairD) = true := by
  induction ts with
  | nil => rfl
  | cons t ts ih => simp [D.goods, D.good, pairD, ih]
theorem goods_append (xs ys : List D) : D.goods (xs ++ ys) = (D.goods xs && D.goods ys) := by
  induction xs with
  | nil => simp [D.goods]
  | cons x xs ih => simp [D.goods, ih, Bool.and_assoc]
theorem good_tup {xs : List D} (h : (D.tup xs).good = true) : xs.length ≤ 100000 ∧ D.goods xs = true := by
  simp only [D.good, Bool.and_eq_true, decide_eq_true_eq] at h; exact h
theorem good_sum {ts : List (Int × Int)} {dg : Int} (h : ts.length ≤ 100000) : (sumD ts dg).good = true := by
  simp [sumD, D.good, D.goods, goods_pairs, h]
/-- a tuple of so many entries -/
def rowB (d : D) (lo hi : Int) : Bool := match d with
  | .tup xs => decide (lo ≤ xs.length) && decide ((xs.length : Int) ≤ hi)
  | .kup xs => decide (lo ≤ xs.length) && decide ((xs.length : Int) ≤ hi)
  | _ => false
/-- an int from so much on -/
def fromB (k : Int) (d : D) : Bool := match d with
  | .int i => decide (k ≤ i)
  | _ => false
def withinB (d : D) (lo hi : Int) : Bool := match d with
  | .int i => decide (lo ≤ i) && decide (i ≤ hi)
  | _ => false
def termB (t : Int × Int) : Bool := decide (0 ≤ t.1) && decide (1 ≤ t.2)
def termD (d : D) : Bool := match d with
  | .tup [a, b] => fromB 0 a && fromB 1 b
  | _ => false
theorem termD_pair (t : Int × Int) : termD (pairD t) = termB t := rfl
theorem termD_inv {d : D} (h : termD d = true) : ∃ t, d = pairD t ∧ termB t = true := by
  unfold termD at h
  split at h
  · rename_i a b
    rw [Bool.and_eq_true] at h
    cases a <;> simp [fromB] at h
    rename_i i
    cases b <;> simp [fromB] at h
    rename_i j
    exact ⟨(i, j), rfl, by simp [termB, h.1, h.2]⟩
  · cases h
theorem terms_inv : ∀ {xs : List D}, xs.all termD = true → ∃ ts : List (Int × Int), xs = ts.map pairD ∧ ts.all termB = true
  | [], _ => ⟨[], rfl, rfl⟩
  | x :: xs, h => by
    rw [List.all_cons, Bool.and_eq_true] at h
    obtain ⟨t, rfl, h1⟩ := termD_inv h.1
    obtain ⟨ts, rfl, h2⟩ := terms_inv h.2
    exact ⟨t :: ts, rfl, by rw [List.all_cons, h1, h2]; rfl⟩
theorem terms_all (ts : List (Int × Int)) : (ts.map pairD).all termD = ts.all termB := by rw [List.all_map]; rfl
/-- ascending -/
def ascB (vs : List Int) : Bool := (vs.zip (vs.drop 1)).all fun p => decide (p.1 < p.2)
theorem asc_cons (x y : Int) (r : List Int) : ascB (x :: y :: r) = (decide (x < y) && ascB (y :: r)) := rfl
theorem asc_iff : ∀ {vs : List Int}, ascB vs = true ↔ vs.Pairwise (· < ·)
  | [] => by simp [ascB]
  | [x] => by simp [ascB]
  | x :: y :: r => by
    have ih := asc_iff (vs := y :: r)
    rw [asc_cons, Bool.and_eq_true, ih, decide_eq_true_eq, List.pairwise_cons (a := x)]
    constructor
    · intro ⟨h1, h2⟩
      refine ⟨fun z hz => ?_, h2⟩
      rcases List.mem_cons.mp hz with e | hz
      · subst e; exact h1
      · exact Int.lt_trans h1 ((List.pairwise_cons.mp h2).1 z hz)
    · intro ⟨h1, h2⟩
      exact ⟨h1 y List.mem_cons_self, h2⟩
def termsD (d : D) : Bool := match d with
  | .tup xs => match asPairs xs with
    | some ts => ts.all termB && ascB (ts.map fun t => t.1 / 2)
    | none => false
  | _ => false
theorem termsD_pairs (ts : List (Int × Int)) : termsD (.tup (ts.map pairD)) = (ts.all termB && ascB (ts.map fun t => t.1 / 2)) := by
  unfold termsD
  dsimp only
  rw [asPairs_map]
theorem termsD_not {xs : List D} (h : xs.all termD = false) : termsD (.tup xs) = false := by
  unfold termsD
  dsimp only
  split
  · rename_i ts e
    have e2 := asPairs_eq e
    subst e2
    rw [terms_all] at h
    rw [h]; rfl
  · rfl
def sumB (d : D) : Bool := match d with
  | .tup [a, b] => termsD a && b.isI
  | _ => false
theorem SumOk.all {ts : List (Int × Int)} (h : SumOk ts) : ts.all termB = true := by
  rw [List.all_eq_true]
  intro t ht
  obtain ⟨h1, h2⟩ := h.tm t ht
  simp [termB, h1, h2]
theorem SumOk.terms {ts : List (Int × Int)} (h : SumOk ts) : termsD (.tup (ts.map pairD)) = true := by
  rw [termsD_pairs, h.all, asc_iff.mpr h.asc]; rfl
theorem SumOk.sumB {ts : List (Int × Int)} (h : SumOk ts) (dg : Int) : sumB (sumD ts dg) = true := by
  unfold sumD PX.sumB
  simp [h.terms]
theorem terms_ok {ts : List (Int × Int)} (h : termsD (.tup (ts.map pairD)) = true) (hl : ts.length ≤ 100000) : SumOk ts := by
  rw [termsD_pairs, Bool.and_eq_true] at h
  refine ⟨fun t ht => ?_, asc_iff.mp h.2, hl⟩
  have := List.all_eq_true.mp h.1 t ht
  simpa [termB] using this
theorem termsD_inv {d : D} (h : termsD d = true) : ∃ ts : List (Int × Int), d = .tup (ts.map pairD) := by
  unfold termsD at h
  split at h
  · split at h
    · rename_i e
      exact ⟨_, by rw [asPairs_eq e]⟩
    · cases h
  · cases h
theorem sumB_inv {d : D} (h : sumB d = true) : ∃ ts dg, d = sumD ts dg ∧ termsD (.tup (ts.map pairD)) = true := by
  unfold sumB at h
  split at h
  · rename_i a b
    rw [Bool.and_eq_true] at h
    obtain ⟨ts, rfl⟩ := termsD_inv h.1
    have hb := h.2
    cases b <;> simp [D.isI] at hb
    exact ⟨ts, _, rfl, h.1⟩
  · cases h
/-! ### outcomes by what is asked of them -/
def R.wp {α : Type} (r : R α) (Q : α → Store → Prop) : Prop := match r with
  | .ok a S => Q a S
  | _ => False
def RS.wp (r : RS) (Q : Fl → Env → Store → Prop) : Prop := match r with
  | .fl f ρ S => Q f ρ S
  | _ => False
@[simp] theorem wp_ok {α : Type} (a : α) (S : Store) (Q : α → Store → Prop) : (R.ok a S).wp Q = Q a S := rfl
@[simp] theorem wp_exc {α : Type} (c : PySem.Str) (S : Store) (Q : α → Store → Prop) : (R.exc c S).wp Q = False := rfl
@[simp] theorem wp_stuck {α : Type} (Q : α → Store → Prop) : (R.stuck : R α).wp Q = False := rfl
@[simp] theorem wps_fl (f : Fl) (ρ : Env) (S : Store) (Q : Fl → Env → Store → Prop) : (RS.fl f ρ S).wp Q = Q f ρ S := rfl
@[simp] theorem wps_exc (c : PySem.Str) (ρ : Env) (S : Store) (Q : Fl → Env → Store → Prop) : (RS.exc c ρ S).wp Q = False := rfl
@[simp] theorem wps_stuck (Q : Fl → Env → Store → Prop) : RS.stuck.wp Q = False := rfl
@[simp] theorem wp_bind {α β : Type} (r : R α) (f : α → Store → R β) (Q : β → Store → Prop) : (r.bind f).wp Q = r.wp fun a S => (f a S).wp Q := by cases r <;> rfl
@[simp] theorem wp_then {α : Type} (r : R α) (ρ : Env) (f : α → Store → RS) (Q : Fl → Env → Store → Prop) : (r.then ρ f).wp Q = r.wp fun a S => (f a S).wp Q := by cases r <;> rfl
theorem R.wp.imp {α : Type} {r : R α} {P Q : α → Store → Prop} (h : r.wp P) (k : ∀ a S, P a S → Q a S) : r.wp Q := by
  cases r <;> first | exact k _ _ h | exact h
theorem RS.wp.imp {r : RS} {P Q : Fl → Env → Store → Prop} (h : r.wp P) (k : ∀ f ρ S, P f ρ S → Q f ρ S) : r.wp Q := by
  cases r <;> first | exact k _ _ _ h | exact h
theorem R.wp.ex {α : Type} {r : R α} {Q : α → Store → Prop} (h : r.wp Q) : ∃ a S, r = .ok a S ∧ Q a S := by
  cases r <;> first | exact ⟨_, _, rfl, h⟩ | exact h.elim
theorem RS.wp.ex {r : RS} {Q : Fl → Env → Store → Prop} (h : r.wp Q) : ∃ f ρ S, r = .fl f ρ S ∧ Q f ρ S := by
  cases r <;> first | exact ⟨_, _, _, rfl, h⟩ | exact h.elim
/-- what comes behind a statement -/
def thenB (n : Nat) (r : B) (Q : Fl → Env → Store → Prop) (f : Fl) (ρ : Env) (S : Store) : Prop := match f with
  | .next => (evB n r ρ S).wp Q
  | .ret d => Q (.ret d) ρ S
  | .brk => Q .brk ρ S
  | .cont => Q .cont ρ S
@[simp] theorem then_next (n : Nat) (r : B) (Q : Fl → Env → Store → Prop) (ρ : Env) (S : Store) : thenB n r Q .next ρ S = (evB n r ρ S).wp Q := rfl
@[simp] theorem then_ret (n : Nat) (r : B) (Q : Fl → Env → Store → Prop) (d : D) (ρ : Env) (S : Store) : thenB n r Q (.ret d) ρ S = Q (.ret d) ρ S := rfl
@[simp] theorem then_brk (n : Nat) (r : B) (Q : Fl → Env → Store → Prop) (ρ : Env) (S : Store) : thenB n r Q .brk ρ S = Q .brk ρ S := rfl
@[simp] theorem then_cont (n : Nat) (r : B) (Q : Fl → Env → Store → Prop) (ρ : Env) (S : Store) : thenB n r Q .cont ρ S = Q .cont ρ S := rfl
@[simp] theorem wpB_nil {n : Nat} {ρ : Env} {S : Store} {Q : Fl → Env → Store → Prop} : (evB n .nil ρ S).wp Q = Q .next ρ S := rfl
@[simp] theorem wpB_cons {n : Nat} {s : PX.S} {r : B} {ρ : Env} {S : Store} {Q : Fl → Env → Store → Prop} : (evB n (.cons s r) ρ S).wp Q = (evS n s ρ S).wp (thenB n r Q) := by
  rw [eb_cons]
  cases evS n s ρ S with
  | fl f ρ' S' => cases f <;> rfl
  | exc c ρ' S' => rfl
  | stuck => rfl
/-- how a def ends -/
def endQ (Q : D → Store → Prop) (f : Fl) (_ : Env) (S : Store) : Prop := match f with
  | .next => Q .non S
  | .ret d => Q d S
  | _ => False
@[simp] theorem end_next (Q : D → Store → Prop) (ρ : Env) (S : Store) : endQ Q .next ρ S = Q .non S := rfl
@[simp] theorem end_ret (Q : D → Store → Prop) (d : D) (ρ : Env) (S : Store) : endQ Q (.ret d) ρ S = Q d S := rfl
theorem wp_run {n m : Nat} {b : B} {S : Store} {ds : List D} {Q : D → Store → Prop} : (runB n m b S ds).wp Q = (evB n b (ds.map some ++ List.replicate (m - ds.length) none) S).wp (endQ Q) := by
  unfold runB
  cases evB n b (ds.map some ++ List.replicate (m - ds.length) none) S with
  | fl f ρ' S' => cases f <;> rfl
  | exc c ρ' S' => rfl
  | stuck => rfl
theorem wp_callT {f : FnI} {ds : List D} {S : Store} {Q : D → Store → Prop} (h : (f.sem S ds).wp Q) (hl : ds.length = f.ps.length) : (callV true f ds S).wp Q := by
  unfold callV
  rw [decide_eq_true hl, guardR_true]
  exact h
/-- a call apart, its value told -/
theorem call_wp {f : FnI} {ds : List D} {d : D} (S : Store) (h : (f.sem [] ds).wp fun x _ => x = d) (hl : ds.length = f.ps.length) (hf : D.frees ds = true) (hd : d.free = true) : callV false f ds S = .ok d S := by
  obtain ⟨x, S0, e, rfl⟩ := h.ex
  exact callV_ok S e hl hf hd
theorem wp_callF {f : FnI} {ds : List D} {S : Store} {Q : D → Store → Prop} (h : (f.sem [] ds).wp fun x _ => x.free = true ∧ Q x S) (hl : ds.length = f.ps.length) (hf : D.frees ds = true) : (callV false f ds S).wp Q := by
  obtain ⟨x, S0, e, h1, h2⟩ := h.ex
  rw [callV_ok S e hl hf h1]
  exact h2
/-- a turn of a walk -/
def turnQ (P : Env → Store → Prop) (Q : Fl → Env → Store → Prop) (f : Fl) (ρ : Env) (S : Store) : Prop := match f with
  | .next => P ρ S
  | .cont => P ρ S
  | .brk => Q .next ρ S
  | .ret d => Q (.ret d) ρ S
@[simp] theorem turn_next (P : Env → Store → Prop) (Q : Fl → Env → Store → Prop) (ρ : Env) (S : Store) : turnQ P Q .next ρ S = P ρ S := rfl
@[simp] theorem turn_cont (P : Env → Store → Prop) (Q : Fl → Env → Store → Prop) (ρ : Env) (S : Store) : turnQ P Q .cont ρ S = P ρ S := rfl
@[simp] theorem turn_brk (P : Env → Store → Prop) (Q : Fl → Env → Store → Prop) (ρ : Env) (S : Store) : turnQ P Q .brk ρ S = Q .next ρ S := rfl
@[simp] theorem turn_ret (P : Env → Store → Prop) (Q : Fl → Env → Store → Prop) (d : D) (ρ : Env) (S : Store) : turnQ P Q (.ret d) ρ S = Q (.ret d) ρ S := rfl
theorem wp_for {w : Ws} {t : T} {body : Env → Store → RS} {ρ : Env} {S : Store} {Q : Fl → Env → Store → Prop} (P : Nat → Env → Store → Prop) (h0 : P 0 ρ S) (hok : ∀ i ρ S, P i ρ S → w.ok S = true)
    (hstep : ∀ i d ρ S, w.ds[i]? = some d → P i ρ S → ∃ ρ1, asgT t d ρ = some ρ1 ∧ (body ρ1 S).wp (turnQ (P (i + 1)) Q)) (hend : ∀ ρ S, P w.ds.length ρ S → Q .next ρ S) : (forLoop w t body w.ds ρ S).wp Q := by
  suffices h : ∀ (k i : Nat) (ρ : Env) (S : Store), i + k = w.ds.length → P i ρ S → (forLoop w t body (w.ds.drop i) ρ S).wp Q by
    simpa using h w.ds.length 0 ρ S (by omega) h0
  intro k
  induction k with
  | zero =>
    intro i ρ S hi hp
    have : i = w.ds.length := by omega
    subst this
    rw [List.drop_length]
    unfold forLoop
    rw [hok _ _ _ hp]
    exact hend _ _ hp
  | succ k ih =>
    intro i ρ S hi hp
    have hlt : i < w.ds.length := by omega
    rw [List.drop_eq_getElem_cons hlt]
    obtain ⟨ρ1, e1, e2⟩ := hstep i _ ρ S (List.getElem?_eq_getElem hlt) hp
    unfold forLoop
    rw [hok _ _ _ hp]
    dsimp only
    rw [e1]
    dsimp only
    obtain ⟨f, ρ2, S2, e3, e4⟩ := e2.ex
    rw [e3]
    cases f with
    | next => exact ih (i + 1) ρ2 S2 (by omega) e4
    | cont => exact ih (i + 1) ρ2 S2 (by omega) e4
    | brk => exact e4
    | ret d => exact e4
theorem wp_while {c : Env → Store → R D} {body : Env → Store → RS} {ρ : Env} {S : Store} {Q : Fl → Env → Store → Prop} (P : Nat → Env → Store → Prop) {n : Nat} (h0 : P n ρ S)
    (hstep : ∀ i ρ S, P i ρ S → (c ρ S).wp fun d S1 => ∃ b, truthy S1 d = some b ∧ match b with
      | true => ∃ j, i = j + 1 ∧ (body ρ S1).wp (turnQ (P j) Q)
      | false => Q .next ρ S1) : (whileLoop c body (n + 1) ρ S).wp Q := by
  induction n generalizing ρ S with
  | zero =>
    unfold whileLoop
    obtain ⟨d, S1, e, b, h1, h2⟩ := (hstep 0 ρ S h0).ex
    rw [e, R.then_ok, h1]
    cases b with
    | true => obtain ⟨j, hj, _⟩ := h2; omega
    | false => exact h2
  | succ n ih =>
    unfold whileLoop
    obtain ⟨d, S1, e, b, h1, h2⟩ := (hstep (n + 1) ρ S h0).ex
    rw [e, R.then_ok, h1]
    cases b with
    | true =>
      obtain ⟨j, hj, h3⟩ := h2
      have hj : j = n := by omega
      subst hj
      obtain ⟨f, ρ2, S2, e3, e4⟩ := h3.ex
      dsimp only
      rw [e3]
      cases f with
      | next => exact ih e4
      | cont => exact ih e4
      | brk => exact e4
      | ret d => exact e4
    | false => exact h2
/-- a comprehension -/
theorem wp_lc {vs : List Nat} {mu : Bool} {t : T} {it : I} {c : O} {e : E} {ρ : Env} {S S1 : Store} {w : Ws} {Q : D → Store → Prop} (P : Nat → List D → Store → Prop) (hi : evI it ρ S = .ok w S1) (h0 : P 0 [] S1) (hl : w.ds.length ≤ PySem.sizeLine) (hok : ∀ i acc S, P i acc S → w.ok S = true)
    (hstep : ∀ i d acc S, w.ds[i]? = some d → P i acc S → ∃ ρ1, asgT t d (wipeE ρ vs) = some ρ1 ∧ (evC c ρ1 S).wp fun b S => match b with
      | true => (evE e ρ1 S).wp fun y S => P (i + 1) (acc ++ [y]) S
      | false => P (i + 1) acc S) (hend : ∀ acc S, P w.ds.length acc S → acc.length ≤ w.ds.length → (endL mu acc S).wp Q) : (evE (.lc vs mu t it c e) ρ S).wp Q := by
  obtain ⟨acc, S', e1, h2, h3⟩ := lc_inv (w := w) (turn := turnE t vs (evC c) (evE e) ρ) (P := fun i acc S => P i acc S ∧ acc.length ≤ i) (fun i acc S h => hok i acc S h.1) (fun i d acc S hd ⟨hp, hle⟩ => by
    obtain ⟨ρ1, h1, h2⟩ := hstep i d acc S hd hp
    unfold turnE
    rw [h1]
    dsimp only
    obtain ⟨b, S2, e2, h3⟩ := h2.ex
    rw [e2, R.bind_ok]
    cases b with
    | false => exact ⟨acc, S2, rfl, h3, by omega⟩
    | true =>
      obtain ⟨y, S3, e3, h4⟩ := R.wp.ex h3
      have hlt : i < w.ds.length := (List.getElem?_eq_some_iff.mp hd).1
      have : acc.length < PySem.sizeLine := by omega
      refine ⟨acc ++ [y], S3, ?_, h4, by simp; omega⟩
      dsimp only
      rw [e3, R.bind_ok, decide_eq_true this]
      rfl) (acc := []) (S := S1) ⟨h0, by simp⟩
  show ((evI it ρ S).bind (fun w S => (lcLoop w (turnE t vs (evC c) (evE e) ρ) w.ds [] S).bind fun acc S => endL mu acc S)).wp Q
  rw [hi, R.bind_ok, e1, R.bind_ok]
  exact hend acc S' h2 h3
@[simp] theorem endL_false (acc : List D) (S : Store) : endL false acc S = .ok (.lst acc) S := rfl
@[simp] theorem endL_true (acc : List D) (S : Store) : endL true acc S = .ok (.adr S.length) (S ++ [.lst acc]) := rfl
@[simp] theorem wp_for_ {n : Nat} {t : T} {it : I} {b : B} {ρ : Env} {S : Store} {Q : Fl → Env → Store → Prop} : (evS n (.for_ t it b) ρ S).wp Q = (evI it ρ S).wp fun w S => (forLoop w t (evB n b) w.ds ρ S).wp Q := by
  rw [es_for, wp_then]
theorem lg {k : Int} (h : 0 ≤ k) (h2 : k < 2 ^ 9000) : k.natAbs.log2 < 9000 := by
  have h3 : k.natAbs < 2 ^ 9000 := by
    have : ((2 ^ 9000 : Nat) : Int) = (2 : Int) ^ 9000 := by norm_cast
    omega
  by_cases h0 : k.natAbs = 0
  · rw [h0]; decide
  · exact (Nat.log2_lt h0).mpr h3
end PX
namespace PX
/-! ### a dict of ints by ints, as a cell -/
def encN (net : List (Int × Int)) : List (L2.Key × D) := net.map fun q => (Sum.inl q.1, D.int q.2)
theorem valD_enc (v : Int) : ∀ net : List (Int × Int), ((valD (encN net) (Sum.inl v)).getD (.int 0)) = .int (getN net v)
  | [] => rfl
  | (k, b) :: r => by
    have ih := valD_enc v r
    unfold valD encN at ih ⊢
    rw [List.map_cons, List.find?_cons]
    by_cases h : k = v
    · simp [h, getN]
    · simp only [Sum.inl.injEq, h, decide_false, getN, if_false]
      exact ih
theorem valD_has {v : Int} : ∀ {net : List (Int × Int)}, hasN net v = true → valD (encN net) (Sum.inl v) = some (.int (getN net v))
  | [], h => by simp [hasN] at h
  | (k, b) :: r, h => by
    unfold valD encN
    rw [List.map_cons, List.find?_cons]
    by_cases e : k = v
    · simp [e, getN]
    · have h2 : hasN r v = true := by simpa [hasN, e] using h
      have ih := valD_has h2
      unfold valD encN at ih
      simp only [Sum.inl.injEq, e, decide_false, getN, if_false]
      exact ih
theorem any_enc (v : Int) (net : List (Int × Int)) : ((encN net).any fun kv => decide (kv.1 = Sum.inl v)) = hasN net v := by
  induction net with
  | nil => rfl
  | cons q r ih =>
    simp only [encN, List.map_cons, List.any_cons, hasN] at ih ⊢
    rw [ih]
    simp
theorem putN_not {v a : Int} : ∀ {net : List (Int × Int)}, hasN net v = false → putN net v a = net ++ [(v, a)]
  | [], _ => rfl
  | (k, b) :: r, h => by
    simp only [hasN, Bool.or_eq_false_iff, decide_eq_false_iff_not] at h
    simp only [putN, h.1, if_false, List.cons_append, putN_not h.2]
theorem putN_has {v a : Int} : ∀ {net : List (Int × Int)}, (keysN net).Nodup → hasN net v = true → putN net v a = net.map fun q => if q.1 = v then (q.1, a) else q
  | [], _, h => by simp [hasN] at h
  | (k, b) :: r, hn, h => by
    have hn2 := List.nodup_cons.mp (show (k :: keysN r).Nodup from hn)
    unfold putN
    by_cases e : k = v
    · subst e
      have : r.map (fun q => if q.1 = k then (q.1, a) else q) = r := by
        conv => rhs; rw [← List.map_id r]
        apply List.map_congr_left
        intro q hq
        have : ¬ q.1 = k := fun e => hn2.1 (e ▸ List.mem_map.mpr ⟨q, hq, rfl⟩)
        simp [this]
      simp [this]
    · have h2 : hasN r v = true := by simpa [hasN, e] using h
      simp only [e, if_false, List.map_cons, putN_has hn2.2 h2]
theorem putD_enc {v a : Int} {net : List (Int × Int)} (hn : (keysN net).Nodup) : putD (encN net) (Sum.inl v) (.int a) = encN (putN net v a) := by
  unfold putD
  rw [any_enc]
  cases h : hasN net v with
  | true =>
    rw [if_pos rfl, putN_has hn h]
    unfold encN
    rw [List.map_map, List.map_map]
    apply List.map_congr_left
    intro q _
    by_cases e : q.1 = v <;> simp [e]
  | false =>
    rw [if_neg (by simp), putN_not h]
    simp [encN]
theorem keyInts_enc : ∀ net : List (Int × Int), keyInts (encN net) = some (keysN net)
  | [] => rfl
  | q :: r => by
    have ih := keyInts_enc r
    simp only [encN, keysN, List.map_cons, keyInts] at ih ⊢
    rw [ih]; rfl
theorem sortI_perm (ns : List Int) : (sortI ns).Perm ns := List.mergeSort_perm ns _
theorem sortI_asc (ns : List Int) : (sortI ns).Pairwise (· ≤ ·) := by
  have := List.pairwise_mergeSort (le := fun a b : Int => decide (a ≤ b)) (fun a b c h1 h2 => by simp at h1 h2 ⊢; omega) (fun a b => by simp; omega) ns
  unfold sortI
  exact this.imp fun h => by simpa using h
theorem sortI_lt {ns : List Int} (h : ns.Nodup) : (sortI ns).Pairwise (· < ·) := by
  have h1 := sortI_asc ns
  have h2 : (sortI ns).Nodup := (sortI_perm ns).nodup_iff.mpr h
  have := h1.and h2
  exact this.imp fun {a b} ⟨p, q⟩ => by have : a ≠ b := q; omega
theorem map_sum_perm (f : Int → Int) {xs ys : List Int} (h : xs.Perm ys) : (xs.map f).sum = (ys.map f).sum := by
  induction h with
  | nil => rfl
  | cons a _ ih => simp [ih]
  | swap a b l => simp; omega
  | trans _ _ h1 h2 => rw [h1, h2]
end PX
namespace PX
theorem add_tup {S : Store} {xs ys : List D} (h : xs.length + ys.length ≤ 1000000) : binV .add S (D.tup xs) (D.tup ys) = R.ok (D.tup (xs ++ ys)) S := by
  show guardR (decide (xs.length + ys.length ≤ PySem.sizeLine)) (R.ok (D.tup (xs ++ ys)) S) = _
  rw [decide_eq_true (Nat.le_trans h (by decide)), guardR_true]
/-- a weighted literal -/
def wghtD (d : D) : Bool := match d with
  | .tup [a, b] => fromB (-2) a && b.isI
  | _ => false
theorem wghtD_pair (p : Int × Int) : wghtD (pairD p) = decide (-2 ≤ p.1) := by simp [wghtD, pairD, fromB]
def pairsD (d : D) : Bool := match d with
  | .tup xs => decide (xs.length ≤ 1000) && xs.all wghtD
  | _ => false
theorem pairsD_ok {ps : List (Int × Int)} (hl : ps.length ≤ 1000) (h : ∀ p ∈ ps, -2 ≤ p.1) : pairsD (.tup (ps.map pairD)) = true := by
  simp only [pairsD, List.length_map, Bool.and_eq_true, decide_eq_true_eq, List.all_map, List.all_eq_true, Function.comp]
  exact ⟨hl, fun p hp => by rw [wghtD_pair]; exact decide_eq_true (h p hp)⟩
def notI (ts : List (Int × Int)) : List (Int × Int) := ts.map fun t => (flipI t.1, t.2)
theorem SumOk.not {ts : List (Int × Int)} (s : SumOk ts) : SumOk (notI ts) := s.flip
theorem valX_not (x : Int → Int) {ts : List (Int × Int)} (s : SumOk ts) : valX x (notI ts) = totI ts - valX x ts := valX_flip x fun t ht => (s.tm t ht).1
theorem sortP_id {ps : List (Int × Int)} (h : ps.Pairwise fun p q => p.1 < q.1) : sortP ps = ps := by
  unfold sortP
  refine List.mergeSort_of_pairwise ?_
  refine h.imp fun {p q} hpq => ?_
  unfold leP
  cases e : SrtO.lexB q p with
  | false => rfl
  | true =>
    rcases SrtO.lexB_iff.mp e with h | ⟨h, _⟩ <;> omega
theorem not_asc {ts : List (Int × Int)} (s : SumOk ts) : (notI ts).Pairwise fun p q => p.1 < q.1 := by
  unfold notI
  rw [List.pairwise_map]
  have := s.asc
  rw [List.pairwise_map] at this
  refine this.imp fun {p q} h => ?_
  unfold flipI
  omega
theorem notI_len (ts : List (Int × Int)) : (notI ts).length = ts.length := by simp [notI]
end PX
namespace PX
abbrev N60 : Int := 1000000000000000000000000000000000000000000000000000000000000
theorem p60 : powOk 10 60 = true := by decide +kernel
/-- how the laws look at terms -/
def ckT : Int → List D → Bool
  | _, [] => true
  | last, .tup [a, b] :: r => withinB a 0 N60 && withinB b 1 N60 && (match a with
    | .int l => decide (last < l / 2) && ckT (l / 2) r
    | _ => false)
  | _, _ :: _ => false
def lawSumB (d : D) : Bool := match d with
  | .tup [.tup xs, b] => withinB b (-N60) N60 && ckT (-1) xs
  | _ => false
mutual
/-- all ints within are at most 10 ** 60 far from 0 -/
def D.low : D → Bool
  | .int i => decide (-N60 ≤ i) && decide (i ≤ N60)
  | .tup xs => D.lows xs
  | .lst xs => D.lows xs
  | _ => true
def D.lows : List D → Bool
  | [] => true
  | x :: xs => D.low x && D.lows xs
end
theorem lows_append (xs ys : List D) : D.lows (xs ++ ys) = (D.lows xs && D.lows ys) := by
  induction xs with
  | nil => simp [D.lows]
  | cons x xs ih => simp [D.lows, ih, Bool.and_assoc]
theorem N60_pos : (0 : Int) < N60 := by decide
theorem ck_eq : ∀ {ts : List (Int × Int)} {last : Int}, D.lows (ts.map pairD) = true → ckT last (ts.map pairD) = (ts.all termB && ascB (last :: ts.map fun t => t.1 / 2)) ∨ last < -1
  | [], last, _ => .inl rfl
  | (l, w) :: ts, last, h => by
    simp only [List.map_cons, D.lows, pairD, D.low, Bool.and_eq_true, decide_eq_true_eq, Bool.and_true, and_true] at h
    by_cases q : last < -1
    · exact .inr q
    refine .inl ?_
    simp only [List.map_cons, pairD, ckT, withinB, List.all_cons, termB, asc_cons]
    rw [decide_eq_true h.1.1.2, decide_eq_true h.1.2.2]
    by_cases h0 : 0 ≤ l
    · have h1 : ¬ l / 2 < -1 := by omega
      rcases ck_eq (ts := ts) (last := l / 2) h.2 with e | e
      · rw [e]
        simp only [decide_eq_true h0, Bool.true_and, Bool.and_true]
        cases decide (1 ≤ w) <;> cases decide (last < l / 2) <;> cases ts.all termB <;> simp
      · exact absurd e h1
    · simp [h0]
theorem sum_law {d : D} (h : d.low = true) : sumB d = lawSumB d := by
  cases d with
  | tup xs =>
    rcases xs with _ | ⟨a, _ | ⟨b, _ | ⟨c, r⟩⟩⟩
    · rfl
    · cases a <;> rfl
    · simp only [D.low, D.lows, Bool.and_true, Bool.and_eq_true] at h
      cases a with
      | tup ys =>
        have hb : b.isI = withinB b (-N60) N60 := by
          cases b with
          | int i => simp only [D.low, Bool.and_eq_true] at h; simp [D.isI, withinB, h.2.1, h.2.2]
          | _ => rfl
        simp only [sumB, lawSumB, ← hb]
        have key : termsD (.tup ys) = ckT (-1) ys := by
          cases hy : ys.all termD with
          | true =>
            obtain ⟨ts, rfl, ht⟩ := terms_inv hy
            have hl := h.1
            simp only [D.low] at hl
            rcases ck_eq (last := -1) hl with e | e
            · rw [termsD_pairs, e, ht, Bool.true_and, Bool.true_and]
              cases ts with
              | nil => rfl
              | cons t ts =>
                rw [List.map_cons, asc_cons]
                have : 0 ≤ t.1 := by
                  rw [List.all_cons, Bool.and_eq_true] at ht
                  have := ht.1
                  simp only [termB, Bool.and_eq_true, decide_eq_true_eq] at this
                  exact this.1
                rw [decide_eq_true (show (-1 : Int) < t.1 / 2 by omega), Bool.true_and]
            · omega
          | false =>
            rw [termsD_not hy]
            symm
            have go : ∀ (zs : List D) (last : Int), zs.all termD = false → ckT last zs = false := by
              intro zs
              induction zs with
              | nil => intro last h; cases h
              | cons z zs ih =>
                intro last hz
                rw [List.all_cons] at hz
                cases hc : ckT last (z :: zs) with
                | false => rfl
                | true =>
                  exfalso
                  unfold ckT at hc
                  split at hc
                  · rename_i e; cases e
                  · rename_i a b r e
                    cases e
                    simp only [Bool.and_eq_true] at hc
                    split at hc
                    · rename_i l
                      have h1 := hc.1.1
                      have h2 := hc.1.2
                      have h3 := hc.2
                      simp only [Bool.and_eq_true] at h3
                      have : termD (.tup [.int l, b]) = true := by
                        cases b <;> simp [withinB] at h1 h2
                        simp [termD, fromB, h1.1, h2.1]
                      rw [this, Bool.true_and] at hz
                      have := ih (l / 2) hz
                      rw [this] at h3
                      exact Bool.noConfusion h3.2
                    · exact Bool.noConfusion hc.2
                  · cases hc
            exact go ys (-1) hy
        rw [key, Bool.and_comm]
      | _ => simp [sumB, termsD, lawSumB]
    · cases a <;> rfl
  | _ => rfl
end PX
namespace PX
/-- a list that is read: one that stays, or a cell -/
def IsL (S : Store) (d : D) (xs : List D) : Prop := d = .lst xs ∨ ∃ a, d = .adr a ∧ S[a]? = some (.lst xs)
section
variable {S : Store} {d : D} {xs : List D}
theorem IsL.seq (h : IsL S d xs) : ∃ g, seqW S d = some ⟨xs, g⟩ ∧ Ws.ok ⟨xs, g⟩ S = true := by
  rcases h with rfl | ⟨a, rfl, h⟩
  · exact ⟨[], rfl, rfl⟩
  · exact ⟨[(a, .lst xs)], by simp [seqW, tupW, lstW, h], by simp [Ws.ok, h]⟩
theorem IsL.read (h : IsL S d xs) : asLst S d = some xs := by
  rcases h with rfl | ⟨a, rfl, h⟩
  · rfl
  · simp [asLst, h]
theorem IsL.tuple (h : IsL S d xs) : biV .tuple S [d] = .ok (.tup xs) S := by
  rcases h with rfl | ⟨a, rfl, h⟩
  · rfl
  · exact tup_cell h
theorem IsL.len (h : IsL S d xs) : biV .len S [d] = .ok (.int xs.length) S := by
  rcases h with rfl | ⟨a, rfl, h⟩
  · rfl
  · unfold biV; simp [asLst, h]
theorem IsL.back (h : IsL S d xs) : backV S d = .ok (.lst xs.reverse) S := by
  rcases h with rfl | ⟨a, rfl, h⟩
  · rfl
  · simp [backV, tupW, asLst, h]
theorem IsL.slice (h : IsL S d xs) (lo hi : Option Int) : slV S d lo hi = .ok (.lst (cutG xs lo hi)) S := by
  rcases h with rfl | ⟨a, rfl, h⟩
  · rfl
  · simp [slV, asLst, h]
theorem IsL.stay {S' : Store} {n m : Nat} (h : IsL S d xs) (y : Stay n m S S') (k : ∀ a, d = .adr a → a ≠ n ∧ a ≠ m) : IsL S' d xs := by
  rcases h with rfl | ⟨a, rfl, h⟩
  · exact .inl rfl
  · obtain ⟨k1, k2⟩ := k a rfl
    exact .inr ⟨a, rfl, by rw [y.old a k1 k2 (List.getElem?_eq_some_iff.mp h).1]; exact h⟩
end
theorem Stay.get {n m a : Nat} {S S' : Store} {c : Cell} (y : Stay n m S S') (h1 : a ≠ n) (h2 : a ≠ m) (h : S[a]? = some c) : S'[a]? = some c := by
  rw [y.old a h1 h2 (List.getElem?_eq_some_iff.mp h).1]; exact h
theorem Deck.off {S : Store} {n m a : Nat} (h : Deck S n m) (ha : S.length ≤ a) : a ≠ n ∧ a ≠ m := by
  have := h.lt; omega
theorem app_at {S : Store} (c : Cell) : (S ++ [c])[S.length]? = some c := by simp
theorem set_at {S : Store} {a : Nat} {c c' : Cell} (h : S[a]? = some c) : (S.set a c')[a]? = some c' := List.getElem?_set_self (List.getElem?_eq_some_iff.mp h).1
theorem atI_lt {xs : List D} {i : Int} (h0 : 0 ≤ i) (h : i < xs.length) : ∃ d, L2.atI xs i = some d ∧ d ∈ xs := by
  have hn : i.toNat < xs.length := by omega
  refine ⟨xs[i.toNat], ?_, List.getElem_mem hn⟩
  have := L2.atI_nat (xs := xs) (j := i.toNat) (v := xs[i.toNat]) (List.getElem?_eq_getElem hn)
  rwa [show ((i.toNat : Nat) : Int) = i by omega] at this
theorem lg60 {k : Int} (h : 0 ≤ k) (h2 : k ≤ N60) : k.natAbs.log2 < 9000 := lg h (Int.lt_of_le_of_lt h2 (by decide +kernel))
end PX
namespace PX
theorem pick3 {x y z : Int} {p : Int} (h0 : 0 ≤ p) (h1 : p < 3) : ∃ v, L2.atI [D.int x, D.int y, D.int z] p = some (.int v) ∧ (v = x ∨ v = y ∨ v = z) := by
  have : p = 0 ∨ p = 1 ∨ p = 2 := by omega
  rcases this with rfl | rfl | rfl
  · exact ⟨x, by simp, .inl rfl⟩
  · exact ⟨y, by simp, .inr (.inl rfl)⟩
  · exact ⟨z, by simp, .inr (.inr rfl)⟩
theorem atI_ints {ns : List Int} {p : Int} (h0 : 0 ≤ p) (h1 : p < ns.length) : ∃ v, v ∈ ns ∧ L2.atI (ns.map D.int) p = some (.int v) := by
  have hn : p.toNat < ns.length := by omega
  refine ⟨ns[p.toNat], List.getElem_mem hn, ?_⟩
  have := L2.atI_nat (xs := ns.map D.int) (j := p.toNat) (v := .int ns[p.toNat]) (by simp [hn])
  rwa [show ((p.toNat : Nat) : Int) = p by omega] at this
end PX
namespace PX
theorem ne_nil0 {S : Store} : eqR true S (.lst []) (.lst []) = .ok (.bl false) S := by
  simp [eqR, snap, D.depth, D.depths, D.eqv, D.eqvs]
theorem eq_nil0 {S : Store} : eqR false S (.lst []) (.lst []) = .ok (.bl true) S := by
  simp [eqR, snap, D.depth, D.depths, D.eqv, D.eqvs]
theorem is_tt {S : Store} (n : Bool) (a b : Bool) : isR n S (.bl a) (.bl b) = .ok (.bl (if n then !decide (a = b) else decide (a = b))) S := rfl
theorem shl1 {S : Store} {k : Nat} (h : k ≤ 60) : binV .shl S (.int 1) (.int (k : Int)) = .ok (.int (2 ^ k)) S := by
  have : powOk 1 (k : Int) = true := by unfold powOk; simp; omega
  simp [this]
theorem pow_le {k j : Nat} (h : k ≤ j) : (2 : Int) ^ k ≤ 2 ^ j := by
  have := Nat.pow_le_pow_right (n := 2) (by decide) h
  exact_mod_cast this
theorem pow_pos2 (k : Nat) : (0 : Int) < 2 ^ k := by
  have := Nat.two_pow_pos k
  exact_mod_cast this
theorem rngL_map (n : Nat) : rngL 0 n = (List.range n).map fun i : Nat => D.int (0 + (i : Int)) := rfl
theorem slV_L {S : Store} {xs : List D} (k : Nat) : cutG xs none (some (k : Int)) = xs.take k := cut_to xs k
theorem low_pairs {c : Int} (hc : c ≤ N60) : ∀ {ts : List (Int × Int)}, (∀ t ∈ ts, -c ≤ t.1 ∧ t.1 ≤ c ∧ -c ≤ t.2 ∧ t.2 ≤ c) → D.lows (ts.map pairD) = true
  | [], _ => rfl
  | t :: ts, h => by
    have h1 := h t List.mem_cons_self
    have h2 := low_pairs hc (ts := ts) fun u hu => h u (List.mem_cons_of_mem _ hu)
    simp only [List.map_cons, D.lows, pairD, D.low, h2, Bool.and_true, Bool.and_eq_true, decide_eq_true_eq]
    unfold N60 at *
    omega
theorem low_sum {ts : List (Int × Int)} {dg : Int} (h : D.lows (ts.map pairD) = true) (h1 : -N60 ≤ dg) (h2 : dg ≤ N60) : (sumD ts dg).low = true := by
  simp only [sumD, D.low, D.lows, h, Bool.true_and, Bool.and_true, Bool.and_eq_true, decide_eq_true_eq]
  exact ⟨h1, h2⟩
end PX
namespace PX
theorem depth_str0 (z : PySem.Str) : (D.str z).depth = 0 := by simp [D.depth]
theorem eq_str {S : Store} (n : Bool) (x y : PySem.Str) : eqR n S (.str x) (.str y) = .ok (.bl (if n then !(x == y) else x == y)) S := by
  unfold eqR
  simp [snap, depth_str0, D.eqv]
theorem ne_strs1 {S : Store} (a : PySem.Str) : eqR true S (.lst [.str a]) (.lst [.str a]) = .ok (.bl false) S := by
  simp [eqR, snap, D.depth, D.depths, D.eqv, D.eqvs]
theorem ne_strs2 {S : Store} (a b : PySem.Str) : eqR true S (.lst [.str a, .str b]) (.lst [.str a, .str b]) = .ok (.bl false) S := by
  simp [eqR, snap, D.depth, D.depths, D.eqv, D.eqvs]
theorem ne_strs3 {S : Store} (a b c : PySem.Str) : eqR true S (.lst [.str a, .str b, .str c]) (.lst [.str a, .str b, .str c]) = .ok (.bl false) S := by
  simp [eqR, snap, D.depth, D.depths, D.eqv, D.eqvs]
end PX

/-! GAPA: dicts by ints of anything; concrete data reckoned by the kernel. -/
namespace PX
section
variable {α : Type}
def hasA : List (Int × α) → Int → Bool
  | [], _ => false
  | (k, _) :: r, v => decide (k = v) || hasA r v
def putA : List (Int × α) → Int → α → List (Int × α)
  | [], v, a => [(v, a)]
  | (k, b) :: r, v, a => if k = v then (k, a) :: r else (k, b) :: putA r v a
def keysA (net : List (Int × α)) : List Int := net.map fun q => q.1
def encA (f : α → D) (net : List (Int × α)) : List (L2.Key × D) := net.map fun q => (Sum.inl q.1, f q.2)
theorem hasA_iff {v : Int} : ∀ {net : List (Int × α)}, hasA net v = true ↔ v ∈ keysA net
  | [] => by simp [hasA, keysA]
  | (k, b) :: r => by
    have ih := hasA_iff (v := v) (net := r)
    simp only [hasA, keysA, List.map_cons, List.mem_cons, Bool.or_eq_true, decide_eq_true_eq] at ih ⊢
    rw [ih]
    exact ⟨fun h => h.imp Eq.symm id, fun h => h.imp Eq.symm id⟩
theorem keysA_put (v : Int) (a : α) : ∀ net : List (Int × α), keysA (putA net v a) = if hasA net v = true then keysA net else keysA net ++ [v]
  | [] => by simp [putA, hasA, keysA]
  | (k, b) :: r => by
    have ih := keysA_put v a r
    unfold putA hasA
    by_cases h : k = v
    · simp [h, keysA]
    · simp only [keysA] at ih ⊢
      simp only [h, if_false, List.map_cons, ih, decide_false, Bool.false_or]
      split <;> rfl
theorem nodupA_put {v : Int} {a : α} {net : List (Int × α)} (h : (keysA net).Nodup) : (keysA (putA net v a)).Nodup := by
  rw [keysA_put]
  split
  · exact h
  · rename_i q
    rw [List.nodup_append]
    refine ⟨h, by simp, fun a ha b hb => ?_⟩
    have hb : b = v := by simpa using hb
    subst hb
    intro e
    subst e
    exact q (hasA_iff.mpr ha)
theorem lenA_put (v : Int) (a : α) (net : List (Int × α)) : (putA net v a).length ≤ net.length + 1 := by
  have := congrArg List.length (keysA_put v a net)
  simp only [keysA, List.length_map] at this
  rw [this]
  split <;> simp
theorem memA_put {v : Int} {a : α} : ∀ {net : List (Int × α)} {q : Int × α}, q ∈ putA net v a → q ∈ net ∨ q = (v, a)
  | [], q, h => by simpa [putA] using h
  | (k, b) :: r, q, h => by
    unfold putA at h
    split at h
    · rename_i e
      subst e
      rcases List.mem_cons.mp h with h | h
      · exact .inr h
      · exact .inl (List.mem_cons_of_mem _ h)
    · rcases List.mem_cons.mp h with h | h
      · exact .inl (h ▸ List.mem_cons_self)
      · rcases memA_put h with h | h
        · exact .inl (List.mem_cons_of_mem _ h)
        · exact .inr h
theorem memA_new {v : Int} {a : α} : ∀ {net : List (Int × α)}, (v, a) ∈ putA net v a
  | [] => by simp [putA]
  | (k, b) :: r => by
    unfold putA
    split
    · rename_i e; subst e; exact List.mem_cons_self
    · exact List.mem_cons_of_mem _ memA_new
theorem anyA (f : α → D) (v : Int) (net : List (Int × α)) : ((encA f net).any fun kv => decide (kv.1 = Sum.inl v)) = hasA net v := by
  induction net with
  | nil => rfl
  | cons q r ih =>
    simp only [encA, List.map_cons, List.any_cons, hasA] at ih ⊢
    rw [ih]
    simp
theorem putA_not {v : Int} {a : α} : ∀ {net : List (Int × α)}, hasA net v = false → putA net v a = net ++ [(v, a)]
  | [], _ => rfl
  | (k, b) :: r, h => by
    simp only [hasA, Bool.or_eq_false_iff, decide_eq_false_iff_not] at h
    simp only [putA, h.1, if_false, List.cons_append, putA_not h.2]
theorem putA_has {v : Int} {a : α} : ∀ {net : List (Int × α)}, (keysA net).Nodup → hasA net v = true → putA net v a = net.map fun q => if q.1 = v then (q.1, a) else q
  | [], _, h => by simp [hasA] at h
  | (k, b) :: r, hn, h => by
    have hn2 := List.nodup_cons.mp (show (k :: keysA r).Nodup from hn)
    unfold putA
    by_cases e : k = v
    · subst e
      have : r.map (fun q => if q.1 = k then (q.1, a) else q) = r := by
        conv => rhs; rw [← List.map_id r]
        apply List.map_congr_left
        intro q hq
        have : ¬ q.1 = k := fun e => hn2.1 (e ▸ List.mem_map.mpr ⟨q, hq, rfl⟩)
        simp [this]
      simp [this]
    · have h2 : hasA r v = true := by simpa [hasA, e] using h
      simp only [e, if_false, List.map_cons, putA_has hn2.2 h2]
theorem putD_encA (f : α → D) {v : Int} {a : α} {net : List (Int × α)} (hn : (keysA net).Nodup) : putD (encA f net) (Sum.inl v) (f a) = encA f (putA net v a) := by
  unfold putD
  rw [anyA]
  cases h : hasA net v with
  | true =>
    rw [if_pos rfl, putA_has hn h]
    unfold encA
    rw [List.map_map, List.map_map]
    apply List.map_congr_left
    intro q _
    by_cases e : q.1 = v <;> simp [e]
  | false =>
    rw [if_neg (by simp), putA_not h]
    simp [encA]
theorem keyInts_encA (f : α → D) : ∀ net : List (Int × α), keyInts (encA f net) = some (keysA net)
  | [] => rfl
  | q :: r => by
    have ih := keyInts_encA f r
    simp only [encA, keysA, List.map_cons, keyInts] at ih ⊢
    rw [ih]; rfl
theorem valD_encA (f : α → D) {v : Int} : ∀ {net : List (Int × α)}, v ∈ keysA net → ∃ a, (v, a) ∈ net ∧ valD (encA f net) (Sum.inl v) = some (f a)
  | [], h => by simp [keysA] at h
  | (k, b) :: r, h => by
    by_cases e : k = v
    · subst e
      exact ⟨b, List.mem_cons_self, by simp [valD, encA]⟩
    · have h2 : v ∈ keysA r := by
        rcases List.mem_cons.mp (show v ∈ k :: keysA r from h) with q | q
        · exact absurd q.symm e
        · exact q
      obtain ⟨a, h3, h4⟩ := valD_encA f h2
      refine ⟨a, List.mem_cons_of_mem _ h3, ?_⟩
      unfold valD encA at h4 ⊢
      rw [List.map_cons, List.find?_cons]
      simp only [Sum.inl.injEq, e, decide_false]
      exact h4
end
/-- the truth that comes out -/
def outB (r : R D) : Option Bool := match r with
  | .ok (.bl b) _ => some b
  | _ => none
theorem outB_call {f : FnI} {ds : List D} {b : Bool} (S : Store) (h : outB (f.sem [] ds) = some b) (hl : ds.length = f.ps.length) (hf : D.frees ds = true) : callV false f ds S = .ok (.bl b) S := by
  cases e : f.sem [] ds with
  | ok d S0 =>
    rw [e] at h
    unfold outB at h
    split at h
    · rename_i e2
      cases e2
      cases h
      exact callV_ok S e hl hf rfl
    · cases h
  | exc c S0 => rw [e] at h; cases h
  | stuck => rw [e] at h; cases h
/-- the error that comes out -/
def outX (r : R D) : Option PySem.Str := match r with
  | .exc c _ => some c
  | _ => none
theorem outX_call {f : FnI} {ds : List D} {c : PySem.Str} (S : Store) (h : outX (f.sem [] ds) = some c) (hl : ds.length = f.ps.length) (hf : D.frees ds = true) : callV false f ds S = .exc c S := by
  cases e : f.sem [] ds with
  | ok d S0 => rw [e] at h; cases h
  | exc c' S0 =>
    rw [e] at h
    cases h
    exact callV_exc S e hl hf
  | stuck => rw [e] at h; cases h
end PX
namespace PX
/-- a comprehension of two walks, all of them -/
theorem ev_lc2A {α β : Type} {enc : α → D} {enc1 : β → D} {f : α → List β} {y : α → β → D} {vs vs1 : List Nat} {t t1 : T} {it it1 : I} {e : E} {ρ : Env} {S : Store} {xs : List α} {g : List (Nat × Cell)} (hi : evI it ρ S = .ok ⟨xs.map enc, g⟩ S) (hg : Ws.ok ⟨xs.map enc, g⟩ S = true)
    (hl : (xs.flatMap fun x => (f x).map (y x)).length ≤ PySem.sizeLine)
    (h : ∀ x ∈ xs, ∃ ρ1, asgT t (enc x) (wipeE ρ vs) = some ρ1 ∧ ∃ g1, evI it1 ρ1 S = .ok ⟨(f x).map enc1, g1⟩ S ∧ Ws.ok ⟨(f x).map enc1, g1⟩ S = true ∧ ∀ z ∈ f x, ∃ ρ2, asgT t1 (enc1 z) (wipeE ρ1 vs1) = some ρ2 ∧ evE e ρ2 S = .ok (y x z) S) :
    evE (.lc2 vs vs1 false t it .none t1 it1 .none e) ρ S = .ok (.lst (xs.flatMap fun x => (f x).map (y x))) S := by
  obtain ⟨turn, ht⟩ : ∃ turn : D → List D → Store → R (List D), turn = fun d acc S => match asgT t d (wipeE ρ vs) with
        | some ρ1 => (evC .none ρ1 S).bind fun b S => match b with
          | true => (evI it1 ρ1 S).bind fun w1 S => lcLoop w1 (fun d1 acc S => match asgT t1 d1 (wipeE ρ1 vs1) with
              | some ρ2 => (evC .none ρ2 S).bind fun b S => match b with
                | true => (evE e ρ2 S).bind fun y S => guardR (decide (acc.length < PySem.sizeLine)) (.ok (acc ++ [y]) S)
                | false => .ok acc S
              | none => .stuck) w1.ds acc S
          | false => .ok acc S
        | none => .stuck := ⟨_, rfl⟩
  have key : ∀ (zs : List α) (acc : List D), (∀ z ∈ zs, z ∈ xs) → acc.length + (zs.flatMap fun x => (f x).map (y x)).length ≤ PySem.sizeLine → lcLoop ⟨xs.map enc, g⟩ turn (zs.map enc) acc S = .ok (acc ++ zs.flatMap fun x => (f x).map (y x)) S := by
    intro zs
    induction zs with
    | nil =>
      intro acc _ _
      show guardR (Ws.ok ⟨xs.map enc, g⟩ S) (.ok acc S) = _
      rw [hg]
      simp
    | cons x zs ih =>
      intro acc hm hz
      obtain ⟨ρ1, h1, g1, h2, h3, h4⟩ := h x (hm x List.mem_cons_self)
      rw [List.flatMap_cons, List.length_append, List.length_map] at hz
      have q := lc_pure (w := ⟨(f x).map enc1, g1⟩) (enc := enc1) (b := fun _ => true) (y := y x) (S := S) (turn := fun d1 acc S => match asgT t1 d1 (wipeE ρ1 vs1) with
              | some ρ2 => (evC .none ρ2 S).bind fun b S => match b with
                | true => (evE e ρ2 S).bind fun y S => guardR (decide (acc.length < PySem.sizeLine)) (.ok (acc ++ [y]) S)
                | false => .ok acc S
              | none => .stuck) h3 (f x) acc (fun z hz2 acc hacc => by
        obtain ⟨ρ2, k1, k2⟩ := h4 z hz2
        rw [k1]
        simp [k2, hacc]) (by omega)
      have step : turn (enc x) acc S = .ok (acc ++ (f x).map (y x)) S := by
        rw [ht]
        dsimp only
        rw [h1]
        dsimp only
        rw [ev_noneC, R.bind_ok]
        dsimp only
        rw [h2, R.bind_ok]
        dsimp only at q ⊢
        rw [q, List.filter_eq_self.mpr fun _ _ => rfl]
      show guardR (Ws.ok ⟨xs.map enc, g⟩ S) (match turn (enc x) acc S with
        | .ok acc' S' => lcLoop ⟨xs.map enc, g⟩ turn (zs.map enc) acc' S'
        | _ => .stuck) = _
      rw [hg, step, guardR_true]
      dsimp only
      rw [ih _ (fun z hz => hm z (List.mem_cons_of_mem _ hz)) (by rw [List.length_append, List.length_map]; omega), List.flatMap_cons, List.append_assoc]
  show (evI it ρ S).bind (fun w S => (lcLoop w _ w.ds [] S).bind fun acc S => endL false acc S) = _
  rw [hi, R.bind_ok]
  rw [ht] at key
  have := key xs [] (fun _ h => h) (by simpa using hl)
  exact (congrArg (fun r : R (List D) => r.bind fun acc S => endL false acc S) this).trans (by simp [endL])
end PX
namespace PX
/-- what comes out -/
def outD (r : R D) : Option D := match r with
  | .ok d _ => some d
  | _ => none
theorem outD_call {f : FnI} {ds : List D} {d : D} (S : Store) (h : outD (f.sem [] ds) = some d) (hl : ds.length = f.ps.length) (hf : D.frees ds = true) (hd : d.free = true) : callV false f ds S = .ok d S := by
  cases e : f.sem [] ds with
  | ok d' S0 =>
    rw [e] at h
    cases h
    exact callV_ok S e hl hf hd
  | exc c S0 => rw [e] at h; cases h
  | stuck => rw [e] at h; cases h
end PX
namespace PX
theorem goods_cut {xs : List D} (h : D.goods xs = true) (lo hi : Option Int) : D.goods (cutG xs lo hi) = true := goods_iff.mpr fun x hx => goods_iff.mp h x (List.mem_of_mem_drop (List.mem_of_mem_take hx))
theorem lows_iff : ∀ {xs : List D}, D.lows xs = true ↔ ∀ x ∈ xs, D.low x = true
  | [] => by simp [D.lows]
  | x :: xs => by simp [D.lows, lows_iff (xs := xs)]
theorem lows_cut {xs : List D} (h : D.lows xs = true) (lo hi : Option Int) : D.lows (cutG xs lo hi) = true := lows_iff.mpr fun x hx => lows_iff.mp h x (List.mem_of_mem_drop (List.mem_of_mem_take hx))
theorem len_cut {α : Type} (xs : List α) (lo hi : Option Int) : (cutG xs lo hi).length ≤ xs.length := by
  unfold cutG
  rw [List.length_take, List.length_drop]
  omega
theorem ne_tup {S : Store} (ts : List (Int × Int)) : eqR true S (.tup (ts.map pairD)) (.tup []) = .ok (.bl (!ts.isEmpty)) S := by
  unfold eqR snap
  simp only [frees_pairs, if_true, frs_nil, fr_tup]
  have e1 : (D.tup (ts.map pairD)).depth ≤ 64 := by have := depths_pairs ts; simp only [D.depth]; omega
  have e2 : (D.tup []).depth ≤ 64 := by simp [D.depth, D.depths]
  rw [decide_eq_true e1, decide_eq_true e2]
  simp [D.eqv, eqvs_nil]
theorem ext_cell {S : Store} {t : Nat} {xs ys : List D} (h : S[t]? = some (.lst xs)) (hl : xs.length + ys.length ≤ 1000000) : methV .extend S (.adr t) [.lst ys] = .ok .non (S.set t (.lst (xs ++ ys))) := by
  unfold methV
  have : xs.length + ys.length ≤ PySem.sizeLine := Nat.le_trans hl (by decide)
  simp [h, asLstW, this]
end PX
namespace PX
/-! ### a dict of pairs by ints -/
def getP : List (Int × (Int × Int)) → Int → Int × Int
  | [], _ => (0, 0)
  | (k, b) :: r, v => if k = v then b else getP r v
theorem valD_getP {v : Int} : ∀ {net : List (Int × (Int × Int))}, v ∈ keysA net → (v, getP net v) ∈ net ∧ valD (encA pairD net) (Sum.inl v) = some (pairD (getP net v))
  | [], h => by simp [keysA] at h
  | (k, b) :: r, h => by
    by_cases e : k = v
    · subst e
      exact ⟨by simp [getP], by simp [valD, encA, getP]⟩
    · have h2 : v ∈ keysA r := by
        rcases List.mem_cons.mp (show v ∈ k :: keysA r from h) with q | q
        · exact absurd q.symm e
        · exact q
      obtain ⟨h3, h4⟩ := valD_getP h2
      simp only [getP, e, if_false]
      refine ⟨List.mem_cons_of_mem _ h3, ?_⟩
      unfold valD encA at h4 ⊢
      rw [List.map_cons, List.find?_cons]
      simp only [Sum.inl.injEq, e, decide_false]
      exact h4
theorem getP_put {v : Int} {a : Int × Int} : ∀ {net : List (Int × (Int × Int))}, getP (putA net v a) v = a
  | [] => by simp [putA, getP]
  | (k, b) :: r => by
    unfold putA
    split
    · rename_i e; subst e; simp [getP]
    · rename_i e; simp only [getP, e, if_false]; exact getP_put
end PX

/-! the written forms of the defs of law_k30_ways_back_of_sixty_variables, printed by gen.py -/
namespace LW
open PySem L2 PX
def top (i : Nat) : Stmt := PySem.Challenge.pw_sumsworn_k30_ways_back_of_sixty_variable.main.body.getD i (.Pass ⟨0, 0, 0, 0⟩)
def c_MOST_VARIABLES : D := .int 60
def c_MOST_SUMS : D := .int 300
def c_MOST_NUMBER : D := .int 1000000
/-- is_int -/
def N_is_int : List Str := ["thing"]
def b_is_int : PX.B := .cons (.ret (.and (.cons (.isi (.var 0) .int) (.cons (.not (.isi (.var 0) .bool)) .nil)))) .nil
def m_is_int (S : Store) (ds : List D) : R D := runB (0) 1 b_is_int S ds
def f_is_int : FnI := ⟨"is_int", ["thing"], [], m_is_int⟩
/-- is_index -/
def N_is_index : List Str := ["thing"]
def b_is_index : PX.B := .cons (.ret (.and (.cons (.call false f_is_int (.cons (.var 0) .nil)) (.cons (.cmp .ge (.var 0) (.int 0)) .nil)))) .nil
def m_is_index (S : Store) (ds : List D) : R D := runB (0) 1 b_is_index S ds
def f_is_index : FnI := ⟨"is_index", ["thing"], [], m_is_index⟩
/-- is_row -/
def N_is_row : List Str := ["thing", "low", "high"]
def b_is_row : PX.B := .cons (.ret (.and (.cons (.isi (.var 0) .tuple) (.cons (.chain .le .le (.var 1) (.bi .len (.cons (.var 0) .nil)) (.var 2)) .nil)))) .nil
def m_is_row (S : Store) (ds : List D) : R D := runB (0) 3 b_is_row S ds
def f_is_row : FnI := ⟨"is_row", ["thing", "low", "high"], [], m_is_row⟩
/-- is_term -/
def N_is_term : List Str := ["thing"]
def b_is_term : PX.B := .cons (.ret (.and (.cons (.call false f_is_row (.cons (.var 0) (.cons (.int 2) (.cons (.int 2) .nil)))) (.cons (.call false f_is_index (.cons (.ix (.var 0) (.int 0)) .nil)) (.cons (.call false f_is_int (.cons (.ix (.var 0) (.int 1)) .nil)) (.cons (.cmp .ge (.ix (.var 0) (.int 1)) (.int 1)) .nil)))))) .nil
def m_is_term (S : Store) (ds : List D) : R D := runB (0) 1 b_is_term S ds
def f_is_term : FnI := ⟨"is_term", ["thing"], [], m_is_term⟩
/-- are_terms -/
def N_are_terms : List Str := ["thing", "variables", "literal", "weight", "one", "other", "entry"]
def e_are_terms_0 : E := .lc [6] false (.name 6) (.seq (.var 0)) .none (.call false f_is_term (.cons (.var 6) .nil))
def u_are_terms_1 : PX.B := .cons (.ret (.bl false)) .nil
def e_are_terms_2 : E := .lc [2, 3] false (.tup [2, 3]) (.seq (.var 0)) .none (.bin .fdiv (.var 2) (.int 2))
def e_are_terms_3 : E := .lc [4, 5] false (.tup [4, 5]) (.zip (.var 1) (.sl (.var 1) (.some (.int 1)) .none)) .none (.cmp .lt (.var 4) (.var 5))
def t_are_terms_4 : PX.S := .ite (.or (.cons (.not (.isi (.var 0) .tuple)) (.cons (.not (.bi .all (.cons (e_are_terms_0) .nil))) .nil))) (u_are_terms_1) (.nil)
def t_are_terms_5 : PX.S := .asg (.name 1) (e_are_terms_2)
def t_are_terms_6 : PX.S := .ret (.bi .all (.cons (e_are_terms_3) .nil))
def b_are_terms : PX.B := .cons (t_are_terms_4) (.cons (t_are_terms_5) (.cons (t_are_terms_6) .nil))
def m_are_terms (S : Store) (ds : List D) : R D := runB (0) 7 b_are_terms S ds
def f_are_terms : FnI := ⟨"are_terms", ["thing"], [], m_are_terms⟩
/-- is_sum -/
def N_is_sum : List Str := ["thing"]
def b_is_sum : PX.B := .cons (.ret (.and (.cons (.call false f_is_row (.cons (.var 0) (.cons (.int 2) (.cons (.int 2) .nil)))) (.cons (.call false f_are_terms (.cons (.ix (.var 0) (.int 0)) .nil)) (.cons (.call false f_is_int (.cons (.ix (.var 0) (.int 1)) .nil)) .nil))))) .nil
def m_is_sum (S : Store) (ds : List D) : R D := runB (0) 1 b_is_sum S ds
def f_is_sum : FnI := ⟨"is_sum", ["thing"], [], m_is_sum⟩
/-- literals_of -/
def N_literals_of : List Str := ["one", "literal", "weight"]
def e_literals_of_0 : E := .lc [1, 2] false (.tup [1, 2]) (.seq (.ix (.var 0) (.int 0))) .none (.var 1)
def t_literals_of_1 : PX.S := .ret (.bi .tuple (.cons (e_literals_of_0) .nil))
def b_literals_of : PX.B := .cons (t_literals_of_1) .nil
def m_literals_of (S : Store) (ds : List D) : R D := runB (0) 3 b_literals_of S ds
def f_literals_of : FnI := ⟨"literals_of", ["one"], [], m_literals_of⟩
/-- is_way -/
def N_is_way : List Str := ["thing", "one"]
def u_is_way_0 : PX.B := .cons (.ret (.bl false)) .nil
def u_is_way_1 : PX.B := .cons (.ret (.and (.cons (.cmp .eq (.bi .len (.cons (.var 0) .nil)) (.int 2)) (.cons (.call false f_is_index (.cons (.ix (.var 0) (.int 1)) .nil)) .nil)))) .nil
def u_is_way_2 : PX.B := .cons (.ret (.and (.cons (.cmp .eq (.bi .len (.cons (.var 0) .nil)) (.int 3)) (.cons (.call false f_is_index (.cons (.ix (.var 0) (.int 1)) .nil)) (.cons (.call false f_is_index (.cons (.ix (.var 0) (.int 2)) .nil)) (.cons (.cmp .ne (.bin .fdiv (.ix (.var 0) (.int 2)) (.int 2)) (.ix (.var 0) (.int 1))) .nil)))))) .nil
def u_is_way_3 : PX.B := .cons (.ret (.bl false)) .nil
def e_is_way_4 : E := .lc [1] false (.name 1) (.seq (.ix (.var 0) (.int 2))) .none (.and (.cons (.call false f_is_sum (.cons (.var 1) .nil)) (.cons (.cmp .inn (.ix (.var 0) (.int 1)) (.call false f_literals_of (.cons (.var 1) .nil))) .nil)))
def t_is_way_5 : PX.S := .ite (.or (.cons (.not (.call false f_is_row (.cons (.var 0) (.cons (.int 2) (.cons (.int 3) .nil))))) (.cons (.not (.isi (.ix (.var 0) (.int 0)) .str)) .nil))) (u_is_way_0) (.nil)
def t_is_way_6 : PX.S := .ite (.cmp .inn (.ix (.var 0) (.int 0)) (.tup (.cons (.str "set") (.cons (.str "cut") .nil)))) (u_is_way_1) (.nil)
def t_is_way_7 : PX.S := .ite (.cmp .eq (.ix (.var 0) (.int 0)) (.str "like")) (u_is_way_2) (.nil)
def t_is_way_8 : PX.S := .ite (.or (.cons (.cmp .ne (.ix (.var 0) (.int 0)) (.str "save")) (.cons (.cmp .ne (.bi .len (.cons (.var 0) .nil)) (.int 3)) (.cons (.not (.call false f_is_index (.cons (.ix (.var 0) (.int 1)) .nil))) (.cons (.not (.isi (.ix (.var 0) (.int 2)) .tuple)) .nil))))) (u_is_way_3) (.nil)
def t_is_way_9 : PX.S := .ret (.bi .all (.cons (e_is_way_4) .nil))
def b_is_way : PX.B := .cons (t_is_way_5) (.cons (t_is_way_6) (.cons (t_is_way_7) (.cons (t_is_way_8) (.cons (t_is_way_9) .nil))))
def m_is_way (S : Store) (ds : List D) : R D := runB (0) 2 b_is_way S ds
def f_is_way : FnI := ⟨"is_way", ["thing"], [], m_is_way⟩
/-- are_ways -/
def N_are_ways : List Str := ["thing", "way"]
def e_are_ways_0 : E := .lc [1] false (.name 1) (.seq (.var 0)) .none (.call false f_is_way (.cons (.var 1) .nil))
def t_are_ways_1 : PX.S := .ret (.and (.cons (.isi (.var 0) .tuple) (.cons (.bi .all (.cons (e_are_ways_0) .nil)) .nil)))
def b_are_ways : PX.B := .cons (t_are_ways_1) .nil
def m_are_ways (S : Store) (ds : List D) : R D := runB (0) 2 b_are_ways S ds
def f_are_ways : FnI := ⟨"are_ways", ["thing"], [(0, ["thing"])], m_are_ways⟩
/-- within -/
def N_within : List Str := ["thing", "low", "high"]
def b_within : PX.B := .cons (.ret (.and (.cons (.call false f_is_int (.cons (.var 0) .nil)) (.cons (.chain .le .le (.var 1) (.var 0) (.var 2)) .nil)))) .nil
def m_within (S : Store) (ds : List D) : R D := runB (0) 3 b_within S ds
def f_within : FnI := ⟨"within", ["thing", "low", "high"], [], m_within⟩
/-- are_bits -/
def N_are_bits : List Str := ["thing", "low", "high", "entry"]
def e_are_bits_0 : E := .lc [3] false (.name 3) (.seq (.var 0)) .none (.call false f_within (.cons (.var 3) (.cons (.int 0) (.cons (.int 1) .nil))))
def t_are_bits_1 : PX.S := .ret (.and (.cons (.call false f_is_row (.cons (.var 0) (.cons (.var 1) (.cons (.var 2) .nil)))) (.cons (.bi .all (.cons (e_are_bits_0) .nil)) .nil)))
def b_are_bits : PX.B := .cons (t_are_bits_1) .nil
def m_are_bits (S : Store) (ds : List D) : R D := runB (0) 4 b_are_bits S ds
def f_are_bits : FnI := ⟨"are_bits", ["thing", "low", "high"], [], m_are_bits⟩
/-- is_price -/
def N_is_price : List Str := ["thing"]
def b_is_price : PX.B := .cons (.ret (.and (.cons (.call false f_is_row (.cons (.var 0) (.cons (.int 2) (.cons (.int 2) .nil)))) (.cons (.call false f_are_terms (.cons (.ix (.var 0) (.int 0)) .nil)) (.cons (.call false f_is_int (.cons (.ix (.var 0) (.int 1)) .nil)) .nil))))) .nil
def m_is_price (S : Store) (ds : List D) : R D := runB (0) 1 b_is_price S ds
def f_is_price : FnI := ⟨"is_price", ["thing"], [], m_is_price⟩
/-- are_small_terms -/
def N_are_small_terms : List Str := ["many", "terms", "literal", "weight"]
def e_are_small_terms_0 : E := .lc [2, 3] false (.tup [2, 3]) (.seq (.var 1)) .none (.and (.cons (.cmp .lt (.var 2) (.bin .mul (.int 2) (.var 0))) (.cons (.cmp .le (.var 3) (.glob "MOST_NUMBER" c_MOST_NUMBER)) .nil)))
def t_are_small_terms_1 : PX.S := .ret (.bi .all (.cons (e_are_small_terms_0) .nil))
def b_are_small_terms : PX.B := .cons (t_are_small_terms_1) .nil
def m_are_small_terms (S : Store) (ds : List D) : R D := runB (0) 4 b_are_small_terms S ds
def f_are_small_terms : FnI := ⟨"are_small_terms", ["many", "terms"], [], m_are_small_terms⟩
/-- is_small_price -/
def N_is_small_price : List Str := ["many", "thing"]
def b_is_small_price : PX.B := .cons (.ret (.and (.cons (.call false f_is_price (.cons (.var 1) .nil)) (.cons (.call false f_are_small_terms (.cons (.var 0) (.cons (.ix (.var 1) (.int 0)) .nil))) (.cons (.call false f_within (.cons (.ix (.var 1) (.int 1)) (.cons (.neg (.glob "MOST_NUMBER" c_MOST_NUMBER)) (.cons (.glob "MOST_NUMBER" c_MOST_NUMBER) .nil)))) .nil))))) .nil
def m_is_small_price (S : Store) (ds : List D) : R D := runB (0) 2 b_is_small_price S ds
def f_is_small_price : FnI := ⟨"is_small_price", ["many", "thing"], [], m_is_small_price⟩
/-- is_small_sum -/
def N_is_small_sum : List Str := ["many", "thing"]
def b_is_small_sum : PX.B := .cons (.ret (.and (.cons (.call false f_is_sum (.cons (.var 1) .nil)) (.cons (.call false f_are_small_terms (.cons (.var 0) (.cons (.ix (.var 1) (.int 0)) .nil))) (.cons (.call false f_within (.cons (.ix (.var 1) (.int 1)) (.cons (.neg (.glob "MOST_NUMBER" c_MOST_NUMBER)) (.cons (.glob "MOST_NUMBER" c_MOST_NUMBER) .nil)))) .nil))))) .nil
def m_is_small_sum (S : Store) (ds : List D) : R D := runB (0) 2 b_is_small_sum S ds
def f_is_small_sum : FnI := ⟨"is_small_sum", ["many", "thing"], [], m_is_small_sum⟩
/-- are_small_sums -/
def N_are_small_sums : List Str := ["many", "thing", "one"]
def e_are_small_sums_0 : E := .lc [2] false (.name 2) (.seq (.var 1)) .none (.call false f_is_small_sum (.cons (.var 0) (.cons (.var 2) .nil)))
def t_are_small_sums_1 : PX.S := .ret (.and (.cons (.call false f_is_row (.cons (.var 1) (.cons (.int 0) (.cons (.glob "MOST_SUMS" c_MOST_SUMS) .nil)))) (.cons (.bi .all (.cons (e_are_small_sums_0) .nil)) .nil)))
def b_are_small_sums : PX.B := .cons (t_are_small_sums_1) .nil
def m_are_small_sums (S : Store) (ds : List D) : R D := runB (0) 3 b_are_small_sums S ds
def f_are_small_sums : FnI := ⟨"are_small_sums", ["many", "thing"], [], m_are_small_sums⟩
/-- is_problem -/
def N_is_problem : List Str := ["thing"]
def b_is_problem : PX.B := .cons (.ite (.or (.cons (.not (.call false f_is_row (.cons (.var 0) (.cons (.int 3) (.cons (.int 3) .nil))))) (.cons (.not (.call false f_within (.cons (.ix (.var 0) (.int 0)) (.cons (.int 1) (.cons (.glob "MOST_VARIABLES" c_MOST_VARIABLES) .nil))))) .nil))) (.cons (.ret (.bl false)) .nil) (.nil)) (.cons (.ret (.and (.cons (.call false f_are_small_sums (.cons (.ix (.var 0) (.int 0)) (.cons (.ix (.var 0) (.int 1)) .nil))) (.cons (.or (.cons (.cmp .is (.ix (.var 0) (.int 2)) (.non)) (.cons (.call false f_is_small_price (.cons (.ix (.var 0) (.int 0)) (.cons (.ix (.var 0) (.int 2)) .nil))) .nil))) .nil)))) .nil)
def m_is_problem (S : Store) (ds : List D) : R D := runB (0) 1 b_is_problem S ds
def f_is_problem : FnI := ⟨"is_problem", ["thing"], [], m_is_problem⟩
/-- need_problem -/
def N_need_problem : List Str := ["problem"]
def b_need_problem : PX.B := .cons (.ite (.not (.call false f_is_problem (.cons (.var 0) .nil))) (.cons (.raise "BadProblem" "this is no problem") .nil) (.nil)) .nil
def m_need_problem (S : Store) (ds : List D) : R D := runB (0) 1 b_need_problem S ds
def f_need_problem : FnI := ⟨"need_problem", ["problem"], [], m_need_problem⟩
/-- is_true -/
def N_is_true : List Str := ["literal", "values"]
def b_is_true : PX.B := .cons (.ret (.cmp .ne (.ix (.var 1) (.bin .fdiv (.var 0) (.int 2))) (.bin .and (.var 0) (.int 1)))) .nil
def m_is_true (S : Store) (ds : List D) : R D := runB (0) 2 b_is_true S ds
def f_is_true : FnI := ⟨"is_true", ["literal", "values"], [], m_is_true⟩
/-- worth -/
def N_worth : List Str := ["one", "values", "literal", "weight"]
def e_worth_0 : E := .lc [2, 3] false (.tup [2, 3]) (.seq (.ix (.var 0) (.int 0))) (.some (.call true f_is_true (.cons (.var 2) (.cons (.var 1) .nil)))) (.var 3)
def t_worth_1 : PX.S := .ret (.bi .sum (.cons (e_worth_0) .nil))
def b_worth : PX.B := .cons (t_worth_1) .nil
def m_worth (S : Store) (ds : List D) : R D := runB (0) 4 b_worth S ds
def f_worth : FnI := ⟨"worth", ["one", "values"], [], m_worth⟩
/-- keeps -/
def N_keeps : List Str := ["one", "values"]
def b_keeps : PX.B := .cons (.ret (.cmp .ge (.call true f_worth (.cons (.var 0) (.cons (.var 1) .nil))) (.ix (.var 0) (.int 1)))) .nil
def m_keeps (S : Store) (ds : List D) : R D := runB (0) 2 b_keeps S ds
def f_keeps : FnI := ⟨"keeps", ["one", "values"], [], m_keeps⟩
/-- put_true -/
def N_put_true : List Str := ["values", "literal", "truth"]
def b_put_true : PX.B := .cons (.set (.var 0) (.bin .fdiv (.var 1) (.int 2)) (.bin .xor (.bi .int (.cons (.var 2) .nil)) (.bin .and (.var 1) (.int 1)))) .nil
def m_put_true (S : Store) (ds : List D) : R D := runB (0) 3 b_put_true S ds
def f_put_true : FnI := ⟨"put_true", ["values", "literal", "truth"], [], m_put_true⟩
/-- go_back -/
def N_go_back : List Str := ["values", "way", "one"]
def u_go_back_0 : PX.B := .cons (.expr (.call true f_put_true (.cons (.var 0) (.cons (.ix (.var 1) (.int 1)) (.cons (.bl true) .nil))))) .nil
def u_go_back_1 : PX.B := .cons (.expr (.call true f_put_true (.cons (.var 0) (.cons (.bin .mul (.int 2) (.ix (.var 1) (.int 1))) (.cons (.call true f_is_true (.cons (.ix (.var 1) (.int 2)) (.cons (.var 0) .nil))) .nil))))) .nil
def e_go_back_2 : E := .lc [2] false (.name 2) (.seq (.ix (.var 1) (.int 2))) .none (.not (.call true f_keeps (.cons (.var 2) (.cons (.var 0) .nil))))
def u_go_back_3 : PX.B := .cons (.expr (.call true f_put_true (.cons (.var 0) (.cons (.ix (.var 1) (.int 1)) (.cons (.bl false) .nil))))) (.cons (.expr (.call true f_put_true (.cons (.var 0) (.cons (.ix (.var 1) (.int 1)) (.cons (.bi .any (.cons (e_go_back_2) .nil)) .nil))))) .nil)
def u_go_back_4 : PX.B := .cons (.ite (.cmp .eq (.ix (.var 1) (.int 0)) (.str "save")) (u_go_back_3) (.nil)) .nil
def u_go_back_5 : PX.B := .cons (.ite (.cmp .eq (.ix (.var 1) (.int 0)) (.str "like")) (u_go_back_1) (u_go_back_4)) .nil
def t_go_back_6 : PX.S := .ite (.cmp .eq (.ix (.var 1) (.int 0)) (.str "set")) (u_go_back_0) (u_go_back_5)
def b_go_back : PX.B := .cons (t_go_back_6) .nil
def m_go_back (S : Store) (ds : List D) : R D := runB (0) 3 b_go_back S ds
def f_go_back : FnI := ⟨"go_back", ["values", "way"], [], m_go_back⟩
/-- gone_back -/
def N_gone_back : List Str := ["ways", "values", "found", "way"]
def u_gone_back_0 : PX.B := .cons (.expr (.call true f_go_back (.cons (.var 2) (.cons (.var 3) .nil)))) .nil
def t_gone_back_1 : PX.S := .asg (.name 2) (.bi .listM (.cons (.var 1) .nil))
def t_gone_back_2 : PX.S := .for_ (.name 3) (.rev (.var 0)) (u_gone_back_0)
def t_gone_back_3 : PX.S := .ret (.var 2)
def b_gone_back : PX.B := .cons (t_gone_back_1) (.cons (t_gone_back_2) (.cons (t_gone_back_3) .nil))
def m_gone_back (S : Store) (ds : List D) : R D := runB (0) 4 b_gone_back S ds
def f_gone_back : FnI := ⟨"gone_back", ["ways", "values"], [], m_gone_back⟩
/-- highest -/
def N_highest : List Str := ["way", "one", "literal", "weight"]
def u_highest_0 : PX.B := .cons (.ret (.bin .fdiv (.ix (.var 0) (.int 1)) (.int 2))) .nil
def u_highest_1 : PX.B := .cons (.ret (.bi .max2 (.cons (.ix (.var 0) (.int 1)) (.cons (.bin .fdiv (.ix (.var 0) (.int 2)) (.int 2)) .nil)))) .nil
def e_highest_2 : E := .lc2 [1, 2, 3] [2, 3] false (.name 1) (.seq (.ix (.var 0) (.int 2))) .none (.tup [2, 3]) (.seq (.ix (.var 1) (.int 0))) .none (.bin .fdiv (.var 2) (.int 2))
def u_highest_3 : PX.B := .cons (.ret (.bi .maxL (.cons (.bin .add (.lst (.cons (.bin .fdiv (.ix (.var 0) (.int 1)) (.int 2)) .nil)) (e_highest_2)) .nil))) .nil
def t_highest_4 : PX.S := .ite (.cmp .eq (.ix (.var 0) (.int 0)) (.str "set")) (u_highest_0) (.nil)
def t_highest_5 : PX.S := .ite (.cmp .eq (.ix (.var 0) (.int 0)) (.str "like")) (u_highest_1) (.nil)
def t_highest_6 : PX.S := .ite (.cmp .eq (.ix (.var 0) (.int 0)) (.str "save")) (u_highest_3) (.nil)
def t_highest_7 : PX.S := .ret (.neg (.int 1))
def b_highest : PX.B := .cons (t_highest_4) (.cons (t_highest_5) (.cons (t_highest_6) (.cons (t_highest_7) .nil)))
def m_highest (S : Store) (ds : List D) : R D := runB (0) 4 b_highest S ds
def f_highest : FnI := ⟨"highest", ["way"], [], m_highest⟩
/-- need_ways -/
def N_need_ways : List Str := ["ways"]
def b_need_ways : PX.B := .cons (.ite (.not (.call false f_are_ways (.cons (.var 0) .nil))) (.cons (.raise "BadWays" "these are no ways back") .nil) (.nil)) .nil
def m_need_ways (S : Store) (ds : List D) : R D := runB (0) 1 b_need_ways S ds
def f_need_ways : FnI := ⟨"need_ways", ["ways"], [], m_need_ways⟩
/-- taken_back -/
def N_taken_back : List Str := ["problem", "ways", "values", "least", "way"]
def e_taken_back_0 : E := .lc [4] false (.name 4) (.seq (.var 1)) .none (.bin .add (.call false f_highest (.cons (.var 4) .nil)) (.int 1))
def u_taken_back_1 : PX.B := .cons (.raise "BadValues" "these are no values for the ways back") .nil
def t_taken_back_2 : PX.S := .expr (.call false f_need_problem (.cons (.var 0) .nil))
def t_taken_back_3 : PX.S := .expr (.call false f_need_ways (.cons (.var 1) .nil))
def t_taken_back_4 : PX.S := .asg (.name 3) (.bi .maxL (.cons (.bin .add (.lst (.cons (.ix (.var 0) (.int 0)) .nil)) (e_taken_back_0)) .nil))
def t_taken_back_5 : PX.S := .ite (.or (.cons (.not (.isi (.var 2) .tuple)) (.cons (.cmp .lt (.bi .len (.cons (.var 2) .nil)) (.var 3)) (.cons (.not (.call false f_are_bits (.cons (.var 2) (.cons (.var 3) (.cons (.bi .len (.cons (.var 2) .nil)) .nil))))) .nil)))) (u_taken_back_1) (.nil)
def t_taken_back_6 : PX.S := .ret (.bi .tuple (.cons (.sl (.call true f_gone_back (.cons (.var 1) (.cons (.var 2) .nil))) .none (.some (.ix (.var 0) (.int 0)))) .nil))
def b_taken_back : PX.B := .cons (t_taken_back_2) (.cons (t_taken_back_3) (.cons (t_taken_back_4) (.cons (t_taken_back_5) (.cons (t_taken_back_6) .nil))))
def m_taken_back (S : Store) (ds : List D) : R D := runB (0) 5 b_taken_back S ds
def f_taken_back : FnI := ⟨"taken_back", ["problem", "ways", "values"], [(0, ["values", "ways", "problem"]), (0, ["problem", "ways", "values"])], m_taken_back⟩
/-- gone_variables -/
def N_gone_variables : List Str := ["ways", "found", "way"]
def e_gone_variables_0 : E := .lc [2] false (.name 2) (.seq (.var 0)) (.some (.cmp .ne (.ix (.var 2) (.int 0)) (.str "cut"))) (.ite (.cmp .eq (.ix (.var 2) (.int 0)) (.str "like")) (.ix (.var 2) (.int 1)) (.bin .fdiv (.ix (.var 2) (.int 1)) (.int 2)))
def t_gone_variables_1 : PX.S := .asg (.name 1) (e_gone_variables_0)
def t_gone_variables_2 : PX.S := .ret (.sset (.var 1))
def b_gone_variables : PX.B := .cons (t_gone_variables_1) (.cons (t_gone_variables_2) .nil)
def m_gone_variables (S : Store) (ds : List D) : R D := runB (0) 3 b_gone_variables S ds
def f_gone_variables : FnI := ⟨"gone_variables", ["ways"], [], m_gone_variables⟩
/-- gone -/
def N_gone : List Str := ["ways"]
def b_gone : PX.B := .cons (.expr (.call false f_need_ways (.cons (.var 0) .nil))) (.cons (.ret (.bi .tuple (.cons (.call false f_gone_variables (.cons (.var 0) .nil)) .nil))) .nil)
def m_gone (S : Store) (ds : List D) : R D := runB (0) 1 b_gone S ds
def f_gone : FnI := ⟨"gone", ["ways"], [(0, ["ways"])], m_gone⟩
/-- _law_deck -/
def N__law_deck : List Str := ["script", "cell"]
def e__law_deck_0 : E := .lc [1] true (.name 1) (.seq (.sl (.var 0) .none (.some (.int 63)))) .none (.bin .mod (.bi .int (.cons (.var 1) .nil)) (.bin .pow (.int 10) (.int 60)))
def t__law_deck_1 : PX.S := .ret (.new (.cons (e__law_deck_0) (.cons (.int 0) (.cons (.int 6151) .nil))))
def b__law_deck : PX.B := .cons (t__law_deck_1) .nil
def m__law_deck (S : Store) (ds : List D) : R D := runB (0) 2 b__law_deck S ds
def f__law_deck : FnI := ⟨"_law_deck", ["script"], [], m__law_deck⟩
/-- _law_pick -/
def N__law_pick : List Str := ["deck", "many", "cells", "cell", "found"]
def b__law_pick : PX.B := .cons (.asg (.name 2) (.ix (.var 0) (.int 0))) (.cons (.ite (.and (.cons (.cmp .lt (.ix (.var 0) (.int 1)) (.bin .pow (.int 10) (.int 6))) (.cons (.cmp .ne (.var 2) (.lst (.nil))) .nil))) (.cons (.asg (.name 3) (.meth .popAt (.var 2) (.cons (.int 0) .nil))) (.cons (.ite (.cmp .ge (.var 3) (.bin .pow (.int 10) (.int 18))) (.cons (.set (.var 0) (.int 1) (.var 3)) .nil) (.cons (.set (.var 0) (.int 2) (.bin .mod (.bi .int (.cons (.bin .add (.bin .add (.bin .mul (.ix (.var 0) (.int 2)) (.int 69621)) (.bin .mul (.bin .mod (.bi .int (.cons (.var 3) .nil)) (.int 2147483563)) (.int 40014))) (.int 3)) .nil)) (.int 2147483563))) .nil)) .nil)) (.nil)) (.cons (.ite (.cmp .ge (.ix (.var 0) (.int 1)) (.bin .pow (.int 10) (.int 6))) (.cons (.asg (.name 4) (.bin .mod (.bi .int (.cons (.ix (.var 0) (.int 1)) .nil)) (.var 1))) (.cons (.set (.var 0) (.int 1) (.bin .fdiv (.ix (.var 0) (.int 1)) (.var 1))) (.cons (.ret (.var 4)) .nil))) (.nil)) (.cons (.set (.var 0) (.int 2) (.bin .mod (.bi .int (.cons (.bin .add (.bin .mul (.ix (.var 0) (.int 2)) (.int 48271)) (.int 11)) .nil)) (.int 2147483647))) (.cons (.ret (.bin .mod (.bi .int (.cons (.bin .fdiv (.ix (.var 0) (.int 2)) (.int 53)) .nil)) (.var 1))) .nil))))
def m__law_pick (S : Store) (ds : List D) : R D := runB (0) 5 b__law_pick S ds
def f__law_pick : FnI := ⟨"_law_pick", ["deck", "many"], [], m__law_pick⟩
/-- _law_same -/
def N__law_same : List Str := ["told", "due", "waiting", "one", "two", "k"]
def u__law_same_0 : PX.B := .cons (.ret (.bl false)) .nil
def e__law_same_1 : E := .lc [5] false (.name 5) (.rng1 (.bi .len (.cons (.var 4) .nil))) .none (.tup (.cons (.ix (.var 3) (.var 5)) (.cons (.ix (.var 4) (.var 5)) .nil)))
def u__law_same_2 : PX.B := .cons (.ite (.or (.cons (.not (.isi (.var 3) .tuple)) (.cons (.cmp .ne (.bi .len (.cons (.var 3) .nil)) (.bi .len (.cons (.var 4) .nil))) .nil))) (u__law_same_0) (.nil)) (.cons (.expr (.meth .extend (.var 2) (.cons (e__law_same_1) .nil))) .nil)
def u__law_same_3 : PX.B := .cons (.ret (.bl false)) .nil
def u__law_same_4 : PX.B := .cons (.ite (.cmp .isNot (.var 3) (.non)) (u__law_same_3) (.nil)) .nil
def u__law_same_5 : PX.B := .cons (.ret (.bl false)) .nil
def u__law_same_6 : PX.B := .cons (.ite (.or (.cons (.not (.isi (.var 3) .bool)) (.cons (.cmp .ne (.var 3) (.var 4)) .nil))) (u__law_same_5) (.nil)) .nil
def u__law_same_7 : PX.B := .cons (.ret (.bl false)) .nil
def u__law_same_8 : PX.B := .cons (.ite (.or (.cons (.not (.isi (.var 3) .str)) (.cons (.cmp .ne (.var 3) (.var 4)) .nil))) (u__law_same_7) (.nil)) .nil
def u__law_same_9 : PX.B := .cons (.ret (.bl false)) .nil
def u__law_same_10 : PX.B := .cons (.ite (.or (.cons (.not (.isi (.var 3) .int)) (.cons (.isi (.var 3) .bool) (.cons (.cmp .ne (.var 3) (.var 4)) .nil)))) (u__law_same_9) (.nil)) .nil
def u__law_same_11 : PX.B := .cons (.ite (.isi (.var 4) .str) (u__law_same_8) (u__law_same_10)) .nil
def u__law_same_12 : PX.B := .cons (.ite (.isi (.var 4) .bool) (u__law_same_6) (u__law_same_11)) .nil
def u__law_same_13 : PX.B := .cons (.ite (.cmp .is (.var 4) (.non)) (u__law_same_4) (u__law_same_12)) .nil
def u__law_same_14 : PX.B := .cons (.asg (.tup [3, 4]) (.meth .pop (.var 2) (.nil))) (.cons (.ite (.isi (.var 4) .tuple) (u__law_same_2) (u__law_same_13)) .nil)
def t__law_same_15 : PX.S := .asg (.name 2) (.new (.cons (.tup (.cons (.var 0) (.cons (.var 1) .nil))) .nil))
def t__law_same_16 : PX.S := .while_ (.cmp .ne (.var 2) (.lst (.nil))) (u__law_same_14)
def t__law_same_17 : PX.S := .ret (.bl true)
def b__law_same : PX.B := .cons (t__law_same_15) (.cons (t__law_same_16) (.cons (t__law_same_17) .nil))
def m__law_same (S : Store) (ds : List D) : R D := runB (fuelOf ds) 6 b__law_same S ds
def f__law_same : FnI := ⟨"_law_same", ["told", "due"], [], m__law_same⟩
/-- _law_back -/
def N__law_back : List Str := ["ways", "values", "many", "found", "way", "is_one", "v", "is_odd", "terms", "degree", "literal", "weight"]
def u__law_back_0 : PX.B := .cons (.set (.var 3) (.bin .fdiv (.ix (.var 4) (.int 1)) (.int 2)) (.bin .sub (.int 1) (.bin .sub (.ix (.var 4) (.int 1)) (.bin .mul (.bin .fdiv (.ix (.var 4) (.int 1)) (.int 2)) (.int 2))))) .nil
def u__law_back_1 : PX.B := .cons (.asg (.name 5) (.cmp .eq (.ix (.var 3) (.bin .fdiv (.ix (.var 4) (.int 2)) (.int 2))) (.bin .sub (.int 1) (.bin .sub (.ix (.var 4) (.int 2)) (.bin .mul (.bin .fdiv (.ix (.var 4) (.int 2)) (.int 2)) (.int 2)))))) (.cons (.set (.var 3) (.ix (.var 4) (.int 1)) (.bi .int (.cons (.var 5) .nil))) .nil)
def e__law_back_2 : E := .lc [10, 11] false (.tup [10, 11]) (.seq (.var 8)) (.some (.cmp .eq (.ix (.var 3) (.bin .fdiv (.var 10) (.int 2))) (.bin .sub (.int 1) (.bin .sub (.var 10) (.bin .mul (.bin .fdiv (.var 10) (.int 2)) (.int 2)))))) (.var 11)
def u__law_back_3 : PX.B := .cons (.set (.var 3) (.var 6) (.bin .sub (.int 1) (.var 7))) .nil
def u__law_back_4 : PX.B := .cons (.ite (.cmp .lt (.bi .sum (.cons (e__law_back_2) .nil)) (.var 9)) (u__law_back_3) (.nil)) .nil
def u__law_back_5 : PX.B := .cons (.par2 6 7 (.bin .fdiv (.ix (.var 4) (.int 1)) (.int 2)) (.bin .sub (.ix (.var 4) (.int 1)) (.bin .mul (.bin .fdiv (.ix (.var 4) (.int 1)) (.int 2)) (.int 2)))) (.cons (.set (.var 3) (.var 6) (.var 7)) (.cons (.for_ (.tup [8, 9]) (.seq (.ix (.var 4) (.int 2))) (u__law_back_4)) .nil))
def u__law_back_6 : PX.B := .cons (.ite (.cmp .eq (.ix (.var 4) (.int 0)) (.str "save")) (u__law_back_5) (.nil)) .nil
def u__law_back_7 : PX.B := .cons (.ite (.cmp .eq (.ix (.var 4) (.int 0)) (.str "like")) (u__law_back_1) (u__law_back_6)) .nil
def u__law_back_8 : PX.B := .cons (.ite (.cmp .eq (.ix (.var 4) (.int 0)) (.str "set")) (u__law_back_0) (u__law_back_7)) .nil
def t__law_back_9 : PX.S := .asg (.name 3) (.bi .listM (.cons (.var 1) .nil))
def t__law_back_10 : PX.S := .for_ (.name 4) (.seq (.rev (.var 0))) (u__law_back_8)
def t__law_back_11 : PX.S := .ret (.bi .tuple (.cons (.sl (.var 3) .none (.some (.var 2))) .nil))
def b__law_back : PX.B := .cons (t__law_back_9) (.cons (t__law_back_10) (.cons (t__law_back_11) .nil))
def m__law_back (S : Store) (ds : List D) : R D := runB (0) 12 b__law_back S ds
def f__law_back : FnI := ⟨"_law_back", ["ways", "values", "many"], [], m__law_back⟩
/-- _law_gone -/
def N__law_gone : List Str := ["ways", "way"]
def e__law_gone_0 : E := .lc [1] false (.name 1) (.seq (.var 0)) (.some (.cmp .ne (.ix (.var 1) (.int 0)) (.str "cut"))) (.ite (.cmp .eq (.ix (.var 1) (.int 0)) (.str "like")) (.ix (.var 1) (.int 1)) (.bin .fdiv (.ix (.var 1) (.int 1)) (.int 2)))
def t__law_gone_1 : PX.S := .ret (.sset (e__law_gone_0))
def b__law_gone : PX.B := .cons (t__law_gone_1) .nil
def m__law_gone (S : Store) (ds : List D) : R D := runB (0) 2 b__law_gone S ds
def f__law_gone : FnI := ⟨"_law_gone", ["ways"], [], m__law_gone⟩
/-- _law_save -/
def N__law_save : List Str := ["deck", "most", "literal", "sums", "k", "terms", "turn", "other", "v"]
def u__law_save_0 : PX.B := .cons (.asg (.name 7) (.call true f__law_pick (.cons (.var 0) (.cons (.bin .mul (.int 2) (.var 1)) .nil)))) (.cons (.set (.var 5) (.bin .fdiv (.var 7) (.int 2)) (.tup (.cons (.var 7) (.cons (.bin .add (.int 1) (.call true f__law_pick (.cons (.var 0) (.cons (.int 5) .nil)))) .nil)))) .nil)
def e__law_save_1 : E := .lc [8] false (.name 8) (.seq (.bi .sorted (.cons (.var 5) .nil))) .none (.ix (.var 5) (.var 8))
def u__law_save_2 : PX.B := .cons (.asg (.name 5) (.dic)) (.cons (.for_ (.name 6) (.rng1 (.call true f__law_pick (.cons (.var 0) (.cons (.int 4) .nil)))) (u__law_save_0)) (.cons (.set (.var 5) (.bin .fdiv (.var 2) (.int 2)) (.tup (.cons (.var 2) (.cons (.bin .add (.int 1) (.call true f__law_pick (.cons (.var 0) (.cons (.int 5) .nil)))) .nil)))) (.cons (.expr (.meth .append (.var 3) (.cons (.tup (.cons (.bi .tuple (.cons (e__law_save_1) .nil)) (.cons (.bin .sub (.call true f__law_pick (.cons (.var 0) (.cons (.int 9) .nil))) (.int 1)) .nil))) .nil))) .nil)))
def t__law_save_3 : PX.S := .asg (.name 2) (.call true f__law_pick (.cons (.var 0) (.cons (.bin .mul (.int 2) (.var 1)) .nil)))
def t__law_save_4 : PX.S := .asg (.name 3) (.new (.nil))
def t__law_save_5 : PX.S := .for_ (.name 4) (.rng1 (.call true f__law_pick (.cons (.var 0) (.cons (.int 4) .nil)))) (u__law_save_2)
def t__law_save_6 : PX.S := .ret (.tup (.cons (.str "save") (.cons (.var 2) (.cons (.bi .tuple (.cons (.var 3) .nil)) .nil))))
def b__law_save : PX.B := .cons (t__law_save_3) (.cons (t__law_save_4) (.cons (t__law_save_5) (.cons (t__law_save_6) .nil)))
def m__law_save (S : Store) (ds : List D) : R D := runB (0) 9 b__law_save S ds
def f__law_save : FnI := ⟨"_law_save", ["deck", "most"], [], m__law_save⟩
/-- _law_ways -/
def N__law_ways : List Str := ["deck", "most", "found", "k", "kind", "a", "b"]
def u__law_ways_0 : PX.B := .cons (.expr (.meth .append (.var 2) (.cons (.tup (.cons (.str "set") (.cons (.var 5) .nil))) .nil))) .nil
def u__law_ways_1 : PX.B := .cons (.expr (.meth .append (.var 2) (.cons (.tup (.cons (.str "like") (.cons (.var 6) (.cons (.var 5) .nil)))) .nil))) .nil
def u__law_ways_2 : PX.B := .cons (.expr (.meth .append (.var 2) (.cons (.ite (.cmp .eq (.var 4) (.int 2)) (.call true f__law_save (.cons (.var 0) (.cons (.var 1) .nil))) (.tup (.cons (.str "cut") (.cons (.call true f__law_pick (.cons (.var 0) (.cons (.int 70) .nil))) .nil)))) .nil))) .nil
def u__law_ways_3 : PX.B := .cons (.ite (.and (.cons (.cmp .eq (.var 4) (.int 1)) (.cons (.cmp .ne (.bin .fdiv (.var 5) (.int 2)) (.var 6)) .nil))) (u__law_ways_1) (u__law_ways_2)) .nil
def u__law_ways_4 : PX.B := .cons (.par3 4 5 6 (.call true f__law_pick (.cons (.var 0) (.cons (.int 4) .nil))) (.call true f__law_pick (.cons (.var 0) (.cons (.bin .mul (.int 2) (.var 1)) .nil))) (.call true f__law_pick (.cons (.var 0) (.cons (.var 1) .nil)))) (.cons (.ite (.cmp .eq (.var 4) (.int 0)) (u__law_ways_0) (u__law_ways_3)) .nil)
def t__law_ways_5 : PX.S := .asg (.name 2) (.new (.nil))
def t__law_ways_6 : PX.S := .for_ (.name 3) (.rng1 (.call true f__law_pick (.cons (.var 0) (.cons (.int 12) .nil)))) (u__law_ways_4)
def t__law_ways_7 : PX.S := .ret (.bi .tuple (.cons (.var 2) .nil))
def b__law_ways : PX.B := .cons (t__law_ways_5) (.cons (t__law_ways_6) (.cons (t__law_ways_7) .nil))
def m__law_ways (S : Store) (ds : List D) : R D := runB (0) 7 b__law_ways S ds
def f__law_ways : FnI := ⟨"_law_ways", ["deck", "most"], [], m__law_ways⟩
/-- _law_int -/
def N__law_int : List Str := ["thing", "low", "high"]
def b__law_int : PX.B := .cons (.ret (.and (.cons (.isi (.var 0) .int) (.cons (.not (.isi (.var 0) .bool)) (.cons (.chain .le .le (.var 1) (.var 0) (.var 2)) .nil))))) .nil
def m__law_int (S : Store) (ds : List D) : R D := runB (0) 3 b__law_int S ds
def f__law_int : FnI := ⟨"_law_int", ["thing", "low", "high"], [], m__law_int⟩
/-- _law_is_sum -/
def N__law_is_sum : List Str := ["thing", "last", "term"]
def u__law_is_sum_0 : PX.B := .cons (.ret (.bl false)) .nil
def u__law_is_sum_1 : PX.B := .cons (.ret (.bl false)) .nil
def u__law_is_sum_2 : PX.B := .cons (.ite (.or (.cons (.not (.isi (.var 2) .tuple)) (.cons (.cmp .ne (.bi .len (.cons (.var 2) .nil)) (.int 2)) (.cons (.not (.call false f__law_int (.cons (.ix (.var 2) (.int 0)) (.cons (.int 0) (.cons (.bin .pow (.int 10) (.int 60)) .nil))))) (.cons (.not (.call false f__law_int (.cons (.ix (.var 2) (.int 1)) (.cons (.int 1) (.cons (.bin .pow (.int 10) (.int 60)) .nil))))) (.cons (.cmp .le (.bin .fdiv (.ix (.var 2) (.int 0)) (.int 2)) (.var 1)) .nil)))))) (u__law_is_sum_1) (.nil)) (.cons (.asg (.name 1) (.bin .fdiv (.ix (.var 2) (.int 0)) (.int 2))) .nil)
def t__law_is_sum_3 : PX.S := .ite (.or (.cons (.not (.isi (.var 0) .tuple)) (.cons (.cmp .ne (.bi .len (.cons (.var 0) .nil)) (.int 2)) (.cons (.not (.isi (.ix (.var 0) (.int 0)) .tuple)) (.cons (.not (.call false f__law_int (.cons (.ix (.var 0) (.int 1)) (.cons (.neg (.bin .pow (.int 10) (.int 60))) (.cons (.bin .pow (.int 10) (.int 60)) .nil))))) .nil))))) (u__law_is_sum_0) (.nil)
def t__law_is_sum_4 : PX.S := .asg (.name 1) (.neg (.int 1))
def t__law_is_sum_5 : PX.S := .for_ (.name 2) (.seq (.ix (.var 0) (.int 0))) (u__law_is_sum_2)
def t__law_is_sum_6 : PX.S := .ret (.bl true)
def b__law_is_sum : PX.B := .cons (t__law_is_sum_3) (.cons (t__law_is_sum_4) (.cons (t__law_is_sum_5) (.cons (t__law_is_sum_6) .nil)))
def m__law_is_sum (S : Store) (ds : List D) : R D := runB (0) 3 b__law_is_sum S ds
def f__law_is_sum : FnI := ⟨"_law_is_sum", ["thing"], [], m__law_is_sum⟩
/-- _law_is_way -/
def N__law_is_way : List Str := ["thing", "one", "literal", "weight"]
def u__law_is_way_0 : PX.B := .cons (.ret (.bl false)) .nil
def u__law_is_way_1 : PX.B := .cons (.ret (.and (.cons (.cmp .inn (.ix (.var 0) (.int 0)) (.tup (.cons (.str "set") (.cons (.str "cut") .nil)))) (.cons (.call false f__law_int (.cons (.ix (.var 0) (.int 1)) (.cons (.int 0) (.cons (.bin .pow (.int 10) (.int 60)) .nil)))) .nil)))) .nil
def u__law_is_way_2 : PX.B := .cons (.ret (.bl false)) .nil
def u__law_is_way_3 : PX.B := .cons (.ret (.and (.cons (.call false f__law_int (.cons (.ix (.var 0) (.int 2)) (.cons (.int 0) (.cons (.bin .pow (.int 10) (.int 60)) .nil)))) (.cons (.cmp .ne (.bin .fdiv (.ix (.var 0) (.int 2)) (.int 2)) (.ix (.var 0) (.int 1))) .nil)))) .nil
def u__law_is_way_4 : PX.B := .cons (.ret (.bl false)) .nil
def e__law_is_way_5 : E := .lc [2, 3] false (.tup [2, 3]) (.seq (.ix (.var 1) (.int 0))) .none (.var 2)
def e__law_is_way_6 : E := .lc [1] false (.name 1) (.seq (.ix (.var 0) (.int 2))) (.some (.or (.cons (.not (.call false f__law_is_sum (.cons (.var 1) .nil))) (.cons (.cmp .notIn (.ix (.var 0) (.int 1)) (e__law_is_way_5)) .nil)))) (.var 1)
def t__law_is_way_7 : PX.S := .ite (.or (.cons (.not (.isi (.var 0) .tuple)) (.cons (.not (.chain .le .le (.int 2) (.bi .len (.cons (.var 0) .nil)) (.int 3))) (.cons (.not (.isi (.ix (.var 0) (.int 0)) .str)) .nil)))) (u__law_is_way_0) (.nil)
def t__law_is_way_8 : PX.S := .ite (.cmp .eq (.bi .len (.cons (.var 0) .nil)) (.int 2)) (u__law_is_way_1) (.nil)
def t__law_is_way_9 : PX.S := .ite (.not (.call false f__law_int (.cons (.ix (.var 0) (.int 1)) (.cons (.int 0) (.cons (.bin .pow (.int 10) (.int 60)) .nil))))) (u__law_is_way_2) (.nil)
def t__law_is_way_10 : PX.S := .ite (.cmp .eq (.ix (.var 0) (.int 0)) (.str "like")) (u__law_is_way_3) (.nil)
def t__law_is_way_11 : PX.S := .ite (.or (.cons (.cmp .ne (.ix (.var 0) (.int 0)) (.str "save")) (.cons (.not (.isi (.ix (.var 0) (.int 2)) .tuple)) .nil))) (u__law_is_way_4) (.nil)
def t__law_is_way_12 : PX.S := .ret (.cmp .eq (e__law_is_way_6) (.lst (.nil)))
def b__law_is_way : PX.B := .cons (t__law_is_way_7) (.cons (t__law_is_way_8) (.cons (t__law_is_way_9) (.cons (t__law_is_way_10) (.cons (t__law_is_way_11) (.cons (t__law_is_way_12) .nil)))))
def m__law_is_way (S : Store) (ds : List D) : R D := runB (0) 4 b__law_is_way S ds
def f__law_is_way : FnI := ⟨"_law_is_way", ["thing"], [], m__law_is_way⟩
/-- _law_wanted -/
def N__law_wanted : List Str := ["ways", "found", "way", "terms", "degree", "literal", "weight"]
def u__law_wanted_0 : PX.B := .cons (.expr (.meth .append (.var 1) (.cons (.ite (.cmp .eq (.ix (.var 2) (.int 0)) (.str "like")) (.ix (.var 2) (.int 1)) (.bin .fdiv (.ix (.var 2) (.int 1)) (.int 2))) .nil))) .nil
def u__law_wanted_1 : PX.B := .cons (.expr (.meth .append (.var 1) (.cons (.bin .fdiv (.ix (.var 2) (.int 2)) (.int 2)) .nil))) .nil
def e__law_wanted_2 : E := .lc [5, 6] false (.tup [5, 6]) (.seq (.var 3)) .none (.bin .fdiv (.var 5) (.int 2))
def u__law_wanted_3 : PX.B := .cons (.expr (.meth .extend (.var 1) (.cons (e__law_wanted_2) .nil))) .nil
def u__law_wanted_4 : PX.B := .cons (.for_ (.tup [3, 4]) (.seq (.ix (.var 2) (.int 2))) (u__law_wanted_3)) .nil
def u__law_wanted_5 : PX.B := .cons (.ite (.cmp .ne (.ix (.var 2) (.int 0)) (.str "cut")) (u__law_wanted_0) (.nil)) (.cons (.ite (.cmp .eq (.ix (.var 2) (.int 0)) (.str "like")) (u__law_wanted_1) (.nil)) (.cons (.ite (.cmp .eq (.ix (.var 2) (.int 0)) (.str "save")) (u__law_wanted_4) (.nil)) .nil))
def t__law_wanted_6 : PX.S := .asg (.name 1) (.new (.cons (.neg (.int 1)) .nil))
def t__law_wanted_7 : PX.S := .for_ (.name 2) (.seq (.var 0)) (u__law_wanted_5)
def t__law_wanted_8 : PX.S := .ret (.bin .add (.bi .maxL (.cons (.var 1) .nil)) (.int 1))
def b__law_wanted : PX.B := .cons (t__law_wanted_6) (.cons (t__law_wanted_7) (.cons (t__law_wanted_8) .nil))
def m__law_wanted (S : Store) (ds : List D) : R D := runB (0) 7 b__law_wanted S ds
def f__law_wanted : FnI := ⟨"_law_wanted", ["ways"], [], m__law_wanted⟩
/-- _law_refused -/
def N__law_refused : List Str := ["which", "problem", "ways", "values", "word", "told"]
def u__law_refused_0 : PX.B := .cons (.asg (.name 5) (.ite (.cmp .eq (.var 0) (.int 0)) (.callk false f_taken_back (.nil) ["values", "ways", "problem"] (.cons (.var 3) (.cons (.var 2) (.cons (.var 1) .nil)))) (.callk false f_gone (.nil) ["ways"] (.cons (.var 2) .nil)))) .nil
def t__law_refused_1 : PX.S := .asg (.name 4) (.str "told")
def t__law_refused_2 : PX.S := .try_ (u__law_refused_0) ["BadProblem", "BadValues", "BadWays"] [("BadProblem", ["BadProblem"], 4, "problem"), ("BadWays", ["BadWays"], 4, "ways"), ("BadValues", ["BadValues"], 4, "values")]
def t__law_refused_3 : PX.S := .ret (.var 4)
def b__law_refused : PX.B := .cons (t__law_refused_1) (.cons (t__law_refused_2) (.cons (t__law_refused_3) .nil))
def m__law_refused (S : Store) (ds : List D) : R D := runB (0) 6 b__law_refused S ds
def f__law_refused : FnI := ⟨"_law_refused", ["which", "problem", "ways", "values"], [], m__law_refused⟩
/-- law -/
def N_law : List Str := ["script", "deck", "turn", "most", "many", "ways", "problem", "wanted", "values", "one", "near", "thing", "odd", "none", "words", "v"]
def e_law_0 : E := .lc [15] false (.name 15) (.rng1 (.bin .add (.var 7) (.call true f__law_pick (.cons (.var 1) (.cons (.int 3) .nil))))) .none (.call true f__law_pick (.cons (.var 1) (.cons (.int 2) .nil)))
def u_law_1 : PX.B := .cons (.ret (.bl false)) .nil
def u_law_2 : PX.B := .cons (.ret (.bl false)) .nil
def u_law_3 : PX.B := .cons (.ret (.bl false)) .nil
def u_law_4 : PX.B := .cons (.ite (.not (.call false f__law_same (.cons (.callk false f_are_ways (.nil) ["thing"] (.cons (.bin .add (.var 5) (.tup (.cons (.var 11) .nil))) .nil)) (.cons (.call false f__law_is_way (.cons (.var 11) .nil)) .nil)))) (u_law_3) (.nil)) .nil
def e_law_5 : E := .lc [11] false (.name 11) (.seq (.tup (.cons (.non) (.cons (.bin .add (.bi .list (.cons (.var 5) .nil)) (.lst (.cons (.int 0) .nil))) (.cons (.str "ways") (.cons (.int 0) .nil)))))) (.some (.cmp .isNot (.call false f_are_ways (.cons (.var 11) .nil)) (.bl false))) (.var 11)
def u_law_6 : PX.B := .cons (.ret (.bl false)) .nil
def u_law_7 : PX.B := .cons (.ret (.bl false)) .nil
def u_law_8 : PX.B := .cons (.par2 3 4 (.ix (.lst (.cons (.int 3) (.cons (.int 8) (.cons (.int 60) (.cons (.int 75) .nil))))) (.call true f__law_pick (.cons (.var 1) (.cons (.int 4) .nil)))) (.ix (.lst (.cons (.int 1) (.cons (.int 3) (.cons (.int 60) .nil)))) (.call true f__law_pick (.cons (.var 1) (.cons (.int 3) .nil))))) (.cons (.par2 5 6 (.call true f__law_ways (.cons (.var 1) (.cons (.var 3) .nil))) (.tup (.cons (.var 4) (.cons (.tup (.nil)) (.cons (.non) .nil))))) (.cons (.asg (.name 7) (.bi .max2 (.cons (.var 4) (.cons (.call false f__law_wanted (.cons (.var 5) .nil)) .nil)))) (.cons (.asg (.name 8) (.bi .tuple (.cons (e_law_0) .nil))) (.cons (.ite (.not (.call false f__law_same (.cons (.callk false f_taken_back (.nil) ["problem", "ways", "values"] (.cons (.var 6) (.cons (.var 5) (.cons (.var 8) .nil)))) (.cons (.call false f__law_back (.cons (.var 5) (.cons (.var 8) (.cons (.var 4) .nil)))) .nil)))) (u_law_1) (.nil)) (.cons (.ite (.not (.call false f__law_same (.cons (.callk false f_gone (.nil) ["ways"] (.cons (.var 5) .nil)) (.cons (.bi .tuple (.cons (.call false f__law_gone (.cons (.var 5) .nil)) .nil)) .nil)))) (u_law_2) (.nil)) (.cons (.asg (.name 9) (.tup (.cons (.tup (.cons (.tup (.cons (.int 0) (.cons (.int 1) .nil))) .nil)) (.cons (.int 1) .nil)))) (.cons (.asg (.name 10) (.lst (.cons (.tup (.cons (.str "set") (.cons (.neg (.int 1)) .nil))) (.cons (.tup (.cons (.str "set") (.cons (.bl true) .nil))) (.cons (.tup (.cons (.str "set") (.cons (.int 0) (.cons (.int 0) .nil)))) (.cons (.lst (.cons (.str "set") (.cons (.int 0) .nil))) (.cons (.tup (.cons (.str "like") (.cons (.int 1) (.cons (.int 2) .nil)))) (.cons (.tup (.cons (.str "like") (.cons (.int 1) (.cons (.int 3) .nil)))) (.cons (.tup (.cons (.str "like") (.cons (.int 1) (.cons (.int 0) .nil)))) (.cons (.tup (.cons (.str "like") (.cons (.int 1) .nil))) (.cons (.tup (.cons (.str "like") (.cons (.neg (.int 1)) (.cons (.int 0) .nil)))) .nil))))))))))) (.cons (.asg (.name 10) (.bin .add (.var 10) (.lst (.cons (.tup (.cons (.str "cut") (.cons (.neg (.int 1)) .nil))) (.cons (.tup (.cons (.str "cut") (.cons (.int 0) .nil))) (.cons (.tup (.cons (.str "cut") (.cons (.non) .nil))) (.cons (.tup (.cons (.str "put") (.cons (.int 0) .nil))) (.cons (.tup (.cons (.str "save") (.cons (.int 0) .nil))) (.cons (.tup (.cons (.str "save") (.cons (.int 0) (.cons (.tup (.nil)) .nil)))) (.cons (.tup (.cons (.str "save") (.cons (.int 0) (.cons (.tup (.cons (.var 9) .nil)) .nil)))) (.cons (.tup (.cons (.str "save") (.cons (.int 1) (.cons (.tup (.cons (.var 9) .nil)) .nil)))) .nil))))))))))) (.cons (.asg (.name 10) (.bin .add (.var 10) (.lst (.cons (.tup (.cons (.str "save") (.cons (.int 0) (.cons (.lst (.cons (.var 9) .nil)) .nil)))) (.cons (.tup (.cons (.str "save") (.cons (.int 0) (.cons (.tup (.cons (.var 9) (.cons (.tup (.cons (.tup (.nil)) (.cons (.int 1) .nil))) .nil))) .nil)))) (.cons (.tup (.cons (.str "save") (.cons (.int 2) (.cons (.tup (.cons (.tup (.cons (.tup (.cons (.tup (.cons (.int 0) (.cons (.int 1) .nil))) (.cons (.tup (.cons (.int 2) (.cons (.int 3) .nil))) .nil))) (.cons (.neg (.int 4)) .nil))) .nil)) .nil)))) (.cons (.non) (.cons (.str "set") (.cons (.tup (.nil)) .nil))))))))) (.cons (.for_ (.name 11) (.seq (.var 10)) (u_law_4)) (.cons (.ite (.or (.cons (.cmp .isNot (.call false f_are_ways (.cons (.var 5) .nil)) (.bl true)) (.cons (.cmp .ne (e_law_5) (.lst (.nil))) .nil))) (u_law_6) (.nil)) (.cons (.asg (.name 12) (.ix (.lst (.cons (.bi .list (.cons (.var 5) .nil)) (.cons (.bin .add (.var 5) (.tup (.cons (.non) .nil))) (.cons (.bin .add (.var 5) (.tup (.cons (.tup (.cons (.str "set") (.cons (.neg (.int 1)) .nil))) .nil))) (.cons (.non) .nil))))) (.call true f__law_pick (.cons (.var 1) (.cons (.int 4) .nil))))) (.cons (.asg (.name 13) (.ix (.lst (.cons (.non) (.cons (.sl (.var 8) .none (.some (.bin .sub (.var 7) (.int 1)))) (.cons (.bi .list (.cons (.var 8) .nil)) (.cons (.bin .add (.sl (.var 8) .none (.some (.neg (.int 1)))) (.tup (.cons (.int 2) .nil))) .nil))))) (.call true f__law_pick (.cons (.var 1) (.cons (.int 4) .nil))))) (.cons (.asg (.name 14) (.lst (.cons (.call false f__law_refused (.cons (.int 0) (.cons (.non) (.cons (.var 12) (.cons (.var 13) .nil))))) (.cons (.call false f__law_refused (.cons (.int 0) (.cons (.var 6) (.cons (.var 12) (.cons (.var 13) .nil))))) (.cons (.call false f__law_refused (.cons (.int 0) (.cons (.var 6) (.cons (.var 5) (.cons (.var 13) .nil))))) (.cons (.call false f__law_refused (.cons (.int 1) (.cons (.non) (.cons (.var 12) (.cons (.non) .nil))))) .nil)))))) (.cons (.ite (.cmp .ne (.var 14) (.lst (.cons (.str "problem") (.cons (.str "ways") (.cons (.str "values") (.cons (.str "ways") .nil)))))) (u_law_7) (.nil)) .nil)))))))))))))))
def t_law_9 : PX.S := .asg (.name 1) (.call true f__law_deck (.cons (.var 0) .nil))
def t_law_10 : PX.S := .for_ (.name 2) (.rng1 (.bin .add (.int 3) (.bi .min2 (.cons (.bi .len (.cons (.var 0) .nil)) (.cons (.int 5) .nil))))) (u_law_8)
def t_law_11 : PX.S := .ret (.bl true)
def b_law : PX.B := .cons (t_law_9) (.cons (t_law_10) (.cons (t_law_11) .nil))
def m_law (S : Store) (ds : List D) : R D := runB (0) 16 b_law S ds
def f_law : FnI := ⟨"law", ["script"], [], m_law⟩
end LW

/-! the checks, printed by gen.py -/
namespace LW
open PySem L2 PX
abbrev s_is_int : Stmt := top 6
theorem sc_is_int : FnScope N_is_int f_is_int.ps (defScope s_is_int) := ⟨rfl, rfl, rfl, by decide +kernel, rfl, by decide +kernel, by decide +kernel⟩
theorem ck_is_int : chkB ⟨N_is_int, defScope s_is_int, fun _ => true⟩ b_is_int (defBody s_is_int) = true := by decide +kernel
abbrev s_is_index : Stmt := top 8
theorem sc_is_index : FnScope N_is_index f_is_index.ps (defScope s_is_index) := ⟨rfl, rfl, rfl, by decide +kernel, rfl, by decide +kernel, by decide +kernel⟩
theorem ck_is_index : chkB ⟨N_is_index, defScope s_is_index, fun _ => true⟩ b_is_index (defBody s_is_index) = true := by decide +kernel
abbrev s_is_row : Stmt := top 9
theorem sc_is_row : FnScope N_is_row f_is_row.ps (defScope s_is_row) := ⟨rfl, rfl, rfl, by decide +kernel, rfl, by decide +kernel, by decide +kernel⟩
theorem ck_is_row : chkB ⟨N_is_row, defScope s_is_row, fun _ => true⟩ b_is_row (defBody s_is_row) = true := by decide +kernel
abbrev s_is_term : Stmt := top 13
theorem sc_is_term : FnScope N_is_term f_is_term.ps (defScope s_is_term) := ⟨rfl, rfl, rfl, by decide +kernel, rfl, by decide +kernel, by decide +kernel⟩
theorem ck_is_term : chkB ⟨N_is_term, defScope s_is_term, fun _ => true⟩ b_is_term (defBody s_is_term) = true := by decide +kernel
abbrev s_are_terms : Stmt := top 14
theorem sc_are_terms : FnScope N_are_terms f_are_terms.ps (defScope s_are_terms) := ⟨rfl, rfl, rfl, by decide +kernel, rfl, by decide +kernel, by decide +kernel⟩
theorem ck_are_terms : chkB ⟨N_are_terms, defScope s_are_terms, fun _ => true⟩ b_are_terms (defBody s_are_terms) = true := by decide +kernel
abbrev s_is_sum : Stmt := top 15
theorem sc_is_sum : FnScope N_is_sum f_is_sum.ps (defScope s_is_sum) := ⟨rfl, rfl, rfl, by decide +kernel, rfl, by decide +kernel, by decide +kernel⟩
theorem ck_is_sum : chkB ⟨N_is_sum, defScope s_is_sum, fun _ => true⟩ b_is_sum (defBody s_is_sum) = true := by decide +kernel
abbrev s_literals_of : Stmt := top 18
theorem sc_literals_of : FnScope N_literals_of f_literals_of.ps (defScope s_literals_of) := ⟨rfl, rfl, rfl, by decide +kernel, rfl, by decide +kernel, by decide +kernel⟩
theorem ck_literals_of : chkB ⟨N_literals_of, defScope s_literals_of, fun _ => true⟩ b_literals_of (defBody s_literals_of) = true := by decide +kernel
abbrev s_is_way : Stmt := top 31
theorem sc_is_way : FnScope N_is_way f_is_way.ps (defScope s_is_way) := ⟨rfl, rfl, rfl, by decide +kernel, rfl, by decide +kernel, by decide +kernel⟩
theorem ck_is_way : chkB ⟨N_is_way, defScope s_is_way, fun _ => true⟩ b_is_way (defBody s_is_way) = true := by decide +kernel
abbrev s_are_ways : Stmt := top 32
theorem sc_are_ways : FnScope N_are_ways f_are_ways.ps (defScope s_are_ways) := ⟨rfl, rfl, rfl, by decide +kernel, rfl, by decide +kernel, by decide +kernel⟩
theorem ck_are_ways : chkB ⟨N_are_ways, defScope s_are_ways, fun _ => true⟩ b_are_ways (defBody s_are_ways) = true := by decide +kernel
abbrev s_within : Stmt := top 7
theorem sc_within : FnScope N_within f_within.ps (defScope s_within) := ⟨rfl, rfl, rfl, by decide +kernel, rfl, by decide +kernel, by decide +kernel⟩
theorem ck_within : chkB ⟨N_within, defScope s_within, fun _ => true⟩ b_within (defBody s_within) = true := by decide +kernel
abbrev s_are_bits : Stmt := top 10
theorem sc_are_bits : FnScope N_are_bits f_are_bits.ps (defScope s_are_bits) := ⟨rfl, rfl, rfl, by decide +kernel, rfl, by decide +kernel, by decide +kernel⟩
theorem ck_are_bits : chkB ⟨N_are_bits, defScope s_are_bits, fun _ => true⟩ b_are_bits (defBody s_are_bits) = true := by decide +kernel
abbrev s_is_price : Stmt := top 23
theorem sc_is_price : FnScope N_is_price f_is_price.ps (defScope s_is_price) := ⟨rfl, rfl, rfl, by decide +kernel, rfl, by decide +kernel, by decide +kernel⟩
theorem ck_is_price : chkB ⟨N_is_price, defScope s_is_price, fun _ => true⟩ b_is_price (defBody s_is_price) = true := by decide +kernel
abbrev s_are_small_terms : Stmt := top 24
theorem sc_are_small_terms : FnScope N_are_small_terms f_are_small_terms.ps (defScope s_are_small_terms) := ⟨rfl, rfl, rfl, by decide +kernel, rfl, by decide +kernel, by decide +kernel⟩
theorem ck_are_small_terms : chkB ⟨N_are_small_terms, defScope s_are_small_terms, fun _ => true⟩ b_are_small_terms (defBody s_are_small_terms) = true := by decide +kernel
abbrev s_is_small_price : Stmt := top 26
theorem sc_is_small_price : FnScope N_is_small_price f_is_small_price.ps (defScope s_is_small_price) := ⟨rfl, rfl, rfl, by decide +kernel, rfl, by decide +kernel, by decide +kernel⟩
theorem ck_is_small_price : chkB ⟨N_is_small_price, defScope s_is_small_price, fun _ => true⟩ b_is_small_price (defBody s_is_small_price) = true := by decide +kernel
abbrev s_is_small_sum : Stmt := top 25
theorem sc_is_small_sum : FnScope N_is_small_sum f_is_small_sum.ps (defScope s_is_small_sum) := ⟨rfl, rfl, rfl, by decide +kernel, rfl, by decide +kernel, by decide +kernel⟩
theorem ck_is_small_sum : chkB ⟨N_is_small_sum, defScope s_is_small_sum, fun _ => true⟩ b_is_small_sum (defBody s_is_small_sum) = true := by decide +kernel
abbrev s_are_small_sums : Stmt := top 27
theorem sc_are_small_sums : FnScope N_are_small_sums f_are_small_sums.ps (defScope s_are_small_sums) := ⟨rfl, rfl, rfl, by decide +kernel, rfl, by decide +kernel, by decide +kernel⟩
theorem ck_are_small_sums : chkB ⟨N_are_small_sums, defScope s_are_small_sums, fun _ => true⟩ b_are_small_sums (defBody s_are_small_sums) = true := by decide +kernel
abbrev s_is_problem : Stmt := top 28
theorem sc_is_problem : FnScope N_is_problem f_is_problem.ps (defScope s_is_problem) := ⟨rfl, rfl, rfl, by decide +kernel, rfl, by decide +kernel, by decide +kernel⟩
theorem ck_is_problem : chkB ⟨N_is_problem, defScope s_is_problem, fun _ => true⟩ b_is_problem (defBody s_is_problem) = true := by decide +kernel
abbrev s_need_problem : Stmt := top 29
theorem sc_need_problem : FnScope N_need_problem f_need_problem.ps (defScope s_need_problem) := ⟨rfl, rfl, rfl, by decide +kernel, rfl, by decide +kernel, by decide +kernel⟩
theorem ck_need_problem : chkB ⟨N_need_problem, defScope s_need_problem, fun _ => true⟩ b_need_problem (defBody s_need_problem) = true := by decide +kernel
abbrev s_is_true : Stmt := top 12
theorem sc_is_true : FnScope N_is_true f_is_true.ps (defScope s_is_true) := ⟨rfl, rfl, rfl, by decide +kernel, rfl, by decide +kernel, by decide +kernel⟩
theorem ck_is_true : chkB ⟨N_is_true, defScope s_is_true, fun _ => true⟩ b_is_true (defBody s_is_true) = true := by decide +kernel
abbrev s_worth : Stmt := top 16
theorem sc_worth : FnScope N_worth f_worth.ps (defScope s_worth) := ⟨rfl, rfl, rfl, by decide +kernel, rfl, by decide +kernel, by decide +kernel⟩
theorem ck_worth : chkB ⟨N_worth, defScope s_worth, fun _ => true⟩ b_worth (defBody s_worth) = true := by decide +kernel
abbrev s_keeps : Stmt := top 17
theorem sc_keeps : FnScope N_keeps f_keeps.ps (defScope s_keeps) := ⟨rfl, rfl, rfl, by decide +kernel, rfl, by decide +kernel, by decide +kernel⟩
theorem ck_keeps : chkB ⟨N_keeps, defScope s_keeps, fun _ => true⟩ b_keeps (defBody s_keeps) = true := by decide +kernel
abbrev s_put_true : Stmt := top 33
theorem sc_put_true : FnScope N_put_true f_put_true.ps (defScope s_put_true) := ⟨rfl, rfl, rfl, by decide +kernel, rfl, by decide +kernel, by decide +kernel⟩
theorem ck_put_true : chkB ⟨N_put_true, defScope s_put_true, fun _ => true⟩ b_put_true (defBody s_put_true) = true := by decide +kernel
abbrev s_go_back : Stmt := top 34
theorem sc_go_back : FnScope N_go_back f_go_back.ps (defScope s_go_back) := ⟨rfl, rfl, rfl, by decide +kernel, rfl, by decide +kernel, by decide +kernel⟩
theorem ck_go_back : chkB ⟨N_go_back, defScope s_go_back, fun _ => true⟩ b_go_back (defBody s_go_back) = true := by decide +kernel
abbrev s_gone_back : Stmt := top 35
theorem sc_gone_back : FnScope N_gone_back f_gone_back.ps (defScope s_gone_back) := ⟨rfl, rfl, rfl, by decide +kernel, rfl, by decide +kernel, by decide +kernel⟩
theorem ck_gone_back : chkB ⟨N_gone_back, defScope s_gone_back, fun _ => true⟩ b_gone_back (defBody s_gone_back) = true := by decide +kernel
abbrev s_highest : Stmt := top 36
theorem sc_highest : FnScope N_highest f_highest.ps (defScope s_highest) := ⟨rfl, rfl, rfl, by decide +kernel, rfl, by decide +kernel, by decide +kernel⟩
theorem ck_highest : chkB ⟨N_highest, defScope s_highest, fun _ => true⟩ b_highest (defBody s_highest) = true := by decide +kernel
abbrev s_need_ways : Stmt := top 38
theorem sc_need_ways : FnScope N_need_ways f_need_ways.ps (defScope s_need_ways) := ⟨rfl, rfl, rfl, by decide +kernel, rfl, by decide +kernel, by decide +kernel⟩
theorem ck_need_ways : chkB ⟨N_need_ways, defScope s_need_ways, fun _ => true⟩ b_need_ways (defBody s_need_ways) = true := by decide +kernel
abbrev s_taken_back : Stmt := top 39
theorem sc_taken_back : FnScope N_taken_back f_taken_back.ps (defScope s_taken_back) := ⟨rfl, rfl, rfl, by decide +kernel, rfl, by decide +kernel, by decide +kernel⟩
theorem ck_taken_back : chkB ⟨N_taken_back, defScope s_taken_back, fun _ => true⟩ b_taken_back (defBody s_taken_back) = true := by decide +kernel
abbrev s_gone_variables : Stmt := top 37
theorem sc_gone_variables : FnScope N_gone_variables f_gone_variables.ps (defScope s_gone_variables) := ⟨rfl, rfl, rfl, by decide +kernel, rfl, by decide +kernel, by decide +kernel⟩
theorem ck_gone_variables : chkB ⟨N_gone_variables, defScope s_gone_variables, fun _ => true⟩ b_gone_variables (defBody s_gone_variables) = true := by decide +kernel
abbrev s_gone : Stmt := top 40
theorem sc_gone : FnScope N_gone f_gone.ps (defScope s_gone) := ⟨rfl, rfl, rfl, by decide +kernel, rfl, by decide +kernel, by decide +kernel⟩
theorem ck_gone : chkB ⟨N_gone, defScope s_gone, fun _ => true⟩ b_gone (defBody s_gone) = true := by decide +kernel
abbrev s__law_deck : Stmt := top 42
theorem sc__law_deck : FnScope N__law_deck f__law_deck.ps (defScope s__law_deck) := ⟨rfl, rfl, rfl, by decide +kernel, rfl, by decide +kernel, by decide +kernel⟩
theorem ck__law_deck : chkB ⟨N__law_deck, defScope s__law_deck, fun _ => true⟩ b__law_deck (defBody s__law_deck) = true := by decide +kernel
abbrev s__law_pick : Stmt := top 43
theorem sc__law_pick : FnScope N__law_pick f__law_pick.ps (defScope s__law_pick) := ⟨rfl, rfl, rfl, by decide +kernel, rfl, by decide +kernel, by decide +kernel⟩
theorem ck__law_pick : chkB ⟨N__law_pick, defScope s__law_pick, fun _ => true⟩ b__law_pick (defBody s__law_pick) = true := by decide +kernel
abbrev s__law_same : Stmt := top 44
theorem sc__law_same : FnScope N__law_same f__law_same.ps (defScope s__law_same) := ⟨rfl, rfl, rfl, by decide +kernel, rfl, by decide +kernel, by decide +kernel⟩
theorem ck__law_same : chkB ⟨N__law_same, defScope s__law_same, fun _ => true⟩ b__law_same (defBody s__law_same) = true := by decide +kernel
abbrev s__law_back : Stmt := top 47
theorem sc__law_back : FnScope N__law_back f__law_back.ps (defScope s__law_back) := ⟨rfl, rfl, rfl, by decide +kernel, rfl, by decide +kernel, by decide +kernel⟩
theorem ck__law_back : chkB ⟨N__law_back, defScope s__law_back, fun _ => true⟩ b__law_back (defBody s__law_back) = true := by decide +kernel
abbrev s__law_gone : Stmt := top 48
theorem sc__law_gone : FnScope N__law_gone f__law_gone.ps (defScope s__law_gone) := ⟨rfl, rfl, rfl, by decide +kernel, rfl, by decide +kernel, by decide +kernel⟩
theorem ck__law_gone : chkB ⟨N__law_gone, defScope s__law_gone, fun _ => true⟩ b__law_gone (defBody s__law_gone) = true := by decide +kernel
abbrev s__law_save : Stmt := top 49
theorem sc__law_save : FnScope N__law_save f__law_save.ps (defScope s__law_save) := ⟨rfl, rfl, rfl, by decide +kernel, rfl, by decide +kernel, by decide +kernel⟩
theorem ck__law_save : chkB ⟨N__law_save, defScope s__law_save, fun _ => true⟩ b__law_save (defBody s__law_save) = true := by decide +kernel
abbrev s__law_ways : Stmt := top 50
theorem sc__law_ways : FnScope N__law_ways f__law_ways.ps (defScope s__law_ways) := ⟨rfl, rfl, rfl, by decide +kernel, rfl, by decide +kernel, by decide +kernel⟩
theorem ck__law_ways : chkB ⟨N__law_ways, defScope s__law_ways, fun _ => true⟩ b__law_ways (defBody s__law_ways) = true := by decide +kernel
abbrev s__law_int : Stmt := top 45
theorem sc__law_int : FnScope N__law_int f__law_int.ps (defScope s__law_int) := ⟨rfl, rfl, rfl, by decide +kernel, rfl, by decide +kernel, by decide +kernel⟩
theorem ck__law_int : chkB ⟨N__law_int, defScope s__law_int, fun _ => true⟩ b__law_int (defBody s__law_int) = true := by decide +kernel
abbrev s__law_is_sum : Stmt := top 46
theorem sc__law_is_sum : FnScope N__law_is_sum f__law_is_sum.ps (defScope s__law_is_sum) := ⟨rfl, rfl, rfl, by decide +kernel, rfl, by decide +kernel, by decide +kernel⟩
theorem ck__law_is_sum : chkB ⟨N__law_is_sum, defScope s__law_is_sum, fun _ => true⟩ b__law_is_sum (defBody s__law_is_sum) = true := by decide +kernel
abbrev s__law_is_way : Stmt := top 51
theorem sc__law_is_way : FnScope N__law_is_way f__law_is_way.ps (defScope s__law_is_way) := ⟨rfl, rfl, rfl, by decide +kernel, rfl, by decide +kernel, by decide +kernel⟩
theorem ck__law_is_way : chkB ⟨N__law_is_way, defScope s__law_is_way, fun _ => true⟩ b__law_is_way (defBody s__law_is_way) = true := by decide +kernel
abbrev s__law_wanted : Stmt := top 52
theorem sc__law_wanted : FnScope N__law_wanted f__law_wanted.ps (defScope s__law_wanted) := ⟨rfl, rfl, rfl, by decide +kernel, rfl, by decide +kernel, by decide +kernel⟩
theorem ck__law_wanted : chkB ⟨N__law_wanted, defScope s__law_wanted, fun _ => true⟩ b__law_wanted (defBody s__law_wanted) = true := by decide +kernel
abbrev s__law_refused : Stmt := top 53
theorem sc__law_refused : FnScope N__law_refused f__law_refused.ps (defScope s__law_refused) := ⟨rfl, rfl, rfl, by decide +kernel, rfl, by decide +kernel, by decide +kernel⟩
theorem ck__law_refused : chkB ⟨N__law_refused, defScope s__law_refused, fun _ => true⟩ b__law_refused (defBody s__law_refused) = true := by decide +kernel
abbrev s_law : Stmt := top 54
theorem sc_law : FnScope N_law f_law.ps (defScope s_law) := ⟨rfl, rfl, rfl, by decide +kernel, rfl, by decide +kernel, by decide +kernel⟩
theorem ck_law : chkB ⟨N_law, defScope s_law, fun _ => true⟩ b_law (defBody s_law) = true := by decide +kernel
end LW

namespace LW
open PX
variable {S : Store}
@[simp] theorem c_is_int (d : D) (hd : d.free = true) (S : Store) : callV false f_is_int [d] S = .ok (.bl d.isI) S :=
  callV_ok S (S0 := []) (by cases d <;> first | rfl | simp at hd) rfl (by simp [hd]) rfl

theorem c_is_row (d : D) (hd : d.free = true) (lo hi : Int) (S : Store) : callV false f_is_row [d, .int lo, .int hi] S = .ok (.bl (rowB d lo hi)) S := by
  refine callV_ok S (S0 := []) ?_ rfl (by simp [hd]) rfl
  show m_is_row [] _ = _
  cases d with
  | tup xs =>
    unfold m_is_row runB b_is_row
    simp [eb_cons, ev_v, rowB]
    by_cases h1 : lo ≤ xs.length <;> by_cases h2 : (xs.length : Int) ≤ hi <;> simp [h1, h2]
  | kup xs =>
    unfold m_is_row runB b_is_row
    simp [eb_cons, ev_v, rowB]
    by_cases h1 : lo ≤ xs.length <;> by_cases h2 : (xs.length : Int) ≤ hi <;> simp [h1, h2]
  | adr => simp at hd
  | _ => rfl

theorem c_is_index (d : D) (hd : d.free = true) (S : Store) : callV false f_is_index [d] S = .ok (.bl (fromB 0 d)) S := by
  refine callV_ok S (S0 := []) ?_ rfl (by simp [hd]) rfl
  show m_is_index [] _ = _
  unfold m_is_index runB b_is_index
  cases d <;> simp [eb_cons, ev_v, D.isI, fromB] at hd ⊢ <;> simp [hd, D.isI]

theorem c_within (d : D) (hd : d.free = true) (lo hi : Int) (S : Store) : callV false f_within [d, .int lo, .int hi] S = .ok (.bl (withinB d lo hi)) S := by
  refine callV_ok S (S0 := []) ?_ rfl (by simp [hd]) rfl
  show m_within [] _ = _
  unfold m_within runB b_within
  cases d with
  | int i => by_cases h1 : lo ≤ i <;> by_cases h2 : i ≤ hi <;> simp [eb_cons, ev_v, withinB, h1, h2]
  | adr => simp at hd
  | _ => simp at hd; simp [eb_cons, ev_v, withinB, hd, D.isI]

theorem c_is_term (d : D) (hg : d.good = true) (S : Store) : callV false f_is_term [d] S = .ok (.bl (termD d)) S := by
  have hd := D.good.free hg
  refine callV_ok S (S0 := []) ?_ rfl (by simp [hd]) rfl
  show m_is_term [] _ = _
  unfold m_is_term runB b_is_term
  have hr := fun S => c_is_row d hd 2 2 S
  cases d with
  | tup xs =>
    rcases xs with _ | ⟨a, _ | ⟨b, _ | ⟨c, r⟩⟩⟩
    · simp [eb_cons, ev_v, hr, rowB, termD]
    · simp [eb_cons, ev_v, hr, rowB, termD]
    · simp at hd
      simp only [rowB, List.length_cons, List.length_nil] at hr
      simp [eb_cons, ev_v, hr, c_is_index _ hd.1, hd.1, hd.2, termD]
      cases h1 : fromB 0 a with
      | false => simp
      | true => cases b <;> simp [D.isI, fromB] at hd ⊢
    · have : rowB (.tup (a :: b :: c :: r)) 2 2 = false := by simp [rowB]; omega
      simp [eb_cons, ev_v, hr, this, termD]
  | kup xs => simp [D.good] at hg
  | adr => simp at hd
  | _ => simp [eb_cons, ev_v, hr, rowB, termD]

theorem c_are_terms (d : D) (hg : d.good = true) (S : Store) : callV false f_are_terms [d] S = .ok (.bl (termsD d)) S := by
  have hd := D.good.free hg
  refine callV_ok S (S0 := []) ?_ rfl (by simp [hd]) rfl
  show m_are_terms [] _ = _
  unfold m_are_terms runB b_are_terms
  cases d with
  | tup xs =>
    obtain ⟨hl, hgs⟩ := good_tup hg
    have e1 : evE e_are_terms_0 [some (D.tup xs), none, none, none, none, none, none] [] = .ok (.lst (xs.map fun d => D.bl (termD d))) [] := by
      unfold e_are_terms_0
      exact ev_lcA (enc := id) (g := []) (by simp [eb_cons, ev_v]) rfl (sz100000 hl) fun x hx => ⟨_, rfl, by simp [eb_cons, ev_v, c_is_term _ (goods_iff.mp hgs x hx)]⟩
    have a1 : (xs.map termD).all id = xs.all termD := by rw [List.all_map]; rfl
    unfold t_are_terms_4 u_are_terms_1 t_are_terms_5 t_are_terms_6
    cases ht : xs.all termD with
    | false => simp [eb_cons, ev_v, e1, all_lst (asBls_map' _ _), a1, ht, -List.all_map, -List.all_eq_true, termsD_not ht]
    | true =>
      obtain ⟨ts, rfl, ht2⟩ := terms_inv ht
      have hm : (ts.map fun t => D.int (t.1 / 2)) = (ts.map fun t => t.1 / 2).map D.int := by simp
      have hz := hl
      rw [List.length_map] at hz
      have e2 : evE e_are_terms_2 [some (D.tup (ts.map pairD)), none, none, none, none, none, none] [] = .ok (.lst ((ts.map fun t => t.1 / 2).map D.int)) [] := by
        unfold e_are_terms_2
        rw [← hm]
        exact ev_lcA (enc := pairD) (g := []) (by simp [eb_cons, ev_v]) rfl (sz100000 hz) fun x hx => ⟨_, rfl, by simp [eb_cons, ev_v, pairD, d2]⟩
      have e3 : evE e_are_terms_3 [some (D.tup (ts.map pairD)), some (.lst ((ts.map fun t => t.1 / 2).map D.int)), none, none, none, none, none] [] = .ok (.lst ((((ts.map fun t => t.1 / 2).zip ((ts.map fun t => t.1 / 2).drop 1))).map fun p => D.bl (decide (p.1 < p.2)))) [] := by
        unfold e_are_terms_3
        refine ev_lcA (enc := pairD) (g := []) ?_ rfl (sz100000 (by simp; omega)) fun x hx => ⟨_, rfl, by simp [eb_cons, ev_v, pairD]⟩
        have h1 : cutG ((ts.map fun t => t.1 / 2).map D.int) (some 1) none = ((ts.map fun t => t.1 / 2).drop 1).map D.int := by rw [List.map_drop]; exact cut_from _ 1
        simp [eb_cons, ev_v, slV_lst, zipV_lst, h1, zip_ints, -List.map_map, -List.map_drop, -List.drop_one]
      have a3 : (((ts.map fun t => t.1 / 2).zip ((ts.map fun t => t.1 / 2).drop 1)).map fun p => decide (p.1 < p.2)).all id = ascB (ts.map fun t => t.1 / 2) := by rw [List.all_map]; rfl
      simp [eb_cons, ev_v, e1, e2, e3, all_lst (asBls_map' _ _), a1, a3, ht, ht2, termsD_pairs, -List.all_map, -List.all_eq_true, -List.map_map, -List.map_drop, -List.drop_one]
  | kup xs => simp [D.good] at hg
  | adr => simp at hd
  | _ => unfold t_are_terms_4 u_are_terms_1; simp [eb_cons, ev_v, termsD]
theorem c_are_terms_ok {ts : List (Int × Int)} (s : SumOk ts) (S : Store) : callV false f_are_terms [.tup (ts.map pairD)] S = .ok (.bl true) S := by
  rw [c_are_terms _ (by simp [D.good, goods_pairs, s.len]), s.terms]

theorem c_is_sum (d : D) (hg : d.good = true) (S : Store) : callV false f_is_sum [d] S = .ok (.bl (sumB d)) S := by
  have hd := D.good.free hg
  refine callV_ok S (S0 := []) ?_ rfl (by simp [hd]) rfl
  show m_is_sum [] _ = _
  unfold m_is_sum runB b_is_sum
  have hr := fun S => c_is_row d hd 2 2 S
  cases d with
  | tup xs =>
    rcases xs with _ | ⟨a, _ | ⟨b, _ | ⟨c, r⟩⟩⟩
    · simp [eb_cons, ev_v, hr, rowB, sumB]
    · simp [eb_cons, ev_v, hr, rowB, sumB]
    · simp at hd
      simp only [rowB, List.length_cons, List.length_nil] at hr
      have ha : a.good = true := by simp [D.good, D.goods] at hg; exact hg.1
      simp [eb_cons, ev_v, hr, c_are_terms _ ha, hd.1, hd.2, sumB]
      cases h1 : termsD a <;> simp
    · have : rowB (.tup (a :: b :: c :: r)) 2 2 = false := by simp [rowB]; omega
      simp [eb_cons, ev_v, hr, this, sumB]
  | kup xs => simp [D.good] at hg
  | adr => simp at hd
  | _ => simp [eb_cons, ev_v, hr, rowB, sumB]
theorem c_is_sum_ok {ts : List (Int × Int)} (s : SumOk ts) (dg : Int) (S : Store) : callV false f_is_sum [sumD ts dg] S = .ok (.bl true) S := by
  rw [c_is_sum _ (good_sum s.len), s.sumB]

theorem c_are_bits (xs : List D) (hf : D.frees xs = true) (hl : xs.length ≤ 100000) (lo hi : Int) (S : Store) : callV false f_are_bits [.tup xs, .int lo, .int hi] S = .ok (.bl (rowB (.tup xs) lo hi && xs.all fun d => withinB d 0 1)) S := by
  refine callV_ok S (S0 := []) ?_ rfl (by simp [hf]) rfl
  show m_are_bits [] _ = _
  unfold m_are_bits runB b_are_bits t_are_bits_1
  have e1 : evE e_are_bits_0 [some (.tup xs), some (.int lo), some (.int hi), none] [] = .ok (.lst (xs.map fun d => D.bl (withinB d 0 1))) [] := by
    unfold e_are_bits_0
    exact ev_lcA (enc := id) (g := []) (by simp [ev_v]) rfl (sz100000 hl) fun x hx => ⟨_, rfl, by simp [ev_v, c_within _ (D.frees_iff.mp hf x hx)]⟩
  have a1 : (xs.map fun d => withinB d 0 1).all id = xs.all fun d => withinB d 0 1 := by rw [List.all_map]; rfl
  cases hr : rowB (.tup xs) lo hi with
  | true => simp [eb_cons, ev_v, e1, all_lst (asBls_map' _ _), a1, c_is_row _ (show (D.tup xs).free = true by simp [hf]), hr, -List.all_map, -List.all_eq_true]
  | false => simp [eb_cons, ev_v, c_is_row _ (show (D.tup xs).free = true by simp [hf]), hr]

end LW

namespace LW
open PX
variable {S : Store}
theorem c_deck (ns : List Int) : ∃ S, callV true f__law_deck [.scr (ns.map D.int)] [] = .ok (.adr 1) S ∧ Deck S 1 0 := by
  have hc : cutG (ns.map D.int) none (some 63) = (ns.take 63).map D.int := by rw [List.map_take]; exact cut_to _ 63
  have e1 := ev_lcM (enc := D.int) (y := fun i => D.int (i % 10 ^ 60)) (vs := [1]) (t := .name 1) (it := .seq (.sl (.var 0) .none (.some (.int 63)))) (e := .bin .mod (.bi .int (.cons (.var 1) .nil)) (.bin .pow (.int 10) (.int 60))) (ρ := [some (.scr (ns.map D.int)), none]) (S := []) (xs := ns.take 63) (g := []) (by simp [ev_v, slV_scr, hc]) rfl (Nat.le_trans (by simp; omega) (show 63 ≤ PySem.sizeLine by decide)) (fun x hx => ⟨_, rfl, by
    simp [ev_v, show powOk 10 60 = true by decide +kernel]⟩)
  refine ⟨[.lst ((ns.take 63).map fun i => D.int (i % 10 ^ 60)), .lst [.adr 0, .int 0, .int 6151]], ?_, ⟨⟨(ns.take 63).map fun i => i % 10 ^ 60, 0, 6151, rfl, by simp; rfl⟩, by decide⟩⟩
  show m__law_deck [] _ = _
  unfold m__law_deck runB b__law_deck t__law_deck_1 e__law_deck_0
  simp [eb_cons, ev_v, e1, -List.map_take]

/-- the second half of a pick -/
theorem pick_end {S : Store} {n m : Nat} {many : Int} (hm : 0 < many) (hg : many.natAbs.log2 < 9000) (hd : Deck S n m) (ρ : Env) (r0 : ρ[0]? = some (some (.adr n))) (r1 : ρ[1]? = some (some (.int many))) (r4 : ρ.length = 5) :
    ∃ v S' ρ', 0 ≤ v ∧ v < many ∧ Deck S' n m ∧ Stay n m S S' ∧ evB 0 (.cons (.ite (.cmp .ge (.ix (.var 0) (.int 1)) (.bin .pow (.int 10) (.int 6))) (.cons (.asg (.name 4) (.bin .mod (.bi .int (.cons (.ix (.var 0) (.int 1)) .nil)) (.var 1))) (.cons (.set (.var 0) (.int 1) (.bin .fdiv (.ix (.var 0) (.int 1)) (.var 1))) (.cons (.ret (.var 4)) .nil))) (.nil)) (.cons (.set (.var 0) (.int 2) (.bin .mod (.bi .int (.cons (.bin .add (.bin .mul (.ix (.var 0) (.int 2)) (.int 48271)) (.int 11)) .nil)) (.int 2147483647))) (.cons (.ret (.bin .mod (.bi .int (.cons (.bin .fdiv (.ix (.var 0) (.int 2)) (.int 53)) .nil)) (.var 1))) .nil))) ρ S = .fl (.ret (.int v)) ρ' S' := by
  obtain ⟨⟨cs, a, b, h1, h2⟩, ne⟩ := hd
  have hdv : divOk many = true := by unfold divOk; simp [hm, hg]
  have hmo : decide (0 < many) = true := decide_eq_true hm
  have hn : n < S.length := (List.getElem?_eq_some_iff.mp h1).1
  have e1 := ix_cell 1 h1
  have e2 := ix_cell 2 h1
  have key : ∀ xs : List D, (∃ x y, xs = [.adr m, .int x, .int y]) → Deck (S.set n (.lst xs)) n m ∧ Stay n m S (S.set n (.lst xs)) := fun xs ⟨x, y, e⟩ =>
    ⟨⟨⟨cs, x, y, by rw [List.getElem?_set_self hn, e], by rw [List.getElem?_set_ne ne]; exact h2⟩, ne⟩, ⟨by simp, fun i q1 _ _ => List.getElem?_set_ne (Ne.symm q1)⟩⟩
  by_cases ha : 1000000 ≤ a
  · obtain ⟨k1, k2⟩ := key [.adr m, .int (a / many), .int b] ⟨_, _, rfl⟩
    have e3 : setV S (.adr n) (.int 1) (.int (a / many)) = .ok () (S.set n (.lst [.adr m, .int (a / many), .int b])) := set_cell (k := 1) h1 rfl (by simp)
    refine ⟨a % many, S.set n (.lst [.adr m, .int (a / many), .int b]), ρ.set 4 (some (.int (a % many))), Int.emod_nonneg _ (by omega), Int.emod_lt_of_pos _ hm, k1, k2, ?_⟩
    have q0 : (ρ.set 4 (some (D.int (a % many))))[0]? = some (some (.adr n)) := by rw [List.getElem?_set_ne (by decide)]; exact r0
    have q1 : (ρ.set 4 (some (D.int (a % many))))[1]? = some (some (.int many)) := by rw [List.getElem?_set_ne (by decide)]; exact r1
    have q4 : (ρ.set 4 (some (D.int (a % many))))[4]? = some (some (.int (a % many))) := List.getElem?_set_self (by omega)
    simp [eb_cons, ev_v, r0, r1, q0, q1, q4, e1, p6, ha, hm, hdv, e3]
  · have hc : ∀ c : Int, setV S (.adr n) (.int 2) (.int c) = .ok () (S.set n (.lst [.adr m, .int a, .int c])) := fun c => set_cell (k := 2) h1 rfl (by simp)
    obtain ⟨k1, k2⟩ := key [.adr m, .int a, .int ((b * 48271 + 11) % 2147483647)] ⟨_, _, rfl⟩
    have hs : (S.set n (.lst [.adr m, .int a, .int ((b * 48271 + 11) % 2147483647)]))[n]? = some (.lst [.adr m, .int a, .int ((b * 48271 + 11) % 2147483647)]) := List.getElem?_set_self hn
    have e4 := ix_cell 2 hs
    refine ⟨(b * 48271 + 11) % 2147483647 / 53 % many, S.set n (.lst [.adr m, .int a, .int ((b * 48271 + 11) % 2147483647)]), ρ, Int.emod_nonneg _ (by omega), Int.emod_lt_of_pos _ hm, k1, k2, ?_⟩
    simp [eb_cons, ev_v, r0, r1, e1, e2, p6, ha, hm, m3, d53, hc, e4]
theorem c_pick {S : Store} {n m : Nat} {many : Int} (hm : 0 < many) (hg : many.natAbs.log2 < 9000) (hd : Deck S n m) : ∃ v S', 0 ≤ v ∧ v < many ∧ Deck S' n m ∧ Stay n m S S' ∧ callV true f__law_pick [.adr n, .int many] S = .ok (.int v) S' := by
  suffices h : ∃ v S' ρ', 0 ≤ v ∧ v < many ∧ Deck S' n m ∧ Stay n m S S' ∧ evB 0 b__law_pick [some (.adr n), some (.int many), none, none, none] S = .fl (.ret (.int v)) ρ' S' by
    obtain ⟨v, S', ρ', h1, h2, h3, h4, h5⟩ := h
    refine ⟨v, S', h1, h2, h3, h4, ?_⟩
    show m__law_pick S [.adr n, .int many] = _
    unfold m__law_pick runB
    simp [h5]
  obtain ⟨⟨cs, a, b, h1, h2⟩, ne⟩ := id hd
  have hn : n < S.length := (List.getElem?_eq_some_iff.mp h1).1
  have hm2 : m < S.length := (List.getElem?_eq_some_iff.mp h2).1
  have e0 := ix_cell 0 h1
  have e1 := ix_cell 1 h1
  unfold b__law_pick
  by_cases ha : a < 1000000
  · cases cs with
    | nil =>
      obtain ⟨v, S', ρ', k1, k2, k3, k4, k5⟩ := pick_end hm hg hd [some (.adr n), some (.int many), some (.adr m), none, none] rfl rfl rfl
      refine ⟨v, S', ρ', k1, k2, k3, k4, ?_⟩
      have e3 := ne_nil h2
      rw [← k5]
      simp [eb_cons, ev_v, e0, e1, p6, ha, e3]
    | cons c cs =>
      have e3 := ne_nil h2
      have e4 := pop0 h2
      have s1 : (S.set m (.lst (cs.map D.int)))[n]? = some (.lst [.adr m, .int a, .int b]) := by rw [List.getElem?_set_ne (Ne.symm ne)]; exact h1
      have s2 : (S.set m (.lst (cs.map D.int)))[m]? = some (.lst (cs.map D.int)) := List.getElem?_set_self hm2
      have key : ∀ xs : List D, (∃ x y, xs = [.adr m, .int x, .int y]) → Deck ((S.set m (.lst (cs.map D.int))).set n (.lst xs)) n m ∧ Stay n m S ((S.set m (.lst (cs.map D.int))).set n (.lst xs)) := fun xs ⟨x, y, e⟩ =>
        ⟨⟨⟨cs, x, y, by rw [List.getElem?_set_self (by simpa using hn), e], by rw [List.getElem?_set_ne ne]; exact s2⟩, ne⟩, ⟨by simp, fun i q1 q2 _ => by rw [List.getElem?_set_ne (Ne.symm q1), List.getElem?_set_ne (Ne.symm q2)]⟩⟩
      by_cases hc : 1000000000000000000 ≤ c
      · have e5 : setV (S.set m (.lst (cs.map D.int))) (.adr n) (.int 1) (.int c) = .ok () ((S.set m (.lst (cs.map D.int))).set n (.lst [.adr m, .int c, .int b])) := set_cell (k := 1) s1 rfl (by simp)
        obtain ⟨y1, y2⟩ := key [.adr m, .int c, .int b] ⟨_, _, rfl⟩
        obtain ⟨v, S', ρ', k1, k2, k3, k4, k5⟩ := pick_end hm hg y1 [some (.adr n), some (.int many), some (.adr m), some (.int c), none] rfl rfl rfl
        refine ⟨v, S', ρ', k1, k2, k3, y2.trans k4, ?_⟩
        rw [← k5]
        simp [eb_cons, ev_v, e0, e1, p6, p18, ha, e3, e4, hc, e5]
      · have e6 := ix_cell 2 s1
        have e5 : ∀ d : Int, setV (S.set m (.lst (cs.map D.int))) (.adr n) (.int 2) (.int d) = .ok () ((S.set m (.lst (cs.map D.int))).set n (.lst [.adr m, .int a, .int d])) := fun d => set_cell (k := 2) s1 rfl (by simp)
        obtain ⟨y1, y2⟩ := key [.adr m, .int a, .int ((b * 69621 + c % 2147483563 * 40014 + 3) % 2147483563)] ⟨_, _, rfl⟩
        obtain ⟨v, S', ρ', k1, k2, k3, k4, k5⟩ := pick_end hm hg y1 [some (.adr n), some (.int many), some (.adr m), some (.int c), none] rfl rfl rfl
        refine ⟨v, S', ρ', k1, k2, k3, y2.trans k4, ?_⟩
        rw [← k5]
        simp [eb_cons, ev_v, e0, e1, p6, p18, ha, e3, e4, hc, e5, e6, m1, m2]
  · obtain ⟨v, S', ρ', k1, k2, k3, k4, k5⟩ := pick_end hm hg hd [some (.adr n), some (.int many), some (.adr m), none, none] rfl rfl rfl
    refine ⟨v, S', ρ', k1, k2, k3, k4, ?_⟩
    rw [← k5]
    simp [eb_cons, ev_v, e0, e1, p6, ha]
theorem wp_pick {S : Store} {n m : Nat} {many : Int} {Q : D → Store → Prop} (hd : Deck S n m) (hm : 0 < many) (hg : many ≤ 1000000000000000000000000000000000000000000000000000000000000) (h : ∀ v S', 0 ≤ v → v < many → Deck S' n m → Stay n m S S' → Q (.int v) S') : (callV true f__law_pick [.adr n, .int many] S).wp Q := by
  obtain ⟨v, S', h1, h2, h3, h4, e⟩ := c_pick hm (lg60 (by omega) hg) hd
  rw [e]
  exact h v S' h1 h2 h3 h4

theorem same_twins {ys : List D} {a b x1 x2 x5 : Option D} {S : Store} (hl : ys.length ≤ PySem.sizeLine) (hr : rngOk (ys.length : Int) = true) :
    evE (.lc [5] false (.name 5) (.rng1 (.bi .len (.cons (.var 4) .nil))) .none (.tup (.cons (.ix (.var 3) (.var 5)) (.cons (.ix (.var 4) (.var 5)) .nil)))) [a, b, x1, some (.tup ys), some (.tup ys), x5] S = .ok (.lst (ys.map twin)) S := by
  rw [← twin_rng]
  refine ev_lcA (enc := fun i : Nat => D.int (0 + (i : Int))) (g := []) ?_ rfl (by rw [List.length_range]; exact hl) fun i hi => ⟨_, rfl, ?_⟩
  · have : evE (.bi .len (.cons (.var 4) .nil)) [a, b, x1, some (.tup ys), some (.tup ys), x5] S = .ok (.int (ys.length : Int)) S := by simp [ev_v]
    rw [ev_rng1_ok this hr, rngL, Int.toNat_natCast]
  · have hi : i < ys.length := by simpa using hi
    have hat : L2.atI ys (i : Int) = some ys[i] := L2.atI_nat (List.getElem?_eq_getElem hi)
    simp [eb_cons, ev_v, hat, twin, hi]
theorem same_tup {m : Nat} {ys : List D} {a b x5 : Option D} {S S' : Store} (h1 : evE e__law_same_1 [a, b, some (.adr 0), some (.tup ys), some (.tup ys), x5] S = .ok (.lst (ys.map twin)) S)
    (hk : mkind .extend S (.adr 0) = true) (h2 : methV .extend S (.adr 0) [.lst (ys.map twin)] = .ok .non S') :
    evB m u__law_same_2 [a, b, some (.adr 0), some (.tup ys), some (.tup ys), x5] S = .fl .next [a, b, some (.adr 0), some (.tup ys), some (.tup ys), x5] S' := by
  have c : evE (.or (.cons (.not (.isi (.var 3) .tuple)) (.cons (.cmp .ne (.bi .len (.cons (.var 3) .nil)) (.bi .len (.cons (.var 4) .nil))) .nil))) [a, b, some (.adr 0), some (.tup ys), some (.tup ys), x5] S = .ok (.bl false) S := by
    have e1 : evE (.not (.isi (.var 3) .tuple)) [a, b, some (.adr 0), some (.tup ys), some (.tup ys), x5] S = .ok (.bl false) S := by simp [ev_v]
    have e2 : evE (.cmp .ne (.bi .len (.cons (.var 3) .nil)) (.bi .len (.cons (.var 4) .nil))) [a, b, some (.adr 0), some (.tup ys), some (.tup ys), x5] S = .ok (.bl false) S := by
      have e3 : evE (.bi .len (.cons (.var 3) .nil)) [a, b, some (.adr 0), some (.tup ys), some (.tup ys), x5] S = .ok (.int (ys.length : Int)) S := by simp [ev_v]
      have e4 : evE (.bi .len (.cons (.var 4) .nil)) [a, b, some (.adr 0), some (.tup ys), some (.tup ys), x5] S = .ok (.int (ys.length : Int)) S := by simp [ev_v]
      rw [ev_cmp, e3, R.bind_ok, e4, R.bind_ok, cmp_ne]
      generalize (ys.length : Int) = z
      simp
    rw [ev_or, ev_or2, e1, R.bind_ok]
    simp only [tr_bl, ev_or1, e2]
  have x : evS m (.expr (.meth .extend (.var 2) (.cons (e__law_same_1) .nil))) [a, b, some (.adr 0), some (.tup ys), some (.tup ys), x5] S = .fl .next [a, b, some (.adr 0), some (.tup ys), some (.tup ys), x5] S' := by
    have e0 : evE (.var 2) [a, b, some (.adr 0), some (.tup ys), some (.tup ys), x5] S = .ok (.adr 0) S := by simp [ev_v]
    rw [es_expr, ev_meth, e0, R.bind_ok, hk, guardR_true, ev_consL, h1, R.bind_ok, ev_nilL, R.bind_ok, R.bind_ok, h2, R.then_ok]
  unfold u__law_same_2
  rw [eb_cons, es_ite, c, R.then_ok]
  simp only [tr_bl, eb_nil]
  rw [eb_cons, x]
  rfl
/-- the pairs that wait -/
theorem same_loop (m : Nat) : ∀ (n : Nat) (ws : List D) (a b x3 x4 x5 : Option D), D.plains ws = true → (∀ w ∈ ws, w.depth ≤ 60) → D.szs ws ≤ 1000000 → D.szs ws + 1 ≤ n →
    ∃ y3 y4 y5, whileLoop (evE (.cmp .ne (.var 2) (.lst .nil))) (evB m u__law_same_14) n [a, b, some (.adr 0), x3, x4, x5] [.lst (ws.map twin)] = .fl .next [a, b, some (.adr 0), y3, y4, y5] [.lst []] := by
  intro n
  induction n with
  | zero => intro ws a b x3 x4 x5 hp hd hl hn; omega
  | succ n ih =>
    intro ws a b x3 x4 x5 hp hd hl hn
    have hw := wait_ne hp hd
    rcases List.eq_nil_or_concat ws with e | ⟨l, x, e⟩
    · subst e
      refine ⟨x3, x4, x5, ?_⟩
      simp only [List.map_nil] at hw
      unfold whileLoop
      simp [eb_cons, ev_v, hw]
    · rw [List.concat_eq_append] at e
      subst e
      have hpl : D.plains l = true := plains_iff.mpr fun y hy => plains_iff.mp hp y (List.mem_append_left _ hy)
      have hpx : x.plain = true := plains_iff.mp hp x (by simp)
      have hdl : ∀ w ∈ l, w.depth ≤ 60 := fun w h => hd w (List.mem_append_left _ h)
      have hdx : x.depth ≤ 60 := hd x (by simp)
      rw [szs_append] at hl hn
      simp only [D.szs] at hl hn
      have hne : (l ++ [x]).isEmpty = false := by cases l <;> rfl
      rw [hne] at hw
      have pop : guardR (mkind .pop [.lst ((l ++ [x]).map twin)] (.adr 0)) (methV .pop [.lst ((l ++ [x]).map twin)] (.adr 0) []) = .ok (twin x) [.lst (l.map twin)] := by
        rw [kindW _ rfl, guardR_true]
        simp [methV]
      have step : ∀ (ws' : List D) (z5 : Option D), D.plains ws' = true → (∀ w ∈ ws', w.depth ≤ 60) → D.szs ws' ≤ 1000000 → D.szs ws' + 1 ≤ n → evB m u__law_same_14 [a, b, some (.adr 0), x3, x4, x5] [.lst ((l ++ [x]).map twin)] = .fl .next [a, b, some (.adr 0), some x, some x, z5] [.lst (ws'.map twin)] →
          ∃ y3 y4 y5, whileLoop (evE (.cmp .ne (.var 2) (.lst .nil))) (evB m u__law_same_14) (n + 1) [a, b, some (.adr 0), x3, x4, x5] [.lst ((l ++ [x]).map twin)] = .fl .next [a, b, some (.adr 0), y3, y4, y5] [.lst []] := fun ws' z5 k1 k2 k3 k4 k5 => by
        obtain ⟨y3, y4, y5, q⟩ := ih ws' a b (some x) (some x) z5 k1 k2 k3 k4
        refine ⟨y3, y4, y5, ?_⟩
        conv => lhs; unfold whileLoop
        simp only [ev_cmp, ev_v, List.getElem?_cons_succ, List.getElem?_cons_zero, R.bind_ok, ev_lst, ev_nilL, cmp_ne, hw, R.then_ok, tr_bl, Bool.not_false, k5]
        exact q
      have leaf : (∀ S, isiV S x .tuple = .ok (.bl false) S) → evB m u__law_same_13 [a, b, some (.adr 0), some x, some x, x5] [.lst (l.map twin)] = .fl .next [a, b, some (.adr 0), some x, some x, x5] [.lst (l.map twin)] →
          ∃ y3 y4 y5, whileLoop (evE (.cmp .ne (.var 2) (.lst .nil))) (evB m u__law_same_14) (n + 1) [a, b, some (.adr 0), x3, x4, x5] [.lst ((l ++ [x]).map twin)] = .fl .next [a, b, some (.adr 0), y3, y4, y5] [.lst []] := fun g1 g2 => by
        refine step l x5 hpl hdl (by omega) (by have : 1 ≤ D.sz x := by cases x <;> simp [D.sz]
                                                omega) ?_
        unfold u__law_same_14
        simp only [eb_cons, es_asg, ev_meth, ev_v, List.getElem?_cons_succ, List.getElem?_cons_zero, R.bind_ok, ev_nilL, pop, R.then_ok, twin, asgT_tup, asgs_cons, asgs_nil, List.set_cons_succ, List.set_cons_zero, es_ite, ev_isi, g1, tr_bl]
        rw [g2]
        rfl
      cases x with
      | tup ys =>
        have hpy : D.plains ys = true := by simpa [D.plain] using hpx
        have hdy : ∀ w ∈ ys, w.depth ≤ 60 := fun w h => by
          have := depth_of_mem h
          simp only [D.depth] at hdx
          omega
        simp only [D.sz] at hl hn
        have hlen := len_szs ys
        have hlenl := len_szs l
        have hz : (1000000 : Nat) ≤ PySem.sizeLine := by rw [PySem.sizeLine_eq]; omega
        have hr : rngOk (ys.length : Int) = true := by
          unfold rngOk
          rw [Bool.and_eq_true, decide_eq_true_eq, decide_eq_true_eq]
          omega
        have e1 := same_twins (a := a) (b := b) (x1 := some (.adr 0)) (x2 := none) (x5 := x5) (S := [.lst (l.map twin)]) (ys := ys) (by omega) hr
        have ext : methV .extend [.lst (l.map twin)] (.adr 0) [.lst (ys.map twin)] = .ok .non [.lst ((l ++ ys).map twin)] := by
          have : l.length + ys.length ≤ PySem.sizeLine := by omega
          simp [methV, asLstW, this]
        refine step (l ++ ys) x5 (plains_iff.mpr fun y hy => (List.mem_append.mp hy).elim (plains_iff.mp hpl y) (plains_iff.mp hpy y)) (fun w hw => (List.mem_append.mp hw).elim (hdl w) (hdy w)) (by rw [szs_append]; omega) (by rw [szs_append]; omega) ?_
        have kx : mkind .extend [.lst (l.map twin)] (.adr 0) = true := kindW _ rfl
        have q := same_tup (m := m) (a := a) (b := b) (x5 := x5) e1 kx ext
        unfold u__law_same_14
        simp only [eb_cons, eb_nil, es_asg, ev_meth, ev_v, List.getElem?_cons_succ, List.getElem?_cons_zero, R.bind_ok, ev_nilL, pop, R.then_ok, twin, asgT_tup, asgs_cons, asgs_nil, List.set_cons_succ, List.set_cons_zero, es_ite, ev_isi, isi_tup, tr_bl]
        rw [q]
        rfl
      | non => exact leaf (fun S => rfl) (by unfold u__law_same_13 u__law_same_4; simp [eb_cons, ev_v, isR])
      | bl i => exact leaf (fun S => by simp) (by unfold u__law_same_13 u__law_same_12 u__law_same_6; simp [eb_cons, ev_v, isR])
      | int i => exact leaf (fun S => by simp) (by unfold u__law_same_13 u__law_same_12 u__law_same_11 u__law_same_10; simp [eb_cons, ev_v, isR])
      | str i =>
        have hs : ∀ S, eqR true S (.str i) (.str i) = .ok (.bl false) S := fun S => ne_self hpx (by rw [depth_str]; decide)
        exact leaf (fun S => by simp) (by unfold u__law_same_13 u__law_same_12 u__law_same_11 u__law_same_8; simp [eb_cons, ev_v, isR, hs])
      | lst _ => simp [D.plain] at hpx
      | scr _ => simp [D.plain] at hpx
      | kup _ => simp [D.plain] at hpx
      | adr _ => simp [D.plain] at hpx
theorem c_same {x : D} (h : x.plain = true) (hd : x.depth ≤ 60) (hz : D.sz x ≤ 900000) (S : Store) : callV false f__law_same [x, x] S = .ok (.bl true) S := by
  have hp : D.plains [x] = true := by simp [D.plains, h]
  refine callV_ok S (S0 := [.lst []]) ?_ rfl (by simp [D.plain.free h]) rfl
  show m__law_same [] _ = _
  obtain ⟨y3, y4, y5, e⟩ := same_loop (fuelOf [x, x]) (fuelOf [x, x]) [x] (some x) (some x) none none none hp (by simpa using hd) (by simp [D.szs]; omega) (by simp [fuelOf, D.szs]; omega)
  simp only [List.map_cons, List.map_nil] at e
  unfold m__law_same runB b__law_same t__law_same_15 t__law_same_16 t__law_same_17
  simp only [eb_cons]
  simp [eb_cons, ev_v, es_while]
  rw [show D.tup [x, x] = twin x from rfl, e]
theorem c_same_sum {ts : List (Int × Int)} {dg : Int} (h : ts.length ≤ 100000) (S : Store) : callV false f__law_same [sumD ts dg, sumD ts dg] S = .ok (.bl true) S :=
  c_same (plain_sum ts dg) (Nat.le_trans (depth_sum ts dg) (by decide)) (by rw [sz_sum]; omega) S
theorem c_same_bl (b : Bool) (S : Store) : callV false f__law_same [.bl b, .bl b] S = .ok (.bl true) S := c_same rfl (by simp [D.depth]) (by simp [D.sz]) S
theorem c_same_int (b : Int) (S : Store) : callV false f__law_same [.int b, .int b] S = .ok (.bl true) S := c_same rfl (by simp [D.depth]) (by simp [D.sz]) S
theorem c_same_non (S : Store) : callV false f__law_same [.non, .non] S = .ok (.bl true) S := c_same rfl (by simp [D.depth]) (by simp [D.sz]) S

theorem c_law_int (d : D) (hd : d.free = true) (lo hi : Int) (S : Store) : callV false f__law_int [d, .int lo, .int hi] S = .ok (.bl (withinB d lo hi)) S := by
  refine callV_ok S (S0 := []) ?_ rfl (by simp [hd]) rfl
  show m__law_int [] _ = _
  unfold m__law_int runB b__law_int
  cases d with
  | int i => by_cases h1 : lo ≤ i <;> by_cases h2 : i ≤ hi <;> simp [eb_cons, ev_v, withinB, h1, h2]
  | adr => simp at hd
  | _ => simp at hd; simp [eb_cons, ev_v, withinB, hd]

theorem chk_loop (w : Ws) (hw : w.g = []) : ∀ (xs : List D), D.goods xs = true → ∀ (thing : D) (last : Int) (t : Option D) (S : Store), ∃ ρ', forLoop w (.name 2) (evB 0 u__law_is_sum_2) xs [some thing, some (.int last), t] S = if ckT last xs = true then .fl .next ρ' S else .fl (.ret (.bl false)) ρ' S
  | [], _, thing, last, t, S => ⟨[some thing, some (.int last), t], by simp [forLoop, Ws.ok, hw, ckT]⟩
  | x :: xs, hg, thing, last, t, S => by
    simp only [D.goods, Bool.and_eq_true] at hg
    obtain ⟨hx, hxs⟩ := hg
    have hf := D.good.free hx
    have hk : w.ok S = true := by simp [Ws.ok, hw]
    conv => rhs; intro ρ'; unfold forLoop
    rw [hk]
    simp only [asgT_name, List.set_cons_succ, List.set_cons_zero]
    have stop : evB 0 u__law_is_sum_2 [some thing, some (.int last), some x] S = .fl (.ret (.bl false)) [some thing, some (.int last), some x] S → ckT last (x :: xs) = false → (∃ ρ', (match evB 0 u__law_is_sum_2 [some thing, some (.int last), some x] S with
        | .fl .next ρ2 S2 => forLoop w (.name 2) (evB 0 u__law_is_sum_2) xs ρ2 S2
        | .fl .cont ρ2 S2 => forLoop w (.name 2) (evB 0 u__law_is_sum_2) xs ρ2 S2
        | .fl .brk ρ2 S2 => .fl .next ρ2 S2
        | r => r) = if ckT last (x :: xs) = true then .fl .next ρ' S else .fl (.ret (.bl false)) ρ' S) := fun e h => ⟨_, by rw [e, h]; simp; rfl⟩
    cases x with
    | tup ys =>
      rcases ys with _ | ⟨a, _ | ⟨b, _ | ⟨c, r⟩⟩⟩
      · exact stop (by unfold u__law_is_sum_2 u__law_is_sum_1; simp [eb_cons, ev_v]) rfl
      · exact stop (by unfold u__law_is_sum_2 u__law_is_sum_1; simp [eb_cons, ev_v]) rfl
      · simp at hf
        have e0 := fun S => c_law_int a hf.1 0 N60 S
        have e1 := fun S => c_law_int b hf.2 1 N60 S
        cases ha : withinB a 0 N60 with
        | false =>
          exact stop (by unfold u__law_is_sum_2 u__law_is_sum_1; simp [eb_cons, ev_v, p60, e0, ha]) (by simp [ckT, ha])
        | true =>
          cases hb : withinB b 1 N60 with
          | false =>
            exact stop (by unfold u__law_is_sum_2 u__law_is_sum_1; simp [eb_cons, ev_v, p60, e0, e1, ha, hb]) (by simp [ckT, hb])
          | true =>
            cases a with
            | int l =>
              by_cases hl : last < l / 2
              · obtain ⟨ρ', ih⟩ := chk_loop w hw xs hxs thing (l / 2) (some (.tup [.int l, b])) S
                have q : ckT last (.tup [.int l, b] :: xs) = ckT (l / 2) xs := by simp [ckT, ha, hb, hl]
                have hl2 : ¬ l / 2 ≤ last := by omega
                have eb : evB 0 u__law_is_sum_2 [some thing, some (.int last), some (.tup [.int l, b])] S = .fl .next [some thing, some (.int (l / 2)), some (.tup [.int l, b])] S := by
                  unfold u__law_is_sum_2 u__law_is_sum_1; simp [eb_cons, ev_v, p60, e0, e1, ha, hb, d2, hl2]
                refine ⟨ρ', ?_⟩
                rw [q, ← ih, eb]
              · have hl2 : l / 2 ≤ last := by omega
                exact stop (by unfold u__law_is_sum_2 u__law_is_sum_1; simp [eb_cons, ev_v, p60, e0, e1, ha, hb, d2, hl2]) (by simp [ckT, hl])
            | _ => simp [withinB] at ha
      · have h2 : ((r.length : Int) + 1 + 1 + 1 == 2) = false := by rw [beq_eq_false_iff_ne]; omega
        exact stop (by unfold u__law_is_sum_2 u__law_is_sum_1; simp [eb_cons, ev_v, h2]) rfl
    | kup ys => simp [D.good] at hx
    | adr => simp at hf
    | _ => exact stop (by unfold u__law_is_sum_2 u__law_is_sum_1; simp [eb_cons, ev_v]) rfl
theorem c_law_is_sum (d : D) (hg : d.good = true) (S : Store) : callV false f__law_is_sum [d] S = .ok (.bl (lawSumB d)) S := by
  have hf := D.good.free hg
  refine callV_ok S (S0 := []) ?_ rfl (by simp [hf]) rfl
  show m__law_is_sum [] _ = _
  unfold m__law_is_sum runB b__law_is_sum
  rw [show ([d].map some ++ List.replicate (3 - [d].length) none : Env) = [some d, none, none] from rfl]
  unfold t__law_is_sum_3 u__law_is_sum_0 t__law_is_sum_4 t__law_is_sum_5 t__law_is_sum_6
  cases d with
  | tup ys =>
    rcases ys with _ | ⟨a, _ | ⟨b, _ | ⟨c, r⟩⟩⟩
    · simp [eb_cons, ev_v, lawSumB]
    · simp [eb_cons, ev_v]
      cases a <;> rfl
    · simp at hf
      cases a with
      | tup xs =>
        have e0 := fun S => c_law_int b hf.2 (-N60) N60 S
        have hgx : D.goods xs = true := by simp only [D.good, D.goods, Bool.and_eq_true] at hg; exact hg.2.1.2
        cases hb : withinB b (-N60) N60 with
        | false =>
          have q : lawSumB (.tup [.tup xs, b]) = false := by simp [lawSumB, hb]
          simp [eb_cons, ev_v, p60, e0, hb, q]
        | true =>
          have q : lawSumB (.tup [.tup xs, b]) = ckT (-1) xs := by simp [lawSumB, hb]
          obtain ⟨ρ', e⟩ := chk_loop ⟨xs, []⟩ rfl xs hgx (.tup [.tup xs, b]) (-1) none []
          cases hc : ckT (-1) xs with
          | true =>
            rw [hc] at e
            simp only [if_true] at e
            simp [eb_cons, ev_v, p60, e0, hb, q, es_for, e, hc]
          | false =>
            rw [hc] at e
            simp only [Bool.false_eq_true, if_false] at e
            simp [eb_cons, ev_v, p60, e0, hb, q, es_for, e, hc]
      | kup xs => simp [D.good, D.goods] at hg
      | adr => simp at hf
      | _ => simp [eb_cons, ev_v, lawSumB]
    · have h2 : ((r.length : Int) + 1 + 1 + 1 == 2) = false := by rw [beq_eq_false_iff_ne]; omega
      simp [eb_cons, ev_v, h2]
      cases a <;> rfl
  | kup ys => simp [D.good] at hg
  | adr => simp at hf
  | _ => simp [eb_cons, ev_v, lawSumB]

end LW

namespace PX
/-- the value at a literal's variable -/
def valI (bs : List Int) (l : Int) : Int := bs.getD (l / 2).toNat 0
def trI (bs : List Int) (l : Int) : Bool := !(valI bs l == l % 2)
def trL (bs : List Int) (l : Int) : Bool := valI bs l == 1 - (l - l / 2 * 2)
theorem atI_val {bs : List Int} {l : Int} (h0 : 0 ≤ l) (h1 : l / 2 < bs.length) : L2.atI (bs.map D.int) (l / 2) = some (.int (valI bs l)) := by
  have hn : (l / 2).toNat < bs.length := by omega
  have := L2.atI_nat (xs := bs.map D.int) (j := (l / 2).toNat) (v := .int (valI bs l)) (by
    rw [List.getElem?_map, List.getElem?_eq_getElem hn]
    simp [valI, List.getD, List.getElem?_eq_getElem hn])
  rwa [show (((l / 2).toNat : Nat) : Int) = l / 2 by omega] at this
def Bits (bs : List Int) : Prop := ∀ b ∈ bs, b = 0 ∨ b = 1
theorem val_bit {bs : List Int} (hb : Bits bs) {l : Int} (h0 : 0 ≤ l) (h1 : l / 2 < bs.length) : valI bs l = 0 ∨ valI bs l = 1 := by
  have hn : (l / 2).toNat < bs.length := by omega
  unfold valI
  rw [List.getD_eq_getElem?_getD, List.getElem?_eq_getElem hn, Option.getD_some]
  exact hb _ (List.getElem_mem hn)
theorem trL_is {bs : List Int} (hb : Bits bs) {l : Int} (h0 : 0 ≤ l) (h1 : l / 2 < bs.length) : trL bs l = trI bs l := by
  have := val_bit hb h0 h1
  unfold trL trI
  generalize valI bs l = v at *
  by_cases e : v = l % 2
  · rw [beq_eq_false_iff_ne.mpr (by omega), e]; simp
  · rw [beq_iff_eq.mpr (by omega)]; simp [e]
theorem Bits.set {bs : List Int} (h : Bits bs) (i : Nat) {x : Int} (hx : x = 0 ∨ x = 1) : Bits (bs.set i x) := fun b hb => by
  rcases List.mem_or_eq_of_mem_set hb with q | q
  · exact h b q
  · rw [q]; exact hx
def worthI (ts : List (Int × Int)) (bs : List Int) : Int := ((ts.filter fun t => trI bs t.1).map fun t => t.2).sum
abbrev SumP := List (Int × Int) × Int
def sumP (p : SumP) : D := sumD p.1 p.2
def brokenI (bs : List Int) (p : SumP) : Bool := decide (worthI p.1 bs < p.2)
/-- a way back -/
inductive Way where
  | set (a : Int) | like (b a : Int) | save (l : Int) (ss : List SumP) | cut (k : Int)
def wayD : Way → D
  | .set a => .tup [.str "set", .int a]
  | .like b a => .tup [.str "like", .int b, .int a]
  | .save l ss => .tup [.str "save", .int l, .tup (ss.map sumP)]
  | .cut k => .tup [.str "cut", .int k]
/-- a sum that a way saves -/
structure SaveOk (most l : Int) (p : SumP) : Prop where
  ok : SumOk p.1
  in_ : ∃ w, (l, w) ∈ p.1
  far : ∀ t ∈ p.1, t.1 < 2 * most
  len : p.1.length ≤ 10
def WayOk (most : Int) : Way → Prop
  | .set a => 0 ≤ a ∧ a < 2 * most
  | .like b a => 0 ≤ b ∧ b < most ∧ 0 ≤ a ∧ a < 2 * most ∧ a / 2 ≠ b
  | .save l ss => 0 ≤ l ∧ l < 2 * most ∧ ss.length ≤ 10 ∧ ∀ p ∈ ss, SaveOk most l p
  | .cut k => 0 ≤ k ∧ k < 70
/-- its variables -/
def varsW : Way → List Int
  | .set a => [a / 2]
  | .like b a => [b, a / 2]
  | .save l ss => (l / 2) :: (ss.flatMap fun p => p.1.map fun t => t.1 / 2)
  | .cut _ => []
/-- a row taken back -/
def goW : Way → List Int → List Int
  | .set a, bs => bs.set (a / 2).toNat (1 - a % 2)
  | .like b a, bs => bs.set b.toNat (if trI bs a = true then 1 else 0)
  | .save l ss, bs => if (ss.any (brokenI (bs.set (l / 2).toNat (l % 2)))) = true then (bs.set (l / 2).toNat (l % 2)).set (l / 2).toNat (1 - l % 2) else bs.set (l / 2).toNat (l % 2)
  | .cut _, bs => bs
theorem goW_len (w : Way) (bs : List Int) : (goW w bs).length = bs.length := by
  cases w <;> simp [goW]
  split <;> simp
theorem goW_bits (w : Way) {bs : List Int} (h : Bits bs) : Bits (goW w bs) := by
  cases w with
  | set a => exact h.set _ (by omega)
  | like b a => exact h.set _ (by split <;> simp)
  | save l ss =>
    simp only [goW]
    split
    · exact (h.set _ (by omega)).set _ (by omega)
    · exact h.set _ (by omega)
  | cut k => exact h
def goAll (ws : List Way) (bs : List Int) : List Int := ws.foldl (fun v w => goW w v) bs
theorem frees_sumP (ss : List SumP) : D.frees (ss.map sumP) = true := by
  induction ss with
  | nil => rfl
  | cons p ss ih => simp [sumP, ih]
theorem free_way (w : Way) : (wayD w).free = true := by
  cases w <;> simp [wayD, frees_sumP]
theorem frees_ways (ws : List Way) : D.frees (ws.map wayD) = true := D.frees_iff.mpr fun x hx => by
  obtain ⟨w, _, rfl⟩ := List.mem_map.mp hx
  exact free_way w
theorem bx (b : Bool) (l : Int) : PySem.Builtin.bitXor (if b = true then 1 else 0) (l % 2) = if b = true then 1 - l % 2 else l % 2 := by
  have : l % 2 = 0 ∨ l % 2 = 1 := by omega
  rcases this with e | e <;> rw [e] <;> cases b <;> decide
theorem in_ints {S : Store} (l : Int) (ns : List Int) : inR false S (.int l) (.tup (ns.map D.int)) = .ok (.bl (ns.any fun z => z == l)) S := by
  unfold inR
  have : (ns.map D.int).all D.flat = true := by simp [D.flat]
  simp only [this, D.flat, Bool.and_self, guardR_true]
  congr 2
  rw [List.any_map]
  have e : ((fun z => D.eqv z (D.int l)) ∘ D.int) = fun z : Int => z == l := by funext z; simp [D.eqv]
  rw [e]; rfl
theorem in_strs {S : Store} (x a b : PySem.Str) : inR false S (.str x) (.tup [.str a, .str b]) = .ok (.bl (a == x || b == x)) S := by
  simp [inR, D.flat, D.eqv]
end PX
namespace LW
open PX
theorem s_set_set : (("set" : PySem.Str) == "set") = true := by decide
theorem s_set_cut : (("set" : PySem.Str) == "cut") = false := by decide
theorem s_cut_set : (("cut" : PySem.Str) == "set") = false := by decide
theorem s_cut_cut : (("cut" : PySem.Str) == "cut") = true := by decide
theorem s_cut_like : (("cut" : PySem.Str) == "like") = false := by decide
theorem s_cut_save : (("cut" : PySem.Str) == "save") = false := by decide
theorem s_set_like : (("set" : PySem.Str) == "like") = false := by decide
theorem s_set_save : (("set" : PySem.Str) == "save") = false := by decide
theorem s_like_like : (("like" : PySem.Str) == "like") = true := by decide
theorem s_like_set : (("like" : PySem.Str) == "set") = false := by decide
theorem s_like_cut : (("like" : PySem.Str) == "cut") = false := by decide
theorem s_like_save : (("like" : PySem.Str) == "save") = false := by decide
theorem s_cut_like' : (("cut" : PySem.Str) == "like") = false := by decide
theorem s_save_save : (("save" : PySem.Str) == "save") = true := by decide
theorem s_save_set : (("save" : PySem.Str) == "set") = false := by decide
theorem s_save_cut : (("save" : PySem.Str) == "cut") = false := by decide
theorem s_save_like : (("save" : PySem.Str) == "like") = false := by decide
theorem c_literals_of {ts : List (Int × Int)} {dg : Int} (hl : ts.length ≤ 100000) (S : Store) : callV false f_literals_of [sumD ts dg] S = .ok (.tup ((ts.map fun t => t.1).map D.int)) S := by
  refine callV_ok S (S0 := []) ?_ rfl (by simp) (by simp [frees_ints, -List.map_map])
  show m_literals_of [] _ = _
  unfold m_literals_of runB b_literals_of t_literals_of_1
  have e1 : evE e_literals_of_0 [some (sumD ts dg), none, none] [] = .ok (.lst ((ts.map fun t => t.1).map D.int)) [] := by
    unfold e_literals_of_0
    rw [List.map_map]
    exact ev_lcA (enc := pairD) (g := []) (by simp [ev_v, sumD]) rfl (sz100000 hl) fun x hx => ⟨_, rfl, by simp [ev_v, pairD]⟩
  simp [eb_cons, ev_v, e1, -List.map_map]
theorem good_sums {most l : Int} {ss : List SumP} (h : ∀ p ∈ ss, SaveOk most l p) : D.goods (ss.map sumP) = true := goods_iff.mpr fun x hx => by
  obtain ⟨p, hp, rfl⟩ := List.mem_map.mp hx
  exact good_sum (by have := (h p hp).len; omega)
theorem good_way {most : Int} {w : Way} (h : WayOk most w) : (wayD w).good = true := by
  cases w with
  | save l ss =>
    obtain ⟨_, _, h3, h4⟩ := h
    have := good_sums h4
    have : ss.length ≤ 100000 := by omega
    simp [wayD, D.good, D.goods, *]
  | _ => rfl
theorem c_is_way {most : Int} {w : Way} (h : WayOk most w) (S : Store) : callV false f_is_way [wayD w] S = .ok (.bl true) S := by
  refine callV_ok S (S0 := []) ?_ rfl (by simp [free_way]) rfl
  show m_is_way [] _ = _
  unfold m_is_way runB b_is_way t_is_way_5 t_is_way_6 t_is_way_7 t_is_way_8 t_is_way_9 u_is_way_0 u_is_way_1 u_is_way_2 u_is_way_3
  have hr := fun S => c_is_row (wayD w) (free_way w) 2 3 S
  cases w with
  | set a =>
    obtain ⟨h1, h2⟩ := h
    simp only [wayD, rowB, List.length_cons, List.length_nil] at hr
    have := fun S => c_is_index (.int a) rfl S
    simp [eb_cons, ev_v, wayD, hr, in_strs, s_set_set, this, fromB, h1]
  | cut k =>
    obtain ⟨h1, h2⟩ := h
    simp only [wayD, rowB, List.length_cons, List.length_nil] at hr
    have := fun S => c_is_index (.int k) rfl S
    simp [eb_cons, ev_v, wayD, hr, in_strs, s_set_cut, s_cut_cut, this, fromB, h1]
  | like b a =>
    obtain ⟨h1, h2, h3, h4, h5⟩ := h
    simp only [wayD, rowB, List.length_cons, List.length_nil] at hr
    have q1 := fun S => c_is_index (.int b) rfl S
    have q2 := fun S => c_is_index (.int a) rfl S
    simp [eb_cons, ev_v, wayD, hr, in_strs, s_set_like, s_cut_like, s_like_like, eq_str, q1, q2, fromB, h1, h3, d2, h5]
  | save l ss =>
    obtain ⟨h1, h2, h3, h4⟩ := h
    simp only [wayD, rowB, List.length_cons, List.length_nil] at hr
    have q1 := fun S => c_is_index (.int l) rfl S
    have e1 : evE e_is_way_4 [some (wayD (.save l ss)), none] [] = .ok (.lst (ss.map fun _ => D.bl true)) [] := by
      unfold e_is_way_4
      refine ev_lcA (enc := sumP) (g := []) (by simp [ev_v, wayD]) rfl (sz100000 (by omega)) fun p hp => ⟨_, rfl, ?_⟩
      obtain ⟨w, hw⟩ := (h4 p hp).in_
      have k1 := fun S => c_is_sum_ok (h4 p hp).ok p.2 S
      have k2 := fun S => c_literals_of (dg := p.2) (h4 p hp).ok.len S
      have k3 : ((p.1.map fun t => t.1).any fun z => z == l) = true := by
        rw [List.any_eq_true]; exact ⟨l, List.mem_map.mpr ⟨_, hw, rfl⟩, by simp⟩
      simp only [ev_and, ev_and2, ev_and1, ev_call, ev_consL, ev_nilL, ev_v, List.set_cons_succ, List.set_cons_zero, List.getElem?_cons_succ, List.getElem?_cons_zero, R.bind_ok, wipe_cons, wipe_nil, sumP, k1, tr_bl, ev_cmp, ev_ix, ev_int, wayD, ix_tup, atI1, optR_some, k2, cmp_inn, in_ints, k3]
    have a1 : (ss.map fun _ => true).all id = true := by simp
    simp only [wayD] at e1
    simp [eb_cons, ev_v, wayD, hr, in_strs, s_set_save, s_cut_save, s_save_like, s_save_save, eq_str, q1, fromB, h1, e1, all_lst (asBls_map' _ _), a1, -List.map_const']
end LW

namespace LW
open PX
theorem c_are_ways {xs : List D} (f : D → Bool) (h : ∀ x ∈ xs, ∀ S, callV false f_is_way [x] S = .ok (.bl (f x)) S) (hf : D.frees xs = true) (hl : xs.length ≤ 100000) (S : Store) : callV false f_are_ways [.tup xs] S = .ok (.bl (xs.all f)) S := by
  refine callV_ok S (S0 := []) ?_ rfl (by simp [hf]) rfl
  show m_are_ways [] _ = _
  unfold m_are_ways runB b_are_ways t_are_ways_1
  have e1 : evE e_are_ways_0 [some (.tup xs), none] [] = .ok (.lst (xs.map fun d => D.bl (f d))) [] := by
    unfold e_are_ways_0
    exact ev_lcA (enc := id) (g := []) (by simp [ev_v]) rfl (sz100000 hl) fun x hx => ⟨_, rfl, by simp [ev_v, h x hx]⟩
  have a1 : (xs.map f).all id = xs.all f := by rw [List.all_map]; rfl
  simp [eb_cons, ev_v, e1, all_lst (asBls_map' _ _), a1, -List.all_map]
section
variable {most : Int} {ws : List Way}
theorem ways_true (h : ∀ w ∈ ws, WayOk most w) : ∀ x ∈ ws.map wayD, ∀ S, callV false f_is_way [x] S = .ok (.bl true) S := fun x hx S => by
  obtain ⟨w, hw, rfl⟩ := List.mem_map.mp hx
  exact c_is_way (h w hw) S
theorem c_are_ways_ok (h : ∀ w ∈ ws, WayOk most w) (hl : ws.length ≤ 1000) (S : Store) : callV false f_are_ways [.tup (ws.map wayD)] S = .ok (.bl true) S := by
  rw [c_are_ways (fun _ => true) (ways_true h) (frees_ways ws) (by simp; omega)]
  simp
theorem c_need_ways (h : ∀ w ∈ ws, WayOk most w) (hl : ws.length ≤ 1000) (S : Store) : callV false f_need_ways [.tup (ws.map wayD)] S = .ok .non S := by
  refine callV_ok S (S0 := []) ?_ rfl (by simp [frees_ways]) rfl
  show m_need_ways [] _ = _
  unfold m_need_ways runB b_need_ways
  simp [eb_cons, ev_v, c_are_ways_ok h hl]
end
theorem n_need_ways {d : D} (hf : d.free = true) (h : ∀ S, callV false f_are_ways [d] S = .ok (.bl false) S) (S : Store) : callV false f_need_ways [d] S = .exc "BadWays" S := by
  refine callV_exc S (S0 := []) ?_ rfl (by simp [hf])
  show m_need_ways [] _ = _
  unfold m_need_ways runB b_need_ways
  simp [eb_cons, ev_v, h]
/-! ### a row in a cell -/
section
variable {S : Store} {n : Nat} {bs : List Int}
theorem c_is_true {l : Int} (hS : S[n]? = some (.lst (bs.map D.int))) (h0 : 0 ≤ l) (h1 : l / 2 < bs.length) : callV true f_is_true [.int l, .adr n] S = .ok (.bl (trI bs l)) S := by
  show m_is_true S _ = _
  unfold m_is_true runB b_is_true
  simp [eb_cons, ev_v, d2, ix_cell _ hS, atI_val h0 h1, and1, trI]
theorem c_worth {ts : List (Int × Int)} {dg : Int} (hS : S[n]? = some (.lst (bs.map D.int))) (hl : ts.length ≤ 100000) (hv : ∀ t ∈ ts, 0 ≤ t.1 ∧ t.1 / 2 < bs.length) : callV true f_worth [sumD ts dg, .adr n] S = .ok (.int (worthI ts bs)) S := by
  show m_worth S _ = _
  unfold m_worth runB b_worth t_worth_1
  have e1 : evE e_worth_0 [some (sumD ts dg), some (.adr n), none, none] S = .ok (.lst ((ts.filter fun t => trI bs t.1).map fun t => D.int t.2)) S := by
    unfold e_worth_0
    exact ev_lc (enc := pairD) (g := []) (by simp [ev_v, sumD]) rfl (sz100000 hl) fun x hx => ⟨_, rfl, by simp [ev_v, pairD, c_is_true hS (hv x hx).1 (hv x hx).2], fun _ => by simp [ev_v, pairD]⟩
  simp [eb_cons, ev_v, e1, sum_lst (asInts_map' _ _), worthI]
theorem c_keeps {ts : List (Int × Int)} {dg : Int} (hS : S[n]? = some (.lst (bs.map D.int))) (hl : ts.length ≤ 100000) (hv : ∀ t ∈ ts, 0 ≤ t.1 ∧ t.1 / 2 < bs.length) : callV true f_keeps [sumD ts dg, .adr n] S = .ok (.bl (decide (dg ≤ worthI ts bs))) S := by
  show m_keeps S _ = _
  unfold m_keeps runB b_keeps
  simp [eb_cons, ev_v, c_worth hS hl hv, ix1_sum]
theorem set_row {i : Int} {x : Int} (hS : S[n]? = some (.lst (bs.map D.int))) (h0 : 0 ≤ i) (h1 : i < bs.length) : setV S (.adr n) (.int i) (.int x) = .ok () (S.set n (.lst ((bs.set i.toNat x).map D.int))) := by
  rw [set_cell (k := i.toNat) hS (by omega) (by simp; omega), List.map_set]
theorem c_put_true {l : Int} {b : Bool} (hS : S[n]? = some (.lst (bs.map D.int))) (h0 : 0 ≤ l) (h1 : l / 2 < bs.length) : callV true f_put_true [.adr n, .int l, .bl b] S = .ok .non (S.set n (.lst ((bs.set (l / 2).toNat (if b = true then 1 - l % 2 else l % 2)).map D.int))) := by
  show m_put_true S _ = _
  unfold m_put_true runB b_put_true
  have e1 : biV .int S [.bl b] = .ok (.int (if b = true then 1 else 0)) S := rfl
  have e2 := set_row (x := if b = true then 1 - l % 2 else l % 2) hS (show 0 ≤ l / 2 by omega) h1
  simp [eb_cons, ev_v, d2, e1, and1, bx, e2]
theorem set_same {c : Cell} (h : S[n]? = some c) : S.set n c = S := by
  obtain ⟨h1, rfl⟩ := List.getElem?_eq_some_iff.mp h
  exact List.set_getElem_self h1
theorem c_go_back {most : Int} {w : Way} (hw : WayOk most w) (hS : S[n]? = some (.lst (bs.map D.int))) (hv : ∀ v ∈ varsW w, 0 ≤ v ∧ v < bs.length) : callV true f_go_back [.adr n, wayD w] S = .ok .non (S.set n (.lst ((goW w bs).map D.int))) := by
  show m_go_back S _ = _
  unfold m_go_back runB b_go_back t_go_back_6 u_go_back_0 u_go_back_5 u_go_back_1 u_go_back_4 u_go_back_3
  cases w with
  | set a =>
    have h1 := hv (a / 2) (by simp [varsW])
    have e1 := c_put_true (l := a) (b := true) hS hw.1 h1.2
    simp [eb_cons, ev_v, wayD, eq_str, s_set_set, e1, goW]
  | cut k =>
    simp [eb_cons, ev_v, wayD, eq_str, s_cut_set, s_cut_like, s_cut_save, goW, set_same hS]
  | like b a =>
    obtain ⟨h1, h2, h3, h4, h5⟩ := hw
    have k1 := hv b (by simp [varsW])
    have k2 := hv (a / 2) (by simp [varsW])
    have e1 := c_is_true hS h3 k2.2
    have e2 := c_put_true (l := 2 * b) (b := trI bs a) hS (by omega) (by omega)
    have z1 : 2 * b / 2 = b := by omega
    have z2 : 2 * b % 2 = 0 := by omega
    rw [z1, z2] at e2
    simp [eb_cons, ev_v, wayD, eq_str, s_like_set, s_like_like, m4, e1, e2, goW]
  | save l ss =>
    obtain ⟨h1, h2, h3, h4⟩ := hw
    have k1 := hv (l / 2) (by simp [varsW])
    have e1 := c_put_true (l := l) (b := false) hS h1 k1.2
    simp only [Bool.false_eq_true, if_false] at e1
    have hS1 := set_at (c' := .lst ((bs.set (l / 2).toNat (l % 2)).map D.int)) hS
    have e3 : evE e_go_back_2 [some (.adr n), some (wayD (.save l ss)), none] (S.set n (.lst ((bs.set (l / 2).toNat (l % 2)).map D.int))) = .ok (.lst (ss.map fun p => D.bl (brokenI (bs.set (l / 2).toNat (l % 2)) p))) (S.set n (.lst ((bs.set (l / 2).toNat (l % 2)).map D.int))) := by
      unfold e_go_back_2
      refine ev_lcA (enc := sumP) (g := []) (by simp [ev_v, wayD]) rfl (sz100000 (by omega)) fun p hp => ⟨_, rfl, ?_⟩
      have q := c_keeps (dg := p.2) hS1 (h4 p hp).ok.len fun t ht => by
        have := ((h4 p hp).ok.tm t ht).1
        have := hv (t.1 / 2) (by simp only [varsW, List.mem_cons, List.mem_flatMap, List.mem_map]; exact .inr ⟨p, hp, t, ht, rfl⟩)
        simp only [List.length_set]; omega
      have nb : (!decide (p.2 ≤ worthI p.1 (bs.set (l / 2).toNat (l % 2)))) = brokenI (bs.set (l / 2).toNat (l % 2)) p := by
        unfold brokenI
        by_cases h : p.2 ≤ worthI p.1 (bs.set (l / 2).toNat (l % 2))
        · rw [decide_eq_true h, decide_eq_false (by omega)]; rfl
        · rw [decide_eq_false h, decide_eq_true (by omega)]; rfl
      simp only [sumP, ev_not, ev_call, ev_consL, ev_nilL, ev_v, List.set_cons_succ, List.set_cons_zero, List.getElem?_cons_succ, List.getElem?_cons_zero, R.bind_ok, wipe_cons, wipe_nil, q, tr_bl, nb]
    have e4 : ∀ S0, biV .any S0 [.lst (ss.map fun p => D.bl (brokenI (bs.set (l / 2).toNat (l % 2)) p))] = .ok (.bl (ss.any (brokenI (bs.set (l / 2).toNat (l % 2))))) S0 := fun S0 => by
      rw [any_lst (asBls_map' _ _), List.any_map]; rfl
    have e5 := c_put_true (l := l) (b := ss.any (brokenI (bs.set (l / 2).toNat (l % 2)))) hS1 h1 (by simpa using k1.2)
    rw [List.set_set] at e5
    have e6 : (if (ss.any (brokenI (bs.set (l / 2).toNat (l % 2)))) = true then 1 - l % 2 else l % 2) = (if (ss.any (brokenI (bs.set (l / 2).toNat (l % 2)))) = true then 1 - l % 2 else l % 2) := rfl
    simp only [wayD] at e3
    simp [eb_cons, ev_v, wayD, eq_str, s_save_set, s_save_like, s_save_save, e1, e3, e4, e5, goW, -List.any_eq_true, -List.map_set]
    split <;> simp_all
end
end LW

namespace PX
theorem goAll_len (ws : List Way) : ∀ bs : List Int, (goAll ws bs).length = bs.length := by
  induction ws with
  | nil => intro bs; rfl
  | cons w ws ih => intro bs; show (goAll ws (goW w bs)).length = _; rw [ih, goW_len]
theorem goAll_bits (ws : List Way) : ∀ {bs : List Int}, Bits bs → Bits (goAll ws bs) := by
  induction ws with
  | nil => intro bs h; exact h
  | cons w ws ih => intro bs h; exact ih (goW_bits w h)
theorem goAll_snoc (ws : List Way) (w : Way) (bs : List Int) : goAll (ws ++ [w]) bs = goW w (goAll ws bs) := by simp [goAll]
/-- the greatest one -/
theorem maxI_iff : ∀ {xs : List Int} {c : Int}, xs ≠ [] → (maxI xs ≤ c ↔ ∀ x ∈ xs, x ≤ c)
  | [], _, h => absurd rfl h
  | [x], c, _ => by simp [maxI]
  | x :: y :: r, c, _ => by
    have ih := maxI_iff (xs := y :: r) (c := c) (by simp)
    rw [List.forall_mem_cons, ← ih]
    simp only [maxI]
    split <;> omega
theorem maxL_lst {S : Store} {xs : List D} {ns : List Int} (h : asInts xs = some ns) (hn : ns ≠ []) : biV .maxL S [.lst xs] = .ok (.int (maxI ns)) S := by
  show (match (some xs).bind asInts with | some ns => guardR (!ns.isEmpty) (R.ok (D.int (maxI ns)) S) | none => .stuck) = _
  rw [Option.bind_some, h]
  have : ns.isEmpty = false := by cases ns <;> simp_all
  dsimp only
  rw [this]; rfl
theorem add_lst {S : Store} {xs ys : List D} (h : xs.length + ys.length ≤ 1000000) : binV .add S (D.lst xs) (D.lst ys) = R.ok (D.lst (xs ++ ys)) S := by
  show guardR (decide (xs.length + ys.length ≤ PySem.sizeLine)) (R.ok (D.lst (xs ++ ys)) S) = _
  rw [decide_eq_true (Nat.le_trans h (by decide)), guardR_true]
end PX
namespace LW
open PX
section
variable {S : Store} {bs : List Int} {most : Int} {ws : List Way}
theorem w_gone_back (hw : ∀ w ∈ ws, WayOk most w) (hl : ws.length ≤ 1000) (hb : bs.length ≤ 100000) (hv : ∀ w ∈ ws, ∀ v ∈ varsW w, 0 ≤ v ∧ v < bs.length) {Q : D → Store → Prop}
    (hQ : ∀ S', S'[S.length]? = some (.lst ((goAll ws.reverse bs).map D.int)) → Q (.adr S.length) S') : (callV true f_gone_back [.tup (ws.map wayD), .tup (bs.map D.int)] S).wp Q := by
  refine wp_callT ?_ rfl
  show (m_gone_back S _).wp Q
  unfold m_gone_back
  rw [wp_run]
  unfold b_gone_back
  rw [wpB_cons]
  unfold t_gone_back_1
  have e1 : biV .listM S [.tup (bs.map D.int)] = .ok (.adr S.length) (S ++ [.lst (bs.map D.int)]) := rfl
  simp [ev_v, e1]
  unfold t_gone_back_2
  have e2 : ∀ S, revW S (.tup (ws.map wayD)) = some ⟨(ws.reverse).map wayD, []⟩ := fun S => by simp [revW, seqW, tupW]
  simp [ev_v, e2, -List.map_reverse]
  obtain ⟨P, hP⟩ : ∃ P : Nat → Env → Store → Prop, P = fun i ρ S' => ∃ x3, ρ = [some (.tup (ws.map wayD)), some (.tup (bs.map D.int)), some (.adr S.length), x3] ∧ S'[S.length]? = some (.lst ((goAll (ws.reverse.take i) bs).map D.int)) := ⟨_, rfl⟩
  refine wp_for (w := ⟨(ws.reverse).map wayD, []⟩) P (by rw [hP]; exact ⟨none, rfl, app_at _⟩) (fun _ _ _ _ => rfl) ?_ ?_
  · intro i d ρ S' hd hp
    rw [hP] at hp
    obtain ⟨x3, rfl, hS⟩ := hp
    refine ⟨_, rfl, ?_⟩
    rw [List.getElem?_map] at hd
    cases hq : ws.reverse[i]? with
    | none => rw [hq] at hd; cases hd
    | some w =>
      rw [hq] at hd
      cases hd
      have hm : w ∈ ws := List.mem_reverse.mp (List.mem_of_getElem? hq)
      have g := c_go_back (hw w hm) hS fun v hv2 => by rw [goAll_len]; exact hv w hm v hv2
      unfold u_gone_back_0
      simp [ev_v, g]
      rw [hP]
      refine ⟨_, rfl, ?_⟩
      rw [set_at hS, List.take_add_one, hq, show (some w).toList = [w] from rfl, goAll_snoc]
  · intro ρ S' hp
    rw [hP] at hp
    obtain ⟨x3, rfl, hS⟩ := hp
    simp only [List.length_map, List.take_length] at hS
    simp
    unfold t_gone_back_3
    simp [ev_v]
    exact hQ S' hS
/-! ### the law's own -/
theorem law_save {n : Nat} {l : Int} {ss : List SumP} (hS : S[n]? = some (.lst (bs.map D.int))) (hbit : Bits bs) (h1 : 0 ≤ l) (k1 : l / 2 < bs.length) (hok : ∀ p ∈ ss, SumOk p.1 ∧ ∀ t ∈ p.1, 0 ≤ t.1 ∧ t.1 / 2 < bs.length) {a b c d x5 x8 x9 x10 x11 : Option D} {Q : Fl → Env → Store → Prop}
    (hQ : ∀ y8 y9, Q .next [a, b, c, some (.adr n), d, x5, some (.int (l / 2)), some (.int (l % 2)), y8, y9, x10, x11] (S.set n (.lst ((if (ss.any (brokenI (bs.set (l / 2).toNat (l % 2)))) = true then (bs.set (l / 2).toNat (l % 2)).set (l / 2).toNat (1 - l % 2) else bs.set (l / 2).toNat (l % 2)).map D.int)))) :
    (forLoop ⟨ss.map sumP, []⟩ (.tup [8, 9]) (evB 0 u__law_back_4) (ss.map sumP) [a, b, c, some (.adr n), d, x5, some (.int (l / 2)), some (.int (l % 2)), x8, x9, x10, x11] (S.set n (.lst ((bs.set (l / 2).toNat (l % 2)).map D.int)))).wp Q := by
  obtain ⟨v0, hv0⟩ : ∃ v0, v0 = bs.set (l / 2).toNat (l % 2) := ⟨_, rfl⟩
  obtain ⟨v1, hv1⟩ : ∃ v1, v1 = v0.set (l / 2).toNat (1 - l % 2) := ⟨_, rfl⟩
  rw [← hv0] at hQ ⊢
  rw [← hv1] at hQ
  have b0 : Bits v0 := by rw [hv0]; exact hbit.set _ (by omega)
  have b1 : Bits v1 := by rw [hv1]; exact b0.set _ (by omega)
  have n0 : v0.length = bs.length := by rw [hv0]; simp
  have n1 : v1.length = bs.length := by rw [hv1]; simp [n0]
  have s1 : ∀ x : Int, v1.set (l / 2).toNat (1 - l % 2) = v1 := fun x => by rw [hv1, List.set_set]
  obtain ⟨P, hP⟩ : ∃ P : Nat → Env → Store → Prop, P = fun i ρ S' => ∃ y8 y9, ρ = [a, b, c, some (.adr n), d, x5, some (.int (l / 2)), some (.int (l % 2)), y8, y9, x10, x11] ∧ S' = S.set n (.lst ((if ((ss.take i).any (brokenI v0)) = true then v1 else v0).map D.int)) := ⟨_, rfl⟩
  refine wp_for (w := ⟨ss.map sumP, []⟩) P (by rw [hP]; exact ⟨x8, x9, rfl, by simp⟩) (fun _ _ _ _ => rfl) ?_ ?_
  · intro i e ρ S' he hp
    rw [hP] at hp
    obtain ⟨y8, y9, rfl, hS'⟩ := hp
    rw [List.getElem?_map] at he
    cases hq : ss[i]? with
    | none => rw [hq] at he; cases he
    | some p =>
      obtain ⟨ts, dg⟩ := p
      rw [hq] at he
      cases he
      obtain ⟨k2, k3⟩ := hok _ (List.mem_of_getElem? hq)
      refine ⟨_, rfl, ?_⟩
      -- the row now
      obtain ⟨v, hv⟩ : ∃ v, v = (if ((ss.take i).any (brokenI v0)) = true then v1 else v0) := ⟨_, rfl⟩
      rw [← hv] at hS'
      have bv : Bits v := by rw [hv]; split <;> assumption
      have nv : v.length = bs.length := by rw [hv]; split <;> assumption
      have sv : v.set (l / 2).toNat (1 - l % 2) = v1 := by rw [hv]; split; exact s1 0; exact hv1.symm
      have hS2 : S'[n]? = some (.lst (v.map D.int)) := by rw [hS']; exact set_at hS
      have e1 : ∀ ρ : Env, ρ[3]? = some (some (.adr n)) → ρ[8]? = some (some (.tup (ts.map pairD))) → 12 ≤ ρ.length → evE e__law_back_2 ρ S' = .ok (.lst ((ts.filter fun t => trL v t.1).map fun t => D.int t.2)) S' := fun ρ r3 r8 rl => by
        unfold e__law_back_2
        refine ev_lc (enc := pairD) (g := []) (by simp [ev_v, r8]) rfl (sz100000 k2.len) fun x hx => ⟨_, rfl, ?_, fun _ => ?_⟩
        · have q1 := (k3 x hx).1
          have q2 := (k3 x hx).2
          have z3 : ((((ρ.set 11 none).set 10 none).set 10 (some (D.int x.1))).set 11 (some (D.int x.2)))[3]? = some (some (.adr n)) := by
            rw [List.getElem?_set_ne (by decide), List.getElem?_set_ne (by decide), List.getElem?_set_ne (by decide), List.getElem?_set_ne (by decide)]; exact r3
          have z10 : ((((ρ.set 11 none).set 10 none).set 10 (some (D.int x.1))).set 11 (some (D.int x.2)))[10]? = some (some (.int x.1)) := by
            rw [List.getElem?_set_ne (by decide)]; exact List.getElem?_set_self (by simp; omega)
          have := atI_val (bs := v) q1 (by rw [nv]; exact q2)
          simp only [pairD, wipe_cons, wipe_nil, ev_someC, ev_cmp, ev_ix, ev_bin, ev_int, ev_v, z3, z10, R.bind_ok, bin_int, d2, guardR_true, ix_cell _ hS2, this, optR_some, cmp_eq, m5, eq_int, Bool.false_eq_true, if_false, tr_bl]
          rfl
        · have z11 : ((((ρ.set 11 none).set 10 none).set 10 (some (D.int x.1))).set 11 (some (D.int x.2)))[11]? = some (some (.int x.2)) := List.getElem?_set_self (by simp; omega)
          simp only [pairD, wipe_cons, wipe_nil, ev_v, z11]
      have e2 : ((ts.filter fun t => trL v t.1).map fun t => t.2).sum = worthI ts v := by
        unfold worthI
        rw [List.filter_congr fun t ht => trL_is bv (k3 t ht).1 (by rw [nv]; exact (k3 t ht).2)]
      have e3 := e1 [a, b, c, some (.adr n), d, x5, some (.int (l / 2)), some (.int (l % 2)), some (.tup (ts.map pairD)), some (.int dg), x10, x11] rfl rfl (by simp)
      have e4 := set_row (x := 1 - l % 2) hS2 (show 0 ≤ l / 2 by omega) (by rw [nv]; exact k1)
      rw [sv] at e4
      have step : ∀ S3, S3 = S.set n (.lst ((if ((ss.take (i + 1)).any (brokenI v0)) = true then v1 else v0).map D.int)) → P (i + 1) [a, b, c, some (.adr n), d, x5, some (.int (l / 2)), some (.int (l % 2)), some (.tup (ts.map pairD)), some (.int dg), x10, x11] S3 := fun S3 h => by
        rw [hP]; exact ⟨_, _, rfl, h⟩
      have tk : (ss.take (i + 1)).any (brokenI v0) = ((ss.take i).any (brokenI v0) || brokenI v0 (ts, dg)) := by
        rw [List.take_add_one, hq]; simp
      unfold u__law_back_4 u__law_back_3
      by_cases hlt : worthI ts v < dg
      · simp [ev_v, e3, sum_lst (asInts_map' _ _), e2, hlt, e4]
        refine step _ ?_
        have : (ss.take (i + 1)).any (brokenI v0) = true := by
          rw [tk]
          cases hb : (ss.take i).any (brokenI v0) with
          | true => rfl
          | false =>
            rw [hb] at hv
            simp only [Bool.false_eq_true, if_false] at hv
            rw [← hv]
            simp [brokenI, hlt]
        rw [this, if_pos rfl, hS', List.set_set]
      · simp [ev_v, e3, sum_lst (asInts_map' _ _), e2, hlt]
        refine step _ ?_
        rw [hS', hv, tk]
        cases hb : (ss.take i).any (brokenI v0) with
        | true => rfl
        | false =>
          rw [hb] at hv
          simp only [Bool.false_eq_true, if_false] at hv
          have : brokenI v0 (ts, dg) = false := by rw [← hv]; simp [brokenI]; omega
          rw [this]; rfl
  · intro ρ S' hp
    rw [hP] at hp
    obtain ⟨y8, y9, rfl, hS'⟩ := hp
    simp only [List.length_map, List.take_length] at hS'
    rw [hS']
    exact hQ y8 y9
end
end LW

namespace PX
def backD (ws : List Way) (bs : List Int) (many : Nat) : D := .tup (((goAll ws.reverse bs).take many).map D.int)
/-- the least number of values -/
def hiW (w : Way) : Int := match varsW w with
  | [] => -1
  | v :: vs => maxI (v :: vs)
theorem hiW_iff {w : Way} {c : Int} (h : -1 ≤ c) : hiW w ≤ c ↔ ∀ v ∈ varsW w, v ≤ c := by
  unfold hiW
  cases e : varsW w with
  | nil => simp [h]
  | cons v vs => exact maxI_iff (by simp)
def leastI (many : Int) (ws : List Way) : Int := maxI (many :: ws.map fun w => hiW w + 1)
theorem leastI_iff {many c : Int} {ws : List Way} (hm : 0 ≤ many) : leastI many ws ≤ c ↔ many ≤ c ∧ ∀ w ∈ ws, ∀ v ∈ varsW w, v < c := by
  unfold leastI
  rw [maxI_iff (by simp), List.forall_mem_cons]
  constructor
  · intro ⟨h1, h2⟩
    refine ⟨h1, fun w hw v hv => ?_⟩
    have := h2 _ (List.mem_map.mpr ⟨w, hw, rfl⟩)
    have := (hiW_iff (w := w) (c := c - 1) (by omega)).mp (by omega) v hv
    omega
  · intro ⟨h1, h2⟩
    refine ⟨h1, fun x hx => ?_⟩
    obtain ⟨w, hw, rfl⟩ := List.mem_map.mp hx
    have := (hiW_iff (w := w) (c := c - 1) (by omega)).mpr fun v hv => by have := h2 w hw v hv; omega
    omega
def wantI (ws : List Way) : Int := maxI (-1 :: ws.flatMap varsW) + 1
theorem wantI_iff {c : Int} {ws : List Way} (hc : 0 ≤ c) : wantI ws ≤ c ↔ ∀ w ∈ ws, ∀ v ∈ varsW w, v < c := by
  have h := maxI_iff (xs := -1 :: ws.flatMap varsW) (c := c - 1) (by simp)
  rw [List.forall_mem_cons] at h
  unfold wantI
  constructor
  · intro k w hw v hv
    have := (h.mp (by omega)).2 v (List.mem_flatMap.mpr ⟨w, hw, hv⟩)
    omega
  · intro k
    have := h.mpr ⟨by omega, fun v hv => by
      obtain ⟨w, hw, hv⟩ := List.mem_flatMap.mp hv
      have := k w hw v hv
      omega⟩
    omega
theorem wantI_nonneg (ws : List Way) : 0 ≤ wantI ws := by
  have h := (maxI_iff (xs := -1 :: ws.flatMap varsW) (c := maxI (-1 :: ws.flatMap varsW)) (by simp)).mp (Int.le_refl _) (-1) List.mem_cons_self
  unfold wantI; omega
theorem least_want {many : Int} {ws : List Way} (hm : 0 ≤ many) : leastI many ws = (if wantI ws > many then wantI ws else many) := by
  have h1 := wantI_nonneg ws
  apply Int.le_antisymm
  · rw [leastI_iff hm]
    split
    · exact ⟨by omega, (wantI_iff h1).mp (Int.le_refl _)⟩
    · exact ⟨Int.le_refl _, (wantI_iff hm).mp (by omega)⟩
  · have h := (leastI_iff (c := leastI many ws) hm).mp (Int.le_refl _)
    have := (wantI_iff (c := leastI many ws) (by omega)).mpr h.2
    split <;> omega
end PX
namespace LW
open PX
theorem flat_len {α β : Type} {k m : Nat} {xs : List α} {f : α → List β} (h3 : xs.length ≤ k) (h : ∀ x ∈ xs, (f x).length ≤ m) : (xs.flatMap f).length ≤ k * m := by
  have : (xs.flatMap f).length ≤ xs.length * m := by
    induction xs with
    | nil => simp
    | cons x xs ih =>
      rw [List.flatMap_cons, List.length_append, List.length_cons, Nat.add_mul, Nat.one_mul]
      have := h x List.mem_cons_self
      have := ih (Nat.le_trans (Nat.le_succ _) h3) fun y hy => h y (List.mem_cons_of_mem _ hy)
      omega
  exact Nat.le_trans this (Nat.mul_le_mul_right m h3)
section
variable {S : Store} {bs : List Int} {most : Int} {ws : List Way}
theorem c_law_back {many : Nat} (hw : ∀ w ∈ ws, WayOk most w) (hl : ws.length ≤ 1000) (hb : bs.length ≤ 100000) (hbit : Bits bs) (hv : ∀ w ∈ ws, ∀ v ∈ varsW w, 0 ≤ v ∧ v < bs.length) : callV false f__law_back [.tup (ws.map wayD), .tup (bs.map D.int), .int (many : Int)] S = .ok (backD ws bs many) S := by
  refine call_wp S ?_ rfl (by simp [frees_ways, frees_ints]) (by simp only [backD, fr_tup, frees_ints])
  show (m__law_back [] _).wp _
  obtain ⟨Q, hQ⟩ : ∃ Q : D → Store → Prop, Q = fun x _ => x = backD ws bs many := ⟨_, rfl⟩
  rw [← hQ]
  unfold m__law_back
  rw [wp_run]
  unfold b__law_back
  rw [wpB_cons]
  unfold t__law_back_9
  have e1 : biV .listM [] [.tup (bs.map D.int)] = .ok (.adr 0) [.lst (bs.map D.int)] := rfl
  simp [ev_v, e1]
  unfold t__law_back_10
  have e2 : ∀ S, backV S (.tup (ws.map wayD)) = .ok (.tup ((ws.reverse).map wayD)) S := fun S => by simp [backV, tupW]
  simp [ev_v, e2, -List.map_reverse]
  obtain ⟨P, hP⟩ : ∃ P : Nat → Env → Store → Prop, P = fun i ρ S' => ∃ x4 x5 x6 x7 x8 x9, ρ = [some (.tup (ws.map wayD)), some (.tup (bs.map D.int)), some (.int (many : Int)), some (.adr 0), x4, x5, x6, x7, x8, x9, none, none] ∧ S' = [.lst ((goAll (ws.reverse.take i) bs).map D.int)] := ⟨_, rfl⟩
  refine wp_for (w := ⟨(ws.reverse).map wayD, []⟩) P (by rw [hP]; exact ⟨_, _, _, _, _, _, rfl, rfl⟩) (fun _ _ _ _ => rfl) ?_ ?_
  · intro i d ρ S' hd hp
    rw [hP] at hp
    obtain ⟨x4, x5, x6, x7, x8, x9, rfl, hS'⟩ := hp
    refine ⟨_, rfl, ?_⟩
    rw [List.getElem?_map] at hd
    cases hq : ws.reverse[i]? with
    | none => rw [hq] at hd; cases hd
    | some w =>
      rw [hq] at hd
      cases hd
      have hm : w ∈ ws := List.mem_reverse.mp (List.mem_of_getElem? hq)
      have hok := hw w hm
      obtain ⟨v, hv0⟩ : ∃ v, v = goAll (ws.reverse.take i) bs := ⟨_, rfl⟩
      have nv : v.length = bs.length := by rw [hv0, goAll_len]
      have bv : Bits v := by rw [hv0]; exact goAll_bits _ hbit
      have hvar : ∀ u ∈ varsW w, 0 ≤ u ∧ u < v.length := fun u hu => by rw [nv]; exact hv w hm u hu
      rw [← hv0] at hS'
      have hS : S'[0]? = some (.lst (v.map D.int)) := by rw [hS']; rfl
      have fin : ∀ (x5 x6 x7 x8 x9 : Option D) S3, S3 = S'.set 0 (.lst ((goW w v).map D.int)) → P (i + 1) [some (.tup (ws.map wayD)), some (.tup (bs.map D.int)), some (.int (many : Int)), some (.adr 0), some (wayD w), x5, x6, x7, x8, x9, none, none] S3 := fun x5 x6 x7 x8 x9 S3 h => by
        rw [hP]
        refine ⟨_, _, _, _, _, _, rfl, ?_⟩
        rw [h, hS', List.take_add_one, hq, show (some w).toList = [w] from rfl, goAll_snoc, ← hv0]
        rfl
      unfold u__law_back_8 u__law_back_0 u__law_back_7 u__law_back_1 u__law_back_6 u__law_back_5
      cases w with
      | set a =>
        have h1 := hvar (a / 2) (by simp [varsW])
        have e3 := set_row (x := 1 - a % 2) hS h1.1 h1.2
        have e4 : a - a / 2 * 2 = a % 2 := by omega
        simp [ev_v, wayD, eq_str, s_set_set, d2, m5, e4, e3]
        have := fin x5 x6 x7 x8 x9 _ rfl
        simpa [wayD, goW] using this
      | cut k =>
        simp [ev_v, wayD, eq_str, s_cut_set, s_cut_like, s_cut_save]
        have := fin x5 x6 x7 x8 x9 S' (by rw [goW, set_same hS])
        simpa [wayD] using this
      | like b a =>
        obtain ⟨h1, h2, h3, h4, h5⟩ := hok
        have k1 := hvar b (by simp [varsW])
        have k2 := hvar (a / 2) (by simp [varsW])
        have e4 : a - a / 2 * 2 = a % 2 := by omega
        have e5 : (valI v a == 1 - a % 2) = trI v a := by rw [← trL_is bv h3 k2.2]; unfold trL; rw [e4]
        have e6 : ∀ S, biV .int S [.bl (trI v a)] = .ok (.int (if trI v a = true then 1 else 0)) S := fun S => rfl
        have e3 := set_row (x := if trI v a = true then 1 else 0) hS k1.1 k1.2
        simp [ev_v, wayD, eq_str, s_like_set, s_like_like, d2, m5, e4, ix_cell _ hS, atI_val h3 k2.2, e5, e6, e3]
        have := fin (some (.bl (trI v a))) x6 x7 x8 x9 _ rfl
        simpa [wayD, goW] using this
      | save l ss =>
        obtain ⟨h1, h2, h3, h4⟩ := hok
        have k1 := hvar (l / 2) (by simp [varsW])
        have e4 : l - l / 2 * 2 = l % 2 := by omega
        have e3 := set_row (x := l % 2) hS k1.1 k1.2
        simp [ev_v, wayD, eq_str, s_save_set, s_save_like, s_save_save, d2, m5, e4, e3, -List.map_set]
        refine law_save hS bv h1 k1.2 (fun p hp => ⟨(h4 p hp).ok, fun t ht => ?_⟩) fun y8 y9 => ?_
        · have q := ((h4 p hp).ok.tm t ht).1
          have := hvar (t.1 / 2) (by simp only [varsW, List.mem_cons, List.mem_flatMap, List.mem_map]; exact .inr ⟨p, hp, t, ht, rfl⟩)
          exact ⟨q, this.2⟩
        · have := fin x5 (some (.int (l / 2))) (some (.int (l % 2))) y8 y9 _ rfl
          simp only [wayD, goW, List.set_set] at this
          simp
          exact this
  · intro ρ S' hp
    rw [hP] at hp
    obtain ⟨x4, x5, x6, x7, x8, x9, rfl, hS'⟩ := hp
    simp only [List.length_map, List.take_length] at hS'
    subst hS'
    simp
    unfold t__law_back_11
    have e3 : slV [.lst ((goAll ws.reverse bs).map D.int)] (.adr 0) none (some (many : Int)) = .ok (.lst (((goAll ws.reverse bs).take many).map D.int)) [.lst ((goAll ws.reverse bs).map D.int)] := by
      have : slV [.lst ((goAll ws.reverse bs).map D.int)] (.adr 0) none (some (many : Int)) = .ok (.lst (cutG ((goAll ws.reverse bs).map D.int) none (some (many : Int)))) [.lst ((goAll ws.reverse bs).map D.int)] := by simp [slV, asLst]
      rw [this, cut_to, List.map_take]
    simp [ev_v, e3, -List.map_take]
    rw [hQ]; rfl
theorem c_highest {w : Way} (hw : WayOk most w) (S : Store) : callV false f_highest [wayD w] S = .ok (.int (hiW w)) S := by
  refine callV_ok S (S0 := []) ?_ rfl (by simp [free_way]) rfl
  show m_highest [] _ = _
  unfold m_highest runB b_highest t_highest_4 t_highest_5 t_highest_6 t_highest_7 u_highest_0 u_highest_1 u_highest_3
  cases w with
  | set a => simp [eb_cons, ev_v, wayD, eq_str, s_set_set, d2, hiW, varsW, maxI]
  | cut k => simp [eb_cons, ev_v, wayD, eq_str, s_cut_set, s_cut_like, s_cut_save, hiW, varsW]
  | like b a =>
    have e : ∀ S, biV .max2 S [.int b, .int (a / 2)] = .ok (.int (maxI [b, a / 2])) S := fun S => by
      show R.ok (D.int (if a / 2 > b then a / 2 else b)) S = _
      congr 2
      have e0 : maxI [b, a / 2] = if b ≤ a / 2 then a / 2 else b := rfl
      rw [e0]
      by_cases h : a / 2 > b
      · rw [if_pos h, if_pos (by omega)]
      · rw [if_neg h]
        by_cases h2 : b ≤ a / 2
        · rw [if_pos h2]; omega
        · rw [if_neg h2]
    simp [eb_cons, ev_v, wayD, eq_str, s_like_set, s_like_like, d2, e, hiW, varsW]
  | save l ss =>
    obtain ⟨h1, h2, h3, h4⟩ := hw
    have hlen : (ss.flatMap fun p => p.1.map fun t => t.1 / 2).length ≤ 100 := flat_len (m := 10) h3 fun p hp => by rw [List.length_map]; exact (h4 p hp).len
    have e1 : evE e_highest_2 [some (wayD (.save l ss)), none, none, none] [] = .ok (.lst ((ss.flatMap fun p => p.1.map fun t => t.1 / 2).map D.int)) [] := by
      unfold e_highest_2
      rw [List.map_flatMap]
      have fe : (fun p : SumP => (p.1.map fun t => t.1 / 2).map D.int) = fun p : SumP => p.1.map fun t => D.int (t.1 / 2) := by funext p; rw [List.map_map]; rfl
      rw [fe]
      refine ev_lc2A (enc := sumP) (enc1 := pairD) (f := fun p => p.1) (y := fun _ t => D.int (t.1 / 2)) (g := []) (by simp [ev_v, wayD]) rfl ?_ fun p hp => ⟨_, rfl, [], by simp [ev_v, sumP, ix0_sum], rfl, fun t ht => ⟨_, rfl, by simp [ev_v, d2]⟩⟩
      have : (ss.flatMap fun p => p.1.map fun t => D.int (t.1 / 2)).length ≤ 100 := flat_len (m := 10) h3 fun p hp => by rw [List.length_map]; exact (h4 p hp).len
      exact sz100000 (by omega)
    have e2 := add_lst (S := []) (xs := [.int (l / 2)]) (ys := (ss.flatMap fun p => p.1.map fun t => t.1 / 2).map D.int) (by simp only [List.length_map, List.length_singleton]; omega)
    have e3 : biV .maxL [] [.lst ((l / 2 :: ss.flatMap fun p => p.1.map fun t => t.1 / 2).map D.int)] = .ok (.int (maxI (l / 2 :: ss.flatMap fun p => p.1.map fun t => t.1 / 2))) [] := maxL_lst (asInts_map _) (by simp)
    simp only [wayD] at e1
    simp only [List.map_cons] at e3
    simp [eb_cons, ev_v, wayD, eq_str, s_save_set, s_save_like, s_save_save, d2, e1, e2, e3, hiW, varsW, -List.map_flatMap]
end
end LW

namespace PX
def probD (many : Int) : D := .tup [.int many, .tup [], .non]
theorem ix0_prob {S : Store} (many : Int) : ixV S (probD many) (.int 0) = .ok (.int many) S := by simp [probD]
theorem bits_all {bs : List Int} (h : Bits bs) : ((bs.map D.int).all fun d => withinB d 0 1) = true := by
  rw [List.all_map, List.all_eq_true]
  intro b hb
  rcases h b hb with e | e <;> rw [e] <;> rfl
end PX
namespace LW
open PX
def Many (many : Nat) : Prop := many = 1 ∨ many = 3 ∨ many = 60
theorem c_need_prob {many : Nat} (h : Many many) (S : Store) : callV false f_need_problem [probD many] S = .ok .non S := by
  rcases h with rfl | rfl | rfl
  · exact outD_call S (by decide +kernel) rfl rfl rfl
  · exact outD_call S (by decide +kernel) rfl rfl rfl
  · exact outD_call S (by decide +kernel) rfl rfl rfl
theorem n_need_prob (S : Store) : callV false f_need_problem [.non] S = .exc "BadProblem" S := outX_call S (by decide +kernel) rfl rfl
section
variable {S : Store} {bs : List Int} {most : Int} {ws : List Way} {many : Nat}
theorem x_least (hw : ∀ w ∈ ws, WayOk most w) (hl : ws.length ≤ 1000) {v : Option D} {ρ3 : Option D} : evE (.bi .maxL (.cons (.bin .add (.lst (.cons (.ix (.var 0) (.int 0)) .nil)) (e_taken_back_0)) .nil)) [some (probD many), some (.tup (ws.map wayD)), v, ρ3, none] S = .ok (.int (leastI many ws)) S := by
  have e1 : evE e_taken_back_0 [some (probD many), some (.tup (ws.map wayD)), v, ρ3, none] S = .ok (.lst ((ws.map fun w => hiW w + 1).map D.int)) S := by
    unfold e_taken_back_0
    rw [List.map_map]
    exact ev_lcA (enc := wayD) (g := []) (by simp [ev_v]) rfl (sz100000 (by omega)) fun w hm => ⟨_, rfl, by simp [ev_v, c_highest (hw w hm)]⟩
  have e2 := add_lst (S := S) (xs := [.int (many : Int)]) (ys := (ws.map fun w => hiW w + 1).map D.int) (by simp; omega)
  have e3 : biV .maxL S [.lst (((many : Int) :: ws.map fun w => hiW w + 1).map D.int)] = .ok (.int (leastI many ws)) S := maxL_lst (asInts_map _) (by simp)
  simp only [List.map_cons] at e3
  simp only [List.singleton_append] at e2
  simp [ev_v, ix0_prob, e1, e2, e3, -List.map_map]
theorem c_taken_back (hm : Many many) (hw : ∀ w ∈ ws, WayOk most w) (hl : ws.length ≤ 1000) (hb : bs.length ≤ 100000) (hbit : Bits bs) (hlow : leastI many ws ≤ bs.length) (hv : ∀ w ∈ ws, ∀ v ∈ varsW w, 0 ≤ v ∧ v < bs.length) : callV false f_taken_back [probD many, .tup (ws.map wayD), .tup (bs.map D.int)] S = .ok (backD ws bs many) S := by
  refine call_wp S ?_ rfl (by simp [probD, frees_ways, frees_ints]) (by simp only [backD, fr_tup, frees_ints])
  show (m_taken_back [] _).wp _
  obtain ⟨Q, hQ⟩ : ∃ Q : D → Store → Prop, Q = fun x _ => x = backD ws bs many := ⟨_, rfl⟩
  rw [← hQ]
  unfold m_taken_back
  rw [wp_run]
  unfold b_taken_back
  rw [wpB_cons]
  unfold t_taken_back_2 t_taken_back_3
  simp [ev_v, c_need_prob hm, c_need_ways hw hl]
  unfold t_taken_back_4
  simp only [es_asg, wp_then, x_least hw hl, wp_ok]
  simp
  unfold t_taken_back_5 u_taken_back_1
  have q1 := c_are_bits (bs.map D.int) (frees_ints bs) (by simpa using hb) (leastI many ws) (bs.length : Int)
  have q2 : rowB (.tup (bs.map D.int)) (leastI many ws) (bs.length : Int) = true := by
    simp only [rowB, List.length_map, Bool.and_eq_true, decide_eq_true_eq]; omega
  rw [q2, bits_all hbit] at q1
  have q3 : ¬ (bs.length : Int) < leastI many ws := by omega
  simp [ev_v, q1, q3]
  unfold t_taken_back_6
  simp [ev_v]
  refine w_gone_back hw hl hb hv fun S' hS => ?_
  have e3 : slV S' (.adr 0) none (some (many : Int)) = .ok (.lst (((goAll ws.reverse bs).take many).map D.int)) S' := by
    have : slV S' (.adr 0) none (some (many : Int)) = .ok (.lst (cutG ((goAll ws.reverse bs).map D.int) none (some (many : Int)))) S' := by simp at hS; simp [slV, asLst, hS]
    rw [this, cut_to, List.map_take]
  simp [ix0_prob, e3, -List.map_take]
  rw [hQ]; rfl
theorem n_taken1 {w v : D} (hf : w.free = true) (hg : v.free = true) (S : Store) : callV false f_taken_back [.non, w, v] S = .exc "BadProblem" S := by
  refine callV_exc S (S0 := []) ?_ rfl (by simp [hf, hg])
  show m_taken_back [] [.non, w, v] = .exc "BadProblem" []
  unfold m_taken_back runB b_taken_back t_taken_back_2
  simp [eb_cons, ev_v, n_need_prob]
theorem n_taken2 {w v : D} (hm : Many many) (hf : w.free = true) (hg : v.free = true) (h : ∀ S, callV false f_are_ways [w] S = .ok (.bl false) S) (S : Store) : callV false f_taken_back [probD many, w, v] S = .exc "BadWays" S := by
  refine callV_exc S (S0 := []) ?_ rfl (by simp [hf, hg, probD])
  show m_taken_back [] _ = _
  unfold m_taken_back runB b_taken_back t_taken_back_2 t_taken_back_3
  simp [eb_cons, ev_v, c_need_prob hm, n_need_ways hf h]
/-- values that are none -/
def badV (least : Int) (d : D) : Bool := match d with
  | .tup xs => decide ((xs.length : Int) < least) || !(xs.all fun d => withinB d 0 1)
  | .kup _ => false
  | _ => true
theorem n_taken3 {v : D} (hm : Many many) (hw : ∀ w ∈ ws, WayOk most w) (hl : ws.length ≤ 1000) (hg : v.good = true) (h : badV (leastI many ws) v = true) (S : Store) : callV false f_taken_back [probD many, .tup (ws.map wayD), v] S = .exc "BadValues" S := by
  have hf := D.good.free hg
  refine callV_exc S (S0 := []) ?_ rfl (by simp [hf, probD, frees_ways])
  show m_taken_back [] _ = _
  unfold m_taken_back runB b_taken_back t_taken_back_2 t_taken_back_3 t_taken_back_4 t_taken_back_5 u_taken_back_1
  have hx := x_least (S := []) (many := many) (v := some v) (ρ3 := none) hw hl
  rw [show ([probD many, .tup (ws.map wayD), v].map some ++ List.replicate (5 - [probD many, .tup (ws.map wayD), v].length) none : Env) = [some (probD many), some (.tup (ws.map wayD)), some v, none, none] from rfl]
  have e1 : evB 0 (.cons (.asg (.name 3) (.bi .maxL (.cons (.bin .add (.lst (.cons (.ix (.var 0) (.int 0)) .nil)) (e_taken_back_0)) .nil))) (.cons (.ite (.or (.cons (.not (.isi (.var 2) .tuple)) (.cons (.cmp .lt (.bi .len (.cons (.var 2) .nil)) (.var 3)) (.cons (.not (.call false f_are_bits (.cons (.var 2) (.cons (.var 3) (.cons (.bi .len (.cons (.var 2) .nil)) .nil))))) .nil)))) (.cons (.raise "BadValues" "these are no values for the ways back") .nil) (.nil)) (.cons t_taken_back_6 .nil))) [some (probD many), some (.tup (ws.map wayD)), some v, none, none] [] = .exc "BadValues" [some (probD many), some (.tup (ws.map wayD)), some v, some (.int (leastI many ws)), none] [] := by
    rw [eb_cons, es_asg, hx]
    cases v with
    | tup xs =>
      obtain ⟨z1, z2⟩ := good_tup hg
      have q1 := c_are_bits xs (D.goods.free z2) z1 (leastI many ws) (xs.length : Int)
      by_cases hlt : (xs.length : Int) < leastI many ws
      · simp [eb_cons, ev_v, hlt]
      · have q2 : rowB (.tup xs) (leastI many ws) (xs.length : Int) = true := by
          simp only [rowB, Bool.and_eq_true, decide_eq_true_eq]; omega
        have q3 : (xs.all fun d => withinB d 0 1) = false := by
          simp only [badV, decide_eq_false hlt, Bool.false_or, Bool.not_eq_true'] at h
          exact h
        rw [q2, q3] at q1
        simp [eb_cons, ev_v, hlt, q1]
    | kup xs => simp [D.good] at hg
    | adr => simp at hf
    | _ => simp [eb_cons, ev_v]
  simp only [eb_cons, es_expr, ev_call, ev_consL, ev_nilL, ev_v, List.getElem?_cons_zero, List.getElem?_cons_succ, R.bind_ok, c_need_prob hm, c_need_ways hw hl, R.then_ok] at e1 ⊢
  rw [e1]
/-! ### gone -/
def goneI (ws : List Way) : List Int := ws.filterMap fun w => match w with
  | .set a => some (a / 2)
  | .like b _ => some b
  | .save l _ => some (l / 2)
  | .cut _ => none
def isCut : Way → Bool
  | .cut _ => true
  | _ => false
def oneV : Way → Int
  | .set a => a / 2
  | .like b _ => b
  | .save l _ => l / 2
  | .cut k => k / 2
theorem x_one {w : Way} (hw : WayOk most w) {ρ : Env} {i : Nat} (r : ρ[i]? = some (some (wayD w))) : evE (.cmp .ne (.ix (.var i) (.int 0)) (.str "cut")) ρ S = .ok (.bl (!isCut w)) S ∧ evE (.ite (.cmp .eq (.ix (.var i) (.int 0)) (.str "like")) (.ix (.var i) (.int 1)) (.bin .fdiv (.ix (.var i) (.int 1)) (.int 2))) ρ S = .ok (.int (oneV w)) S := by
  cases w with
  | set a => simp [ev_v, r, wayD, eq_str, s_set_cut, s_set_like, d2, isCut, oneV]
  | cut a => simp [ev_v, r, wayD, eq_str, s_cut_cut, s_cut_like, d2, isCut, oneV]
  | like b a => simp [ev_v, r, wayD, eq_str, s_like_cut, s_like_like, d2, isCut, oneV]
  | save l ss => simp [ev_v, r, wayD, eq_str, s_save_cut, s_save_like, d2, isCut, oneV]
def goneD (ws : List Way) : List Int := sortI (dedI ((ws.filter fun w => !isCut w).map oneV))
theorem x_sset (hl : ws.length ≤ 60) : ssetV S (.lst ((ws.filter fun w => !isCut w).map fun w => D.int (oneV w))) = .ok (.lst ((goneD ws).map D.int)) S := by
  have e : ((ws.filter fun w => !isCut w).map fun w => D.int (oneV w)) = (((ws.filter fun w => !isCut w).map oneV).map D.int) := by rw [List.map_map]; rfl
  rw [e]
  unfold ssetV
  have h2 : decide (((ws.filter fun w => !isCut w).map oneV).length ≤ 60) = true := by
    have := List.length_filter_le (fun w => !isCut w) ws
    simp only [List.length_map, decide_eq_true_eq]; omega
  simp only [asLst, Option.bind_some, asInts_map, h2, guardR_true]
  rfl
theorem c_gone (hw : ∀ w ∈ ws, WayOk most w) (hl : ws.length ≤ 60) : callV false f_gone [.tup (ws.map wayD)] S = .ok (.tup ((goneD ws).map D.int)) S := by
  have e0 : ∀ S, callV false f_gone_variables [.tup (ws.map wayD)] S = .ok (.lst ((goneD ws).map D.int)) S := fun S => by
    refine callV_ok S (S0 := []) ?_ rfl (by simp [frees_ways]) (by simp only [fr_lst, frees_ints])
    show m_gone_variables [] _ = _
    unfold m_gone_variables runB b_gone_variables t_gone_variables_1 t_gone_variables_2
    have e1 : evE e_gone_variables_0 [some (.tup (ws.map wayD)), none, none] [] = .ok (.lst ((ws.filter fun w => !isCut w).map fun w => D.int (oneV w))) [] := by
      unfold e_gone_variables_0
      refine ev_lc (enc := wayD) (g := []) (by simp [ev_v]) rfl (sz100000 (by omega)) fun w hm => ⟨_, rfl, ?_, fun _ => ?_⟩
      · have := (x_one (S := []) (i := 2) (ρ := [some (.tup (ws.map wayD)), none, some (wayD w)]) (hw w hm) rfl).1
        show ((evE _ [some (.tup (ws.map wayD)), none, some (wayD w)] []).bind fun d S => optR (truthy S d) S) = _
        rw [this]; simp
      · exact (x_one (S := []) (i := 2) (ρ := [some (.tup (ws.map wayD)), none, some (wayD w)]) (hw w hm) rfl).2
    simp [eb_cons, ev_v, e1, x_sset hl]
  refine callV_ok S (S0 := []) ?_ rfl (by simp [frees_ways]) (by simp only [fr_tup, frees_ints])
  show m_gone [] _ = _
  unfold m_gone runB b_gone
  simp [eb_cons, ev_v, c_need_ways hw (show ws.length ≤ 1000 by omega), e0]
theorem c_law_gone (hw : ∀ w ∈ ws, WayOk most w) (hl : ws.length ≤ 60) : callV false f__law_gone [.tup (ws.map wayD)] S = .ok (.lst ((goneD ws).map D.int)) S := by
  refine callV_ok S (S0 := []) ?_ rfl (by simp [frees_ways]) (by simp only [fr_lst, frees_ints])
  show m__law_gone [] _ = _
  unfold m__law_gone runB b__law_gone t__law_gone_1
  have e1 : evE e__law_gone_0 [some (.tup (ws.map wayD)), none] [] = .ok (.lst ((ws.filter fun w => !isCut w).map fun w => D.int (oneV w))) [] := by
    unfold e__law_gone_0
    refine ev_lc (enc := wayD) (g := []) (by simp [ev_v]) rfl (sz100000 (by omega)) fun w hm => ⟨_, rfl, ?_, fun _ => ?_⟩
    · have := (x_one (S := []) (i := 1) (ρ := [some (.tup (ws.map wayD)), some (wayD w)]) (hw w hm) rfl).1
      show ((evE _ [some (.tup (ws.map wayD)), some (wayD w)] []).bind fun d S => optR (truthy S d) S) = _
      rw [this]; simp
    · exact (x_one (S := []) (i := 1) (ρ := [some (.tup (ws.map wayD)), some (wayD w)]) (hw w hm) rfl).2
  simp [eb_cons, ev_v, e1, x_sset hl]
theorem n_gone {d : D} (hf : d.free = true) (h : ∀ S, callV false f_are_ways [d] S = .ok (.bl false) S) (S : Store) : callV false f_gone [d] S = .exc "BadWays" S := by
  refine callV_exc S (S0 := []) ?_ rfl (by simp [hf])
  show m_gone [] _ = _
  unfold m_gone runB b_gone
  simp [eb_cons, ev_v, n_need_ways hf h]
end
end LW

namespace LW
open PX
section
variable {S : Store} {most : Int} {ws : List Way}
theorem vars_len {w : Way} (hw : WayOk most w) : (varsW w).length ≤ 101 := by
  cases w with
  | save l ss =>
    have := flat_len (m := 10) (f := fun p : SumP => p.1.map fun t => t.1 / 2) hw.2.2.1 fun p hp => by rw [List.length_map]; exact (hw.2.2.2 p hp).len
    simp only [varsW, List.length_cons]; omega
  | _ => simp [varsW]
theorem c_law_wanted (hw : ∀ w ∈ ws, WayOk most w) (hl : ws.length ≤ 60) : callV false f__law_wanted [.tup (ws.map wayD)] S = .ok (.int (wantI ws)) S := by
  refine call_wp S ?_ rfl (by simp [frees_ways]) rfl
  show (m__law_wanted [] _).wp _
  obtain ⟨Q, hQ⟩ : ∃ Q : D → Store → Prop, Q = fun x _ => x = .int (wantI ws) := ⟨_, rfl⟩
  rw [← hQ]
  unfold m__law_wanted
  rw [wp_run]
  unfold b__law_wanted
  rw [wpB_cons]
  unfold t__law_wanted_6
  simp [ev_v]
  unfold t__law_wanted_7
  simp [ev_v]
  obtain ⟨F, hF⟩ : ∃ F : List Int → List D, F = fun ns => (-1 :: ns).map D.int := ⟨_, rfl⟩
  obtain ⟨P, hP⟩ : ∃ P : Nat → Env → Store → Prop, P = fun i ρ S' => ∃ x2 x3 x4, ρ = [some (.tup (ws.map wayD)), some (.adr 0), x2, x3, x4, none, none] ∧ S' = [.lst (F ((ws.take i).flatMap varsW))] := ⟨_, rfl⟩
  refine wp_for (w := ⟨ws.map wayD, []⟩) P (by rw [hP, hF]; exact ⟨_, _, _, rfl, rfl⟩) (fun _ _ _ _ => rfl) ?_ ?_
  · intro i d ρ S' hd hp
    rw [hP] at hp
    obtain ⟨x2, x3, x4, rfl, rfl⟩ := hp
    refine ⟨_, rfl, ?_⟩
    rw [List.getElem?_map] at hd
    cases hq : ws[i]? with
    | none => rw [hq] at hd; cases hd
    | some w =>
      rw [hq] at hd
      cases hd
      have hok := hw w (List.mem_of_getElem? hq)
      obtain ⟨c, hc⟩ : ∃ c, c = (ws.take i).flatMap varsW := ⟨_, rfl⟩
      have hcl : c.length ≤ 60 * 101 := by
        rw [hc]
        exact flat_len (by simp; omega) fun w hm => vars_len (hw w (List.mem_of_mem_take hm))
      have hx : ∀ ns, (F ns).length = ns.length + 1 := fun ns => by rw [hF]; simp
      have fin : ∀ (x3 x4 : Option D) S3, S3 = [.lst (F (c ++ varsW w))] → P (i + 1) [some (.tup (ws.map wayD)), some (.adr 0), some (wayD w), x3, x4, none, none] S3 := fun x3 x4 S3 h => by
        rw [hP]
        refine ⟨_, _, _, rfl, ?_⟩
        rw [h, List.take_add_one, hq, show (some w).toList = [w] from rfl, List.flatMap_append, hc]
        simp
      have hz : ∀ n : Nat, n < 10000 → n < PySem.sizeLine := fun n h => Nat.lt_of_lt_of_le (show n < 100000 by omega) (sz100000 (Nat.le_refl _))
      have app : ∀ (ns : List Int) (x : Int), ns.length ≤ 9000 → methV .append [.lst (F ns)] (.adr 0) [.int x] = .ok .non [.lst (F (ns ++ [x]))] := fun ns x h => by
        have := app_cell (S := [.lst (F ns)]) (t := 0) (v := .int x) rfl (hz _ (by rw [hx]; omega))
        rw [this, hF]; simp
      have ext : ∀ (ns ms : List Int), ns.length ≤ 9000 → ms.length ≤ 100 → methV .extend [.lst (F ns)] (.adr 0) [.lst (ms.map D.int)] = .ok .non [.lst (F (ns ++ ms))] := fun ns ms h h2 => by
        have := ext_cell (S := [.lst (F ns)]) (t := 0) (ys := ms.map D.int) rfl (by rw [hx, List.length_map]; omega)
        rw [this, hF]; simp
      have kd : ∀ (m : ME) (ns : List Int), m.ofDict = false → mkind m [.lst (F ns)] (.adr 0) = true := fun m ns h => kind_cell m h rfl
      rw [← hc]
      unfold u__law_wanted_5 u__law_wanted_0 u__law_wanted_1 u__law_wanted_4
      cases w with
      | set a =>
        have e1 := app c (a / 2) (by omega)
        have := fin x3 x4 _ rfl
        simp only [wayD, varsW] at this
        simp [ev_v, wayD, eq_str, s_set_cut, s_set_like, s_set_save, d2, kd _ _ (show ME.append.ofDict = false from rfl), e1]
        exact this
      | cut a =>
        have := fin x3 x4 _ rfl
        simp only [wayD, varsW, List.append_nil] at this
        simp [ev_v, wayD, eq_str, s_cut_cut, s_cut_like, s_cut_save]
        exact this
      | like b a =>
        have e1 := app c b (by omega)
        have e2 := app (c ++ [b]) (a / 2) (by simp; omega)
        have := fin x3 x4 _ rfl
        simp only [wayD, varsW] at this
        simp [ev_v, wayD, eq_str, s_like_cut, s_like_like, s_like_save, d2, kd _ _ (show ME.append.ofDict = false from rfl), e1]
        rw [e2]
        simpa using this
      | save l ss =>
        obtain ⟨h1, h2, h3, h4⟩ := hok
        have e1 := app c (l / 2) (by omega)
        simp [ev_v, wayD, eq_str, s_save_cut, s_save_like, s_save_save, d2, kd _ _ (show ME.append.ofDict = false from rfl), e1]
        obtain ⟨P2, hP2⟩ : ∃ P : Nat → Env → Store → Prop, P = fun j ρ S' => ∃ x3 x4, ρ = [some (.tup (ws.map wayD)), some (.adr 0), some (wayD (.save l ss)), x3, x4, none, none] ∧ S' = [.lst (F (c ++ l / 2 :: (ss.take j).flatMap fun p => p.1.map fun t => t.1 / 2))] := ⟨_, rfl⟩
        refine wp_for (w := ⟨ss.map sumP, []⟩) P2 (by rw [hP2]; exact ⟨x3, x4, rfl, by simp⟩) (fun _ _ _ _ => rfl) ?_ ?_
        · intro j e ρ S' he hp
          rw [hP2] at hp
          obtain ⟨x3, x4, rfl, rfl⟩ := hp
          rw [List.getElem?_map] at he
          cases hq2 : ss[j]? with
          | none => rw [hq2] at he; cases he
          | some p =>
            obtain ⟨ts, dg⟩ := p
            rw [hq2] at he
            cases he
            have hp4 := h4 _ (List.mem_of_getElem? hq2)
            refine ⟨_, rfl, ?_⟩
            have hl2 : ((ss.take j).flatMap fun p => p.1.map fun t => t.1 / 2).length ≤ 10 * 10 := flat_len (by simp; omega) fun p hp => by rw [List.length_map]; exact (h4 p (List.mem_of_mem_take hp)).len
            have lc : ∀ S0, evE e__law_wanted_2 [some (.tup (ws.map wayD)), some (.adr 0), some (wayD (.save l ss)), some (.tup (ts.map pairD)), some (.int dg), none, none] S0 = .ok (.lst ((ts.map fun t => t.1 / 2).map D.int)) S0 := fun S0 => by
              unfold e__law_wanted_2
              rw [List.map_map]
              exact ev_lcA (enc := pairD) (g := []) (by simp [ev_v]) rfl (sz100000 hp4.ok.len) fun x hx => ⟨_, rfl, by simp [ev_v, pairD, d2]⟩
            have e2 := ext (c ++ l / 2 :: (ss.take j).flatMap fun p => p.1.map fun t => t.1 / 2) (ts.map fun t => t.1 / 2) (by simp only [List.length_append, List.length_cons]; omega) (by have h10 : ts.length ≤ 10 := hp4.len; simp only [List.length_map]; omega)
            have k2 := kd .extend (c ++ l / 2 :: (ss.take j).flatMap fun p => p.1.map fun t => t.1 / 2) rfl
            unfold u__law_wanted_3
            simp [ev_v, k2, lc, e2, -List.map_map, -List.map_flatMap]
            rw [hP2]
            refine ⟨_, _, rfl, ?_⟩
            rw [List.take_add_one, hq2, show (some (ts, dg)).toList = [(ts, dg)] from rfl, List.flatMap_append]
            simp
        · intro ρ S' hp
          rw [hP2] at hp
          obtain ⟨x3, x4, rfl, rfl⟩ := hp
          simp only [List.length_map, List.take_length]
          have := fin x3 x4 _ rfl
          simp only [wayD, varsW] at this
          simp
          simpa [wayD] using this
  · intro ρ S' hp
    rw [hP] at hp
    obtain ⟨x2, x3, x4, rfl, rfl⟩ := hp
    simp only [List.length_map, List.take_length]
    simp
    unfold t__law_wanted_8
    have e1 : biV .maxL [.lst (F (ws.flatMap varsW))] [.adr 0] = .ok (.int (maxI (-1 :: ws.flatMap varsW))) [.lst (F (ws.flatMap varsW))] := by
      have h1 : (asLst [.lst (F (ws.flatMap varsW))] (.adr 0)).bind asInts = some (-1 :: ws.flatMap varsW) := by
        rw [hF]; simp [asLst, asInts]
      show (match (asLst [.lst (F (ws.flatMap varsW))] (.adr 0)).bind asInts with | some ns => guardR (!ns.isEmpty) (R.ok (D.int (maxI ns)) [.lst (F (ws.flatMap varsW))]) | none => .stuck) = _
      rw [h1]; rfl
    simp [ev_v, e1]
    rw [hQ]; rfl
end
/-! ### near to a way -/
def oneD : D := .tup [.tup [.tup [.int 0, .int 1]], .int 1]
def nearL : List D := [.tup [.str "set", .int (-1)], .tup [.str "set", .bl true], .tup [.str "set", .int 0, .int 0], .lst [.str "set", .int 0], .tup [.str "like", .int 1, .int 2], .tup [.str "like", .int 1, .int 3], .tup [.str "like", .int 1, .int 0], .tup [.str "like", .int 1], .tup [.str "like", .int (-1), .int 0],
  .tup [.str "cut", .int (-1)], .tup [.str "cut", .int 0], .tup [.str "cut", .non], .tup [.str "put", .int 0], .tup [.str "save", .int 0], .tup [.str "save", .int 0, .tup []], .tup [.str "save", .int 0, .tup [oneD]], .tup [.str "save", .int 1, .tup [oneD]],
  .tup [.str "save", .int 0, .lst [oneD]], .tup [.str "save", .int 0, .tup [oneD, .tup [.tup [], .int 1]]], .tup [.str "save", .int 2, .tup [.tup [.tup [.tup [.int 0, .int 1], .tup [.int 2, .int 3]], .int (-4)]]], .non, .str "set", .tup []]
theorem near_free : D.frees nearL = true := by decide +kernel
def isB (f : FnI) (d : D) : Bool := (outB (f.sem [] [d])).getD false
theorem near_ok : nearL.all (fun d => (outB (f_is_way.sem [] [d])).isSome && decide (outB (f__law_is_way.sem [] [d]) = outB (f_is_way.sem [] [d]))) = true := by decide +kernel
theorem c_near {d : D} (h : d ∈ nearL) : ∃ b, (∀ S, callV false f_is_way [d] S = .ok (.bl b) S) ∧ ∀ S, callV false f__law_is_way [d] S = .ok (.bl b) S := by
  have h1 := List.all_eq_true.mp near_ok d h
  rw [Bool.and_eq_true, decide_eq_true_eq] at h1
  obtain ⟨h1, h2⟩ := h1
  cases e : outB (f_is_way.sem [] [d]) with
  | none => rw [e] at h1; cases h1
  | some b =>
    rw [e] at h2
    have hf : D.frees [d] = true := by simp [D.frees_iff.mp near_free d h]
    exact ⟨b, fun S => outB_call S e rfl hf, fun S => outB_call S h2 rfl hf⟩
end LW

namespace PX
/-- weighted literals by variables -/
structure NetOk (most : Int) (net : List (Int × (Int × Int))) (k : Nat) : Prop where
  nd : (keysA net).Nodup
  tm : ∀ q ∈ net, 0 ≤ q.2.1 ∧ q.2.1 / 2 = q.1 ∧ q.2.1 < 2 * most ∧ 1 ≤ q.2.2
  len : net.length ≤ k
theorem NetOk.put {most : Int} {net : List (Int × (Int × Int))} {k : Nat} {l w : Int} (h : NetOk most net k) (h0 : 0 ≤ l) (h1 : l < 2 * most) (h2 : 1 ≤ w) : NetOk most (putA net (l / 2) (l, w)) (k + 1) :=
  ⟨nodupA_put h.nd, fun q hq => by
    rcases memA_put hq with e | e
    · exact h.tm q e
    · subst e; exact ⟨h0, rfl, h1, h2⟩, Nat.le_trans (lenA_put _ _ _) (by have := h.len; omega)⟩
def termsN (net : List (Int × (Int × Int))) : List (Int × Int) := (sortI (keysA net)).map (getP net)
theorem termsN_ok {most : Int} {net : List (Int × (Int × Int))} {k : Nat} (h : NetOk most net k) (hk : k ≤ 10) : SumOk (termsN net) ∧ (∀ t ∈ termsN net, t.1 < 2 * most) ∧ (termsN net).length ≤ 10 := by
  have hl : (termsN net).length ≤ 10 := by
    unfold termsN
    rw [List.length_map, (sortI_perm _).length_eq]
    have := h.len
    simp only [keysA, List.length_map]; omega
  have hm : ∀ v ∈ sortI (keysA net), (v, getP net v) ∈ net := fun v hv => (valD_getP ((sortI_perm _).mem_iff.mp hv)).1
  refine ⟨⟨fun t ht => ?_, ?_, by omega⟩, fun t ht => ?_, hl⟩
  · obtain ⟨v, hv, rfl⟩ := List.mem_map.mp ht
    have := h.tm _ (hm v hv)
    exact ⟨this.1, this.2.2.2⟩
  · unfold termsN
    rw [List.map_map]
    have e : (sortI (keysA net)).map ((fun t : Int × Int => t.1 / 2) ∘ getP net) = sortI (keysA net) := by
      conv => rhs; rw [← List.map_id (sortI (keysA net))]
      exact List.map_congr_left fun v hv => (h.tm _ (hm v hv)).2.1
    rw [e]
    exact sortI_lt h.nd
  · obtain ⟨v, hv, rfl⟩ := List.mem_map.mp ht
    exact (h.tm _ (hm v hv)).2.2.1
theorem set_dic {S : Store} {n : Nat} {net : List (Int × (Int × Int))} {v : Int} {a : Int × Int} (h : S[n]? = some (.dic (encA pairD net))) (hn : (keysA net).Nodup) (hl : net.length ≤ 1000) : setV S (.adr n) (.int v) (pairD a) = .ok () (S.set n (.dic (encA pairD (putA net v a)))) := by
  unfold setV
  have : (encA pairD net).length < PySem.sizeLine := by
    simp only [encA, List.length_map]
    exact Nat.lt_of_lt_of_le (show net.length < 100000 by omega) (sz100000 (Nat.le_refl _))
  simp [h, asKey, this, putD_encA pairD hn]
theorem sorted_dic {S : Store} {n : Nat} {net : List (Int × (Int × Int))} (h : S[n]? = some (.dic (encA pairD net))) : biV .sorted S [.adr n] = .ok (.lst ((sortI (keysA net)).map D.int)) S := by
  unfold biV
  simp [asLst, asDic, h, keyInts_encA]
theorem ix_dic {S : Store} {n : Nat} {net : List (Int × (Int × Int))} {v : Int} (h : S[n]? = some (.dic (encA pairD net))) (hv : v ∈ keysA net) : ixV S (.adr n) (.int v) = .ok (pairD (getP net v)) S := by
  unfold ixV
  simp [asLst, asDic, h, asKey, (valD_getP hv).2]
end PX
namespace LW
open PX
theorem wp_save {S : Store} {n m : Nat} {most : Int} (hd : Deck S n m) (hm : 3 ≤ most ∧ most ≤ 75) {Q : D → Store → Prop}
    (hQ : ∀ S' w, Deck S' n m → Stay n m S S' → WayOk most w → Q (wayD w) S') : (callV true f__law_save [.adr n, .int most] S).wp Q := by
  refine wp_callT ?_ rfl
  show (m__law_save S [.adr n, .int most]).wp Q
  unfold m__law_save
  rw [wp_run]
  unfold b__law_save
  rw [wpB_cons]
  unfold t__law_save_3
  simp [ev_v, m4]
  refine wp_pick hd (by omega) (by omega) fun l S1 h0 h1 d1 y1 => ?_
  unfold t__law_save_4
  simp [ev_v]
  unfold t__law_save_5
  simp [ev_v]
  have hs := d1.off (Nat.le_refl _)
  refine wp_pick (d1.app _) (by omega) (by omega) fun c S2 h2 h3 d2 y2 => ?_
  have hr : rngOk c = true := by unfold rngOk; simp; omega
  simp [hr]
  have at2 := y2.get hs.1 hs.2 (app_at (S := S1) (.lst []))
  have yy2 : Stay n m S S2 := y1.trans ((Stay.refl.app _).trans y2)
  obtain ⟨P, hP⟩ : ∃ P : Nat → Env → Store → Prop, P = fun i ρ S' => ∃ (ss : List SumP) (x4 x5 x6 x7 : Option D), ρ = [some (.adr n), some (.int most), some (.int l), some (.adr S1.length), x4, x5, x6, x7, none] ∧ Deck S' n m ∧ Stay n m S S' ∧ S'[S1.length]? = some (.lst (ss.map sumP)) ∧ (∀ p ∈ ss, SaveOk most l p) ∧ ss.length = i ∧ S1.length < S'.length := ⟨_, rfl⟩
  refine wp_for (w := ⟨rngL 0 c.toNat, []⟩) P (by rw [hP]; exact ⟨[], _, _, _, _, rfl, d2, yy2, at2, by simp, rfl, (List.getElem?_eq_some_iff.mp at2).1⟩) (fun _ _ _ _ => rfl) ?_ ?_
  · intro i d ρ S3 hdd hp
    obtain ⟨rfl, hi⟩ := rngL_get hdd
    rw [hP] at hp
    obtain ⟨ss, x4, x5, x6, x7, rfl, d3, y3, at3, hss, hlen, hlt⟩ := hp
    refine ⟨_, rfl, ?_⟩
    unfold u__law_save_2
    simp [ev_v]
    -- a new dict
    obtain ⟨T, hT⟩ : ∃ T, T = S3.length := ⟨_, rfl⟩
    rw [← hT]
    have ht := d3.off (Nat.le_of_eq hT.symm)
    have atT : (S3 ++ [.dic []])[T]? = some (.dic (encA pairD [])) := by rw [hT]; exact app_at _
    have atL : (S3 ++ [.dic []])[S1.length]? = some (.lst (ss.map sumP)) := by rw [List.getElem?_append_left hlt]; exact at3
    have neT : T ≠ S1.length := by omega
    refine wp_pick (d3.app _) (by omega) (by omega) fun e S4 h4 h5 d4 y4 => ?_
    have hr2 : rngOk e = true := by unfold rngOk; simp; omega
    simp [hr2]
    obtain ⟨P2, hP2⟩ : ∃ P : Nat → Env → Store → Prop, P = fun j ρ S' => ∃ (net : List (Int × (Int × Int))) (x6 x7 : Option D), ρ = [some (.adr n), some (.int most), some (.int l), some (.adr S1.length), some (.int (i : Int)), some (.adr T), x6, x7, none] ∧ Deck S' n m ∧ Stay n m S S' ∧ S'[S1.length]? = some (.lst (ss.map sumP)) ∧ S'[T]? = some (.dic (encA pairD net)) ∧ NetOk most net j := ⟨_, rfl⟩
    refine wp_for (w := ⟨rngL 0 e.toNat, []⟩) P2 (by rw [hP2]; exact ⟨[], x6, x7, rfl, d4, y3.trans ((Stay.refl.app _).trans y4), y4.get hs.1 hs.2 atL, y4.get ht.1 ht.2 atT, by simp [keysA], by simp, by simp⟩) (fun _ _ _ _ => rfl) ?_ ?_
    · intro j d ρ S5 hdd hp
      obtain ⟨rfl, hj⟩ := rngL_get hdd
      rw [hP2] at hp
      obtain ⟨net, x6, x7, rfl, d5, y5, a5, b5, hn⟩ := hp
      refine ⟨_, rfl, ?_⟩
      unfold u__law_save_0
      simp [ev_v, m4]
      refine wp_pick d5 (by omega) (by omega) fun o S6 h6 h7 d6 y6 => ?_
      simp [ev_v]
      refine wp_pick d6 (by omega) (by omega) fun w S7 h8 h9 d7 y7 => ?_
      have y67 := y6.trans y7
      have b7 := y67.get ht.1 ht.2 b5
      have e9 := set_dic (v := o / 2) (a := (o, 1 + w)) b7 hn.nd (by have := hn.len; omega)
      simp only [pairD] at e9
      simp [PX.d2, e9]
      rw [hP2]
      refine ⟨_, _, _, rfl, d7.put ht.1 ht.2 _, (y5.trans y67).put (by have := y3.len; omega) _, ?_, set_at b7, hn.put h6 h7 (by omega)⟩
      rw [List.getElem?_set_ne neT]; exact y67.get hs.1 hs.2 a5
    · intro ρ S5 hp
      rw [hP2] at hp
      obtain ⟨net, x6, x7, rfl, d5, y5, a5, b5, hn⟩ := hp
      rw [rngL_length] at hn
      simp [ev_v]
      refine wp_pick d5 (by omega) (by omega) fun w S6 h6 h7 d6 y6 => ?_
      have b6 := y6.get ht.1 ht.2 b5
      have a6 := y6.get hs.1 hs.2 a5
      have e9 := set_dic (v := l / 2) (a := (l, 1 + w)) b6 hn.nd (by have := hn.len; omega)
      simp only [pairD] at e9
      simp [PX.d2, e9]
      obtain ⟨net2, hnet2⟩ : ∃ net2, net2 = putA net (l / 2) (l, 1 + w) := ⟨_, rfl⟩
      have hn2 : NetOk most net2 (e.toNat + 1) := by rw [hnet2]; exact hn.put h0 h1 (by omega)
      obtain ⟨t1, t2, t3⟩ := termsN_ok hn2 (by omega)
      have key : l / 2 ∈ keysA net2 := by
        rw [hnet2, keysA_put]
        split
        · rename_i q; exact hasA_iff.mp q
        · simp
      have t4 : (l, 1 + w) ∈ termsN net2 := List.mem_map.mpr ⟨l / 2, (sortI_perm _).mem_iff.mpr key, by rw [hnet2]; exact getP_put⟩
      obtain ⟨S7, hS7⟩ : ∃ S7, S7 = S6.set T (.dic (encA pairD net2)) := ⟨_, rfl⟩
      rw [← hnet2, ← hS7]
      have b7 : S7[T]? = some (.dic (encA pairD net2)) := by rw [hS7]; exact set_at b6
      have a7 : S7[S1.length]? = some (.lst (ss.map sumP)) := by rw [hS7, List.getElem?_set_ne neT]; exact a6
      have d7 : Deck S7 n m := by rw [hS7]; exact d6.put ht.1 ht.2 _
      have y7 : Stay n m S S7 := by rw [hS7]; exact (y5.trans y6).put (by have := y3.len; omega) _
      have e10 : ∀ x6 x7, evE e__law_save_1 [some (.adr n), some (.int most), some (.int l), some (.adr S1.length), some (.int (i : Int)), some (.adr T), x6, x7, none] S7 = .ok (.lst ((termsN net2).map pairD)) S7 := fun x6 x7 => by
        unfold e__law_save_1 termsN
        rw [List.map_map]
        refine ev_lcA (enc := D.int) (g := []) (by simp [ev_v, sorted_dic b7]) rfl (sz100000 ?_) fun v hv => ⟨_, rfl, ?_⟩
        · have := t3; unfold termsN at this; rw [List.length_map] at this; omega
        · have := ix_dic b7 ((sortI_perm _).mem_iff.mp hv)
          simp [ev_v, this]
      have kd := kind_cell (S := S7) (t := S1.length) .append rfl a7
      simp [kd, e10]
      refine wp_pick d7 (by omega) (by omega) fun g S8 h8 h9 d8 y8 => ?_
      have a8 := y8.get hs.1 hs.2 a7
      have hsz : (ss.map sumP).length < PySem.sizeLine := by rw [List.length_map]; exact Nat.lt_of_lt_of_le (show ss.length < 100000 by omega) (sz100000 (Nat.le_refl _))
      have e11 := app_cell (v := sumP (termsN net2, g - 1)) a8 hsz
      simp only [sumP, sumD] at e11
      simp [e11]
      rw [hP]
      refine ⟨ss ++ [(termsN net2, g - 1)], _, _, _, _, rfl, d8.put hs.1 hs.2 _, (y7.trans y8).put (by have := y1.len; omega) _, ?_, ?_, by simp [hlen], ?_⟩
      · rw [set_at a8]; simp [sumP, sumD]
      · intro p hp
        rcases List.mem_append.mp hp with q | q
        · exact hss p q
        · rw [List.mem_singleton.mp q]; exact ⟨t1, ⟨_, t4⟩, t2, t3⟩
      · have := (List.getElem?_eq_some_iff.mp a8).1; simpa using this
  · intro ρ S3 hp
    rw [hP] at hp
    obtain ⟨ss, x4, x5, x6, x7, rfl, d3, y3, at3, hss, hlen, hlt⟩ := hp
    rw [rngL_length] at hlen
    simp
    unfold t__law_save_6
    simp [ev_v, tup_cell at3]
    exact hQ S3 (.save l ss) d3 y3 ⟨h0, h1, by omega, hss⟩
end LW

namespace PX
theorem plains_ints (ns : List Int) : D.plains (ns.map D.int) = true := by
  induction ns with
  | nil => rfl
  | cons n ns ih => simp [D.plains, D.plain, ih]
theorem szs_ints (ns : List Int) : D.szs (ns.map D.int) = ns.length := by
  induction ns with
  | nil => rfl
  | cons n ns ih => simp [D.szs, D.sz, ih]; omega
theorem dedI_len : ∀ ns : List Int, (dedI ns).length ≤ ns.length
  | [] => by simp [dedI]
  | x :: r => by
    have := dedI_len r
    unfold dedI
    split <;> simp <;> omega
theorem goods_ints (ns : List Int) : D.goods (ns.map D.int) = true := by
  induction ns with
  | nil => rfl
  | cons n ns ih => simp [D.goods, D.good, ih]
theorem ne_strs4 {S : Store} (a b c d : PySem.Str) : eqR true S (.lst [.str a, .str b, .str c, .str d]) (.lst [.str a, .str b, .str c, .str d]) = .ok (.bl false) S := by
  simp [eqR, snap, D.depth, D.depths, D.eqv, D.eqvs]
end PX
namespace LW
open PX
theorem c_same_ints {ns : List Int} (h : ns.length ≤ 100000) (S : Store) : callV false f__law_same [.tup (ns.map D.int), .tup (ns.map D.int)] S = .ok (.bl true) S :=
  c_same (by simp only [D.plain, plains_ints]) (by simp only [D.depth, depths_ints]; omega) (by simp only [D.sz, szs_ints]; omega) S
theorem wp_ways {S : Store} {n m : Nat} {most : Int} (hd : Deck S n m) (hm : 3 ≤ most ∧ most ≤ 75) {Q : D → Store → Prop}
    (hQ : ∀ (S' : Store) (ws : List Way), Deck S' n m → Stay n m S S' → (∀ w ∈ ws, WayOk most w) → ws.length ≤ 11 → Q (.tup (ws.map wayD)) S') : (callV true f__law_ways [.adr n, .int most] S).wp Q := by
  refine wp_callT ?_ rfl
  show (m__law_ways S [.adr n, .int most]).wp Q
  unfold m__law_ways
  rw [wp_run]
  unfold b__law_ways
  rw [wpB_cons]
  unfold t__law_ways_5
  simp [ev_v]
  unfold t__law_ways_6
  simp [ev_v]
  have hs := hd.off (Nat.le_refl _)
  refine wp_pick (hd.app _) (by omega) (by omega) fun c S1 h0 h1 d1 y1 => ?_
  have hr : rngOk c = true := by unfold rngOk; simp; omega
  simp [hr]
  have at1 := y1.get hs.1 hs.2 (app_at (S := S) (.lst []))
  obtain ⟨P, hP⟩ : ∃ P : Nat → Env → Store → Prop, P = fun i ρ S' => ∃ (ws : List Way) (x3 x4 x5 x6 : Option D), ρ = [some (.adr n), some (.int most), some (.adr S.length), x3, x4, x5, x6] ∧ Deck S' n m ∧ Stay n m S S' ∧ S'[S.length]? = some (.lst (ws.map wayD)) ∧ (∀ w ∈ ws, WayOk most w) ∧ ws.length = i := ⟨_, rfl⟩
  refine wp_for (w := ⟨rngL 0 c.toNat, []⟩) P (by rw [hP]; exact ⟨[], _, _, _, _, rfl, d1, (Stay.refl.app _).trans y1, at1, by simp, rfl⟩) (fun _ _ _ _ => rfl) ?_ ?_
  · intro i d ρ S2 hdd hp
    obtain ⟨rfl, hi⟩ := rngL_get hdd
    rw [hP] at hp
    obtain ⟨ws, x3, x4, x5, x6, rfl, d2, y2, at2, hws, hlen⟩ := hp
    refine ⟨_, rfl, ?_⟩
    unfold u__law_ways_4
    simp [ev_v, m4]
    refine wp_pick d2 (by omega) (by omega) fun kind S3 h2 h3 d3 y3 => ?_
    refine wp_pick d3 (by omega) (by omega) fun a S4 h4 h5 d4 y4 => ?_
    refine wp_pick d4 (by omega) (by omega) fun b S5 h6 h7 d5 y5 => ?_
    have y25 := y3.trans (y4.trans y5)
    have at5 := y25.get hs.1 hs.2 at2
    have hsz : (ws.map wayD).length < PySem.sizeLine := by rw [List.length_map]; exact Nat.lt_of_lt_of_le (show ws.length < 100000 by omega) (sz100000 (Nat.le_refl _))
    have fin : ∀ (S6 : Store) (w : Way) (x3 x4 x5 x6 : Option D), Deck S6 n m → Stay n m S5 S6 → WayOk most w → methV .append S6 (.adr S.length) [wayD w] = .ok .non (S6.set S.length (.lst (ws.map wayD ++ [wayD w]))) ∧ P (i + 1) [some (.adr n), some (.int most), some (.adr S.length), x3, x4, x5, x6] (S6.set S.length (.lst (ws.map wayD ++ [wayD w]))) := fun S6 w x3 x4 x5 x6 d6 y6 hw => by
      have at6 := y6.get hs.1 hs.2 at5
      refine ⟨app_cell at6 hsz, ?_⟩
      rw [hP]
      exact ⟨ws ++ [w], _, _, _, _, rfl, d6.put hs.1 hs.2 _, (y2.trans (y25.trans y6)).put (Nat.le_refl _) _, by rw [set_at at6]; simp, fun u hu => by
        rcases List.mem_append.mp hu with q | q
        · exact hws u q
        · rw [List.mem_singleton.mp q]; exact hw, by simp [hlen]⟩
    have kd := kind_cell (S := S5) (t := S.length) .append rfl at5
    unfold u__law_ways_0 u__law_ways_3 u__law_ways_1 u__law_ways_2
    have hk : kind = 0 ∨ kind = 1 ∨ kind = 2 ∨ kind = 3 := by omega
    rcases hk with rfl | rfl | rfl | rfl
    · obtain ⟨k1, k2⟩ := fin S5 (.set a) _ _ _ _ d5 Stay.refl ⟨h4, h5⟩
      simp only [wayD] at k1 k2
      simp [ev_v, kd, k1]
      exact k2
    · by_cases hab : a / 2 = b
      · simp [ev_v, PX.d2, hab, kd]
        refine wp_pick d5 (by omega) (by omega) fun z S6 h8 h9 d6 y6 => ?_
        obtain ⟨k1, k2⟩ := fin S6 (.cut z) _ _ _ _ d6 y6 ⟨h8, h9⟩
        simp only [wayD] at k1 k2
        simp [k1]
        exact k2
      · obtain ⟨k1, k2⟩ := fin S5 (.like b a) _ _ _ _ d5 Stay.refl ⟨h6, h7, h4, h5, hab⟩
        simp only [wayD] at k1 k2
        have hab2 : (a / 2 == b) = false := by rw [beq_eq_false_iff_ne]; exact hab
        simp [ev_v, PX.d2, hab, hab2, kd, k1]
        exact k2
    · simp [ev_v, kd]
      refine wp_save d5 hm fun S6 w d6 y6 hw => ?_
      obtain ⟨k1, k2⟩ := fin S6 w _ _ _ _ d6 y6 hw
      simp [k1]
      exact k2
    · simp [ev_v, kd]
      refine wp_pick d5 (by omega) (by omega) fun z S6 h8 h9 d6 y6 => ?_
      obtain ⟨k1, k2⟩ := fin S6 (.cut z) _ _ _ _ d6 y6 ⟨h8, h9⟩
      simp only [wayD] at k1 k2
      simp [k1]
      exact k2
  · intro ρ S2 hp
    rw [hP] at hp
    obtain ⟨ws, x3, x4, x5, x6, rfl, d2, y2, at2, hws, hlen⟩ := hp
    rw [rngL_length] at hlen
    simp
    unfold t__law_ways_7
    simp [ev_v, tup_cell at2]
    exact hQ S2 ws d2 y2 hws (by omega)
theorem k_taken1 (a b c : D) : argK f_taken_back.ps ["values", "ways", "problem"] [] [a, b, c] = [c, b, a] := rfl
theorem k_taken2 (a b c : D) : argK f_taken_back.ps ["problem", "ways", "values"] [] [a, b, c] = [a, b, c] := rfl
theorem k_gone (a : D) : argK f_gone.ps ["ways"] [] [a] = [a] := rfl
theorem k_are_ways (a : D) : argK f_are_ways.ps ["thing"] [] [a] = [a] := rfl
theorem refused_t {p w v : D} (hf : D.frees [p, w, v] = true) {c m : PySem.Str} (hc : (c = "BadProblem" ∧ m = "problem") ∨ (c = "BadWays" ∧ m = "ways") ∨ (c = "BadValues" ∧ m = "values")) (h : ∀ S, callV false f_taken_back [p, w, v] S = .exc c S) (S : Store) : callV false f__law_refused [.int 0, p, w, v] S = .ok (.str m) S := by
  refine callV_ok S (S0 := []) ?_ rfl (by simpa using hf) rfl
  show m__law_refused [] [.int 0, p, w, v] = .ok (.str m) []
  unfold m__law_refused runB b__law_refused t__law_refused_1 t__law_refused_2 t__law_refused_3 u__law_refused_0
  have s1 : decide (("BadWays" : PySem.Str) = "BadProblem") = false := by decide
  have s2 : decide (("BadValues" : PySem.Str) = "BadProblem") = false := by decide
  have s3 : decide (("BadValues" : PySem.Str) = "BadWays") = false := by decide
  rcases hc with ⟨rfl, rfl⟩ | ⟨rfl, rfl⟩ | ⟨rfl, rfl⟩
  · simp [eb_cons, ev_v, k_taken1, h, handle]
  · simp [eb_cons, ev_v, k_taken1, h, handle, s1]
  · simp [eb_cons, ev_v, k_taken1, h, handle, s2, s3]
theorem refused_g {p w v : D} (hf : D.frees [p, w, v] = true) (h : ∀ S, callV false f_are_ways [w] S = .ok (.bl false) S) (S : Store) : callV false f__law_refused [.int 1, p, w, v] S = .ok (.str "ways") S := by
  refine callV_ok S (S0 := []) ?_ rfl (by simpa using hf) rfl
  show m__law_refused [] [.int 1, p, w, v] = .ok (.str "ways") []
  unfold m__law_refused runB b__law_refused t__law_refused_1 t__law_refused_2 t__law_refused_3 u__law_refused_0
  have hw : w.free = true := by simp at hf; exact hf.2.1
  have s1 : decide (("BadWays" : PySem.Str) = "BadProblem") = false := by decide
  simp [eb_cons, ev_v, k_gone, n_gone hw h, handle, s1]
/-! ### ways and one more -/
theorem c_are_pairs {ps : List (D × Bool)} (h : ∀ p ∈ ps, ∀ S, callV false f_is_way [p.1] S = .ok (.bl p.2) S) (hf : D.frees (ps.map fun p => p.1) = true) (hl : ps.length ≤ 100000) (S : Store) : callV false f_are_ways [.tup (ps.map fun p => p.1)] S = .ok (.bl (ps.all fun p => p.2)) S := by
  refine callV_ok S (S0 := []) ?_ rfl (by simp only [frs_cons, fr_tup, hf, frs_nil, Bool.and_self]) rfl
  show m_are_ways [] _ = _
  unfold m_are_ways runB b_are_ways t_are_ways_1
  have e1 : evE e_are_ways_0 [some (.tup (ps.map fun p => p.1)), none] [] = .ok (.lst (ps.map fun p => D.bl p.2)) [] := by
    unfold e_are_ways_0
    exact ev_lcA (enc := fun p : D × Bool => p.1) (g := []) (by simp [ev_v]) rfl (sz100000 hl) fun x hx => ⟨_, rfl, by simp [ev_v, h x hx]⟩
  have a1 : (ps.map fun p => p.2).all id = ps.all fun p => p.2 := by rw [List.all_map]; rfl
  simp [eb_cons, ev_v, e1, all_lst (asBls_map' _ _), a1, -List.all_map]
theorem c_are_more {most : Int} {ws : List Way} {d : D} {b : Bool} (hw : ∀ w ∈ ws, WayOk most w) (hl : ws.length ≤ 1000) (hf : d.free = true) (h : ∀ S, callV false f_is_way [d] S = .ok (.bl b) S) (S : Store) : callV false f_are_ways [.tup (ws.map wayD ++ [d])] S = .ok (.bl b) S := by
  have := c_are_pairs (ps := (ws.map fun w => (wayD w, true)) ++ [(d, b)]) (fun p hp => by
    rcases List.mem_append.mp hp with q | q
    · obtain ⟨w, hm, rfl⟩ := List.mem_map.mp q
      exact c_is_way (hw w hm)
    · rw [List.mem_singleton.mp q]; exact h) (by rw [List.map_append, List.map_map, frees_append]; have := frees_ways ws; simp only [Function.comp_def]; rw [this]; simp [hf]) (by simp; omega) S
  rw [List.map_append, List.map_map] at this
  have e : (((ws.map fun w => (wayD w, true)) ++ [(d, b)]).all fun p => p.2) = b := by
    rw [List.all_append, List.all_map]; simp [Function.comp_def]
  rw [e] at this
  exact this
theorem n_are {d : D} (hd : d.free = true) (h : ∀ xs, d ≠ .tup xs ∧ d ≠ .kup xs) (S : Store) : callV false f_are_ways [d] S = .ok (.bl false) S := by
  refine callV_ok S (S0 := []) ?_ rfl (by simp [hd]) rfl
  show m_are_ways [] [d] = .ok (.bl false) []
  unfold m_are_ways runB b_are_ways t_are_ways_1
  cases d with
  | tup xs => exact absurd rfl (h xs).1
  | kup xs => exact absurd rfl (h xs).2
  | adr => simp at hd
  | _ => simp [eb_cons, ev_v]
end LW

namespace LW
open PX
theorem odd_at {most : Int} {ws : List Way} (hw : ∀ w ∈ ws, WayOk most w) (hl : ws.length ≤ 1000) {p : Int} (h0 : 0 ≤ p) (h1 : p < 4) : ∃ d, L2.atI [D.lst (ws.map wayD), .tup (ws.map wayD ++ [.non]), .tup (ws.map wayD ++ [.tup [.str "set", .int (-1)]]), .non] p = some d ∧ d.free = true ∧ ∀ S, callV false f_are_ways [d] S = .ok (.bl false) S := by
  have hp : p = ((0 : Nat) : Int) ∨ p = ((1 : Nat) : Int) ∨ p = ((2 : Nat) : Int) ∨ p = ((3 : Nat) : Int) := by omega
  have g1 : (D.lst (ws.map wayD)).free = true := by simp [frees_ways]
  rcases hp with rfl | rfl | rfl | rfl
  · exact ⟨_, L2.atI_nat rfl, g1, n_are g1 fun xs => ⟨fun q => (by cases q), fun q => (by cases q)⟩⟩
  · exact ⟨_, L2.atI_nat rfl, by simp [frees_append, frees_ways], c_are_more hw hl rfl fun S => outB_call S (by decide +kernel) rfl rfl⟩
  · exact ⟨_, L2.atI_nat rfl, by simp [frees_append, frees_ways], c_are_more hw hl rfl fun S => outB_call S (by decide +kernel) rfl rfl⟩
  · exact ⟨_, L2.atI_nat rfl, rfl, n_are rfl fun xs => ⟨fun q => (by cases q), fun q => (by cases q)⟩⟩
theorem none_at {bs : List Int} {least : Nat} (hb : bs.length ≤ 1000) (hl : least ≤ bs.length) (h1 : 1 ≤ least) {p : Int} (h0 : 0 ≤ p) (h4 : p < 4) : ∃ d, L2.atI [D.non, .tup ((bs.map D.int).take (least - 1)), .lst (bs.map D.int), .tup (cutG (bs.map D.int) none (some (-1)) ++ [.int 2])] p = some d ∧ d.good = true ∧ badV (least : Int) d = true := by
  have hp : p = ((0 : Nat) : Int) ∨ p = ((1 : Nat) : Int) ∨ p = ((2 : Nat) : Int) ∨ p = ((3 : Nat) : Int) := by omega
  have hg := goods_ints bs
  rcases hp with rfl | rfl | rfl | rfl
  · exact ⟨_, L2.atI_nat rfl, rfl, rfl⟩
  · refine ⟨_, L2.atI_nat rfl, ?_, ?_⟩
    · rw [← List.map_take]
      have : (bs.take (least - 1)).length ≤ 100000 := by simp; omega
      simp only [D.good, goods_ints, List.length_map, decide_eq_true this, Bool.and_self]
    · have : (((bs.map D.int).take (least - 1)).length : Int) < (least : Int) := by simp; omega
      simp only [badV, decide_eq_true this, Bool.true_or]
  · refine ⟨_, L2.atI_nat rfl, ?_, rfl⟩
    have : bs.length ≤ 100000 := by omega
    simp only [D.good, goods_ints, List.length_map, decide_eq_true this, Bool.and_self]
  · refine ⟨_, L2.atI_nat rfl, ?_, ?_⟩
    · have h3 := len_cut (bs.map D.int) none (some (-1))
      have h2 : (cutG (bs.map D.int) none (some (-1)) ++ [D.int 2]).length ≤ 100000 := by rw [List.length_append, List.length_singleton]; rw [List.length_map] at h3; omega
      have h5 : D.goods (cutG (bs.map D.int) none (some (-1)) ++ [D.int 2]) = true := by rw [goods_append, goods_cut hg]; rfl
      simp only [D.good, decide_eq_true h2, h5, Bool.and_self]
    · have : ((cutG (bs.map D.int) none (some (-1)) ++ [D.int 2]).all fun d => withinB d 0 1) = false := by
        rw [List.all_append]
        have : ([D.int 2].all fun d => withinB d 0 1) = false := rfl
        rw [this, Bool.and_false]
      simp only [badV, this, Bool.not_false, Bool.or_true]
theorem law_true (ns : List Int) (hl : ns.length ≤ 63) (hb : ∀ z ∈ ns, PySem.Builtin.Int.intBits z ≤ 1048576) : ∃ S', f_law.sem [] [.scr (ns.map D.int)] = .ok (.bl true) S' := by
  suffices h : (f_law.sem [] [.scr (ns.map D.int)]).wp fun d _ => d = .bl true by
    obtain ⟨d, S', e, rfl⟩ := h.ex
    exact ⟨S', e⟩
  show (m_law [] [.scr (ns.map D.int)]).wp _
  obtain ⟨Q, hQ⟩ : ∃ Q : D → Store → Prop, Q = fun d _ => d = .bl true := ⟨_, rfl⟩
  rw [← hQ]
  unfold m_law
  rw [wp_run]
  unfold b_law
  rw [wpB_cons]
  obtain ⟨S0, e0, d0⟩ := c_deck ns
  unfold t_law_9
  simp [ev_v, e0]
  unfold t_law_10
  have hr : rngOk (3 + (if (5 : Int) < (ns.length : Int) then 5 else (ns.length : Int))) = true := by
    unfold rngOk
    split <;> simp <;> omega
  have m3 : ∀ S, biV .min2 S [.int (ns.length : Int), .int 5] = .ok (.int (if (5 : Int) < (ns.length : Int) then 5 else (ns.length : Int))) S := fun S => rfl
  generalize (if (5 : Int) < (ns.length : Int) then 5 else (ns.length : Int)) = c at *
  simp [ev_v, m3, hr]
  obtain ⟨P, hP⟩ : ∃ P : Nat → Env → Store → Prop, P = fun i ρ S' => ∃ x2 x3 x4 x5 x6 x7 x8 x9 x10 x11 x12 x13 x14, ρ = [some (.scr (ns.map D.int)), some (.adr 1), x2, x3, x4, x5, x6, x7, x8, x9, x10, x11, x12, x13, x14, none] ∧ Deck S' 1 0 := ⟨_, rfl⟩
  refine wp_for (w := ⟨rngL 0 (3 + c).toNat, []⟩) P ?_ (fun _ _ _ _ => rfl) ?_ ?_
  · rw [hP]; exact ⟨_, _, _, _, _, _, _, _, _, _, _, _, _, rfl, d0⟩
  · intro i d ρ S' hdd hp
    rw [hP] at hp
    obtain ⟨x2, x3, x4, x5, x6, x7, x8, x9, x10, x11, x12, x13, x14, rfl, d1⟩ := hp
    refine ⟨_, rfl, ?_⟩
    unfold u_law_8
    simp [ev_v]
    refine wp_pick d1 (by omega) (by omega) fun v S2 h0 h1 d2 y2 => ?_
    obtain ⟨most, hmost, emost⟩ := atI_ints (ns := [3, 8, 60, 75]) h0 h1
    have hm2 : 3 ≤ most ∧ most ≤ 75 := by simp only [List.mem_cons, List.not_mem_nil, or_false] at hmost; omega
    simp only [List.map_cons, List.map_nil] at emost
    simp [emost]
    refine wp_pick d2 (by omega) (by omega) fun u S3 h2 h3 d3 y3 => ?_
    obtain ⟨many, hmany, emany⟩ : ∃ many : Nat, Many many ∧ L2.atI [D.int 1, .int 3, .int 60] u = some (.int (many : Int)) := by
      obtain ⟨z, hz, e⟩ := atI_ints (ns := [1, 3, 60]) h2 h3
      simp only [List.mem_cons, List.not_mem_nil, or_false] at hz
      rcases hz with rfl | rfl | rfl
      · exact ⟨1, .inl rfl, e⟩
      · exact ⟨3, .inr (.inl rfl), e⟩
      · exact ⟨60, .inr (.inr rfl), e⟩
    have hmn : 1 ≤ many ∧ many ≤ 60 := by rcases hmany with rfl | rfl | rfl <;> omega
    simp [emany]
    refine wp_ways d3 hm2 fun S4 ws d4 y4 hws hwl => ?_
    have w1 := fun S => c_law_wanted (S := S) hws (show ws.length ≤ 60 by omega)
    have w2 : ∀ S, biV .max2 S [.int (many : Int), .int (wantI ws)] = .ok (.int (leastI many ws)) S := fun S => by
      rw [least_want (by omega)]; rfl
    have hwv : ∀ w ∈ ws, ∀ x ∈ varsW w, 0 ≤ x ∧ x < 75 := fun w hw x hx => by
      have := hws w hw
      cases w with
      | set a => simp only [varsW, List.mem_singleton] at hx; obtain ⟨k1, k2⟩ := this; omega
      | cut k => simp [varsW] at hx
      | like b a =>
        obtain ⟨k1, k2, k3, k4, k5⟩ := this
        simp only [varsW, List.mem_cons, List.not_mem_nil, or_false] at hx
        omega
      | save l ss =>
        obtain ⟨k1, k2, k3, k4⟩ := this
        simp only [varsW, List.mem_cons, List.mem_flatMap, List.mem_map] at hx
        rcases hx with rfl | ⟨p, hp, t, ht, rfl⟩
        · omega
        · have := ((k4 p hp).ok.tm t ht).1
          have := (k4 p hp).far t ht
          omega
    have hle := (leastI_iff (many := many) (c := 75) (ws := ws) (by omega)).mpr ⟨by omega, fun w hw x hx => (hwv w hw x hx).2⟩
    have hge := (leastI_iff (many := many) (c := leastI many ws) (ws := ws) (by omega)).mp (Int.le_refl _)
    simp [w1, w2]
    obtain ⟨least, hleast⟩ : ∃ least : Nat, leastI many ws = least := ⟨(leastI many ws).toNat, by omega⟩
    rw [hleast]
    rw [hleast] at hle hge
    -- the values
    obtain ⟨P2, hP2⟩ : ∃ P : Nat → List D → Store → Prop, P = fun j acc S' => ∃ bs : List Int, acc = bs.map D.int ∧ Deck S' 1 0 ∧ Bits bs ∧ bs.length = j := ⟨_, rfl⟩
    obtain ⟨ρ0, hρ0⟩ : ∃ ρ0 : Env, ρ0 = [some (.scr (ns.map D.int)), some (.adr 1), some d, some (.int most), some (.int (many : Int)), some (.tup (ws.map wayD)), some (.tup [.int (many : Int), .tup [], .non]), some (.int (least : Int)), x8, x9, x10, x11, x12, x13, x14, none] := ⟨_, rfl⟩
    rw [← hρ0]
    have r1 : ρ0[1]? = some (some (.adr 1)) := by rw [hρ0]; rfl
    have r7 : ρ0[7]? = some (some (.int (least : Int))) := by rw [hρ0]; rfl
    have rl : 15 < ρ0.length := by rw [hρ0]; simp
    unfold e_law_0
    have pk : (callV true f__law_pick [.adr 1, .int 3] S4).wp fun x S5 => ∃ e : Int, x = .int e ∧ 0 ≤ e ∧ e < 3 ∧ Deck S5 1 0 := wp_pick d4 (by omega) (by omega) fun e S5 h4 h5 d5 y5 => ⟨e, rfl, h4, h5, d5⟩
    obtain ⟨_, S5, epk, e, rfl, h4, h5, d5⟩ := pk.ex
    have hr5 : rngOk ((least : Int) + e) = true := by unfold rngOk; simp; omega
    refine wp_lc (w := ⟨rngL 0 ((least : Int) + e).toNat, []⟩) (S1 := S5) P2 ?_ ?_ (by rw [rngL_length]; exact sz100000 (by omega)) (fun _ _ _ _ => rfl) ?_ ?_
    · refine ev_rng1_ok (j := (least : Int) + e) ?_ hr5
      simp [ev_v, r1, r7, epk]
    · rw [hP2]; exact ⟨[], rfl, d5, fun b hb => by simp at hb, rfl⟩
    · intro j x acc S6 hx hp
      rw [hP2] at hp
      obtain ⟨bs, rfl, d6, hbs, hlen⟩ := hp
      refine ⟨_, rfl, ?_⟩
      have z1 : ((wipeE ρ0 [15]).set 15 (some x))[1]? = some (some (.adr 1)) := by
        rw [List.getElem?_set_ne (by decide)]
        show (ρ0.set 15 none)[1]? = _
        rw [List.getElem?_set_ne (by decide)]; exact r1
      simp only [ev_noneC, wp_ok, ev_call, ev_consL, ev_nilL, ev_v, z1, ev_int, R.bind_ok]
      refine wp_pick d6 (by omega) (by omega) fun b S7 h8 h9 d7 y7 => ?_
      rw [hP2]
      exact ⟨bs ++ [b], by simp, d7, fun z hz => by
        rcases List.mem_append.mp hz with q | q
        · exact hbs z q
        · rw [List.mem_singleton.mp q]; omega, by simp [hlen]⟩
    intro acc S6 hp _
    rw [hP2] at hp
    obtain ⟨bs, rfl, d6, hbs, hlen⟩ := hp
    rw [rngL_length] at hlen
    have hlb : least ≤ bs.length := by omega
    have hb1000 : bs.length ≤ 1000 := by omega
    have hv : ∀ w ∈ ws, ∀ x ∈ varsW w, 0 ≤ x ∧ x < bs.length := fun w hw x hx => ⟨(hwv w hw x hx).1, by have := hge.2 w hw x hx; omega⟩
    have t1 := fun S => c_taken_back (S := S) hmany hws (show ws.length ≤ 1000 by omega) (show bs.length ≤ 100000 by omega) hbs (by rw [hleast]; omega) hv
    have t2 := fun S => c_law_back (S := S) (many := many) hws (show ws.length ≤ 1000 by omega) (show bs.length ≤ 100000 by omega) hbs hv
    have t3 : ∀ S, callV false f__law_same [backD ws bs many, backD ws bs many] S = .ok (.bl true) S := fun S => c_same_ints (by rw [List.length_take, goAll_len]; omega) S
    have t4 := fun S => c_gone (S := S) hws (show ws.length ≤ 60 by omega)
    have t5 := fun S => c_law_gone (S := S) hws (show ws.length ≤ 60 by omega)
    have gl : (goneD ws).length ≤ 100000 := by
      unfold goneD
      rw [(sortI_perm _).length_eq]
      have h6 := dedI_len ((ws.filter fun w => !isCut w).map oneV)
      have := List.length_filter_le (fun w => !isCut w) ws
      rw [List.length_map] at h6
      omega
    have t6 := fun S => c_same_ints gl S
    simp only [probD] at t1
    have al : ∀ (S : Store) (xs ys : List D), xs.length + ys.length ≤ 1000 → binV .add S (D.lst xs) (D.lst ys) = .ok (.lst (xs ++ ys)) S := fun S xs ys h => add_lst (by omega)
    simp [ev_v, k_taken2, t1, t2, t3, k_gone, t4, t5, t6, al]
    obtain ⟨P3, hP3⟩ : ∃ P : Nat → Env → Store → Prop, P = fun j ρ S' => ∃ y11, ρ = [some (.scr (ns.map D.int)), some (.adr 1), some d, some (.int most), some (.int (many : Int)), some (.tup (ws.map wayD)), some (.tup [.int (many : Int), .tup [], .non]), some (.int (least : Int)), some (.tup (bs.map D.int)), some oneD, some (.lst nearL), y11, x12, x13, x14, none] ∧ S' = S6 := ⟨_, rfl⟩
    refine wp_for (w := ⟨nearL, []⟩) P3 (by rw [hP3]; exact ⟨x11, rfl, rfl⟩) (fun _ _ _ _ => rfl) ?_ ?_
    · intro j x ρ S7 hx hp
      rw [hP3] at hp
      obtain ⟨y11, rfl, rfl⟩ := hp
      refine ⟨_, rfl, ?_⟩
      have hmem := List.mem_of_getElem? hx
      obtain ⟨b, q1, q2⟩ := c_near hmem
      have q3 := fun S => c_are_more (b := b) hws (show ws.length ≤ 1000 by omega) (D.frees_iff.mp near_free x hmem) q1 S
      have q4 : ∀ S, binV .add S (.tup (ws.map wayD)) (.tup [x]) = .ok (.tup (ws.map wayD ++ [x])) S := fun S => add_tup (by simp; omega)
      unfold u_law_4
      simp [ev_v, q4, k_are_ways, q3, q2, c_same_bl]
      rw [hP3]
      exact ⟨_, rfl, rfl⟩
    · intro ρ S7 hp
      rw [hP3] at hp
      obtain ⟨y11, rfl, rfl⟩ := hp
      have q1 := fun S => c_are_ways_ok hws (show ws.length ≤ 1000 by omega) S
      have q2 : ∀ S, biV .list S [.tup (ws.map wayD)] = .ok (.lst (ws.map wayD)) S := fun S => rfl
      have q3 : ∀ S, binV .add S (.lst (ws.map wayD)) (.lst [.int 0]) = .ok (.lst (ws.map wayD ++ [.int 0])) S := fun S => add_lst (by simp; omega)
      have q4 : ∀ y, evE e_law_5 [some (.scr (ns.map D.int)), some (.adr 1), some d, some (.int most), some (.int (many : Int)), some (.tup (ws.map wayD)), some (.tup [.int (many : Int), .tup [], .non]), some (.int (least : Int)), some (.tup (bs.map D.int)), some oneD, some (.lst nearL), y, x12, x13, x14, none] S7 = .ok (.lst []) S7 := fun y => by
        have := ev_lc (enc := id) (b := fun _ : D => false) (y := id) (vs := [11]) (t := .name 11) (it := .seq (.tup (.cons (.non) (.cons (.bin .add (.bi .list (.cons (.var 5) .nil)) (.lst (.cons (.int 0) .nil))) (.cons (.str "ways") (.cons (.int 0) .nil)))))) (c := .some (.cmp .isNot (.call false f_are_ways (.cons (.var 11) .nil)) (.bl false))) (e := .var 11) (ρ := [some (.scr (ns.map D.int)), some (.adr 1), some d, some (.int most), some (.int (many : Int)), some (.tup (ws.map wayD)), some (.tup [.int (many : Int), .tup [], .non]), some (.int (least : Int)), some (.tup (bs.map D.int)), some oneD, some (.lst nearL), y, x12, x13, x14, none]) (S := S7) (xs := [.non, .lst (ws.map wayD ++ [.int 0]), .str "ways", .int 0]) (g := []) (by simp [ev_v, q2, q3]) rfl (by simp; exact sz100000 (by omega)) (fun x hx => ⟨_, rfl, by
          have hn : ∀ S, callV false f_are_ways [x] S = .ok (.bl false) S := by
            simp only [List.mem_cons, List.not_mem_nil, or_false] at hx
            rcases hx with rfl | rfl | rfl | rfl
            · exact n_are rfl fun xs => ⟨fun q => (by cases q), fun q => (by cases q)⟩
            · exact n_are (by simp [frees_append, frees_ways]) fun xs => ⟨fun q => (by cases q), fun q => (by cases q)⟩
            · exact n_are rfl fun xs => ⟨fun q => (by cases q), fun q => (by cases q)⟩
            · exact n_are rfl fun xs => ⟨fun q => (by cases q), fun q => (by cases q)⟩
          simp [ev_v, hn, is_tt], fun h => by cases h⟩)
        unfold e_law_5
        rw [this, List.filter_eq_nil_iff.mpr fun t ht => by simp]
        rfl
      have q4' := q4 y11
      simp [ev_v, q1, is_tt, q4', ne_nil0]
      have z1 : ∀ S, binV .add S (.tup (ws.map wayD)) (.tup [.non]) = .ok (.tup (ws.map wayD ++ [.non])) S := fun S => add_tup (by simp; omega)
      have z2 : ∀ S, binV .add S (.tup (ws.map wayD)) (.tup [.tup [.str "set", .int (-1)]]) = .ok (.tup (ws.map wayD ++ [.tup [.str "set", .int (-1)]])) S := fun S => add_tup (by simp; omega)
      simp [q2, z1, z2]
      refine wp_pick d6 (by omega) (by omega) fun o S8 h8 h9 d8 y8 => ?_
      obtain ⟨odd, ho, hof, hon⟩ := odd_at hws (show ws.length ≤ 1000 by omega) h8 h9
      simp only [ix_lst, ho, optR_some, wp_ok]
      have s1 : ∀ S, slV S (.tup (bs.map D.int)) none (some ((least : Int) - 1)) = .ok (.tup ((bs.map D.int).take (least - 1))) S := fun S => by
        rw [slV_tup, show (least : Int) - 1 = ((least - 1 : Nat) : Int) by omega, cut_to]
      have s2 : ∀ S, biV .list S [.tup (bs.map D.int)] = .ok (.lst (bs.map D.int)) S := fun S => rfl
      have s3 : ∀ S, slV S (.tup (bs.map D.int)) none (some (-1)) = .ok (.tup (cutG (bs.map D.int) none (some (-1)))) S := fun S => rfl
      have s5 := len_cut (bs.map D.int) none (some (-1))
      have s4 : ∀ S, binV .add S (.tup (cutG (bs.map D.int) none (some (-1)))) (.tup [.int 2]) = .ok (.tup (cutG (bs.map D.int) none (some (-1)) ++ [.int 2])) S := fun S => add_tup (by rw [List.length_map] at s5; simp; omega)
      simp only [s1, s2, s3, s4, wp_ok]
      refine wp_pick d8 (by omega) (by omega) fun z S9 h10 h11 d9 y9 => ?_
      obtain ⟨bad, hb1, hb2, hb3⟩ := none_at hb1000 hlb (by omega) h10 h11
      have hbf := D.good.free hb2
      have u1 := fun S => refused_t (p := .non) (w := odd) (v := bad) (c := "BadProblem") (m := "problem") (by simp [hof, hbf]) (.inl ⟨rfl, rfl⟩) (fun S => n_taken1 hof hbf S) S
      have u2 := fun S => refused_t (p := probD many) (w := odd) (v := bad) (c := "BadWays") (m := "ways") (by simp [hof, hbf, probD]) (.inr (.inl ⟨rfl, rfl⟩)) (fun S => n_taken2 hmany hof hbf hon S) S
      have u3 := fun S => refused_t (p := probD many) (w := .tup (ws.map wayD)) (v := bad) (c := "BadValues") (m := "values") (by simp [hbf, probD, frees_ways]) (.inr (.inr ⟨rfl, rfl⟩)) (fun S => n_taken3 hmany hws (show ws.length ≤ 1000 by omega) hb2 (by rw [hleast]; exact hb3) S) S
      have u4 := fun S => refused_g (p := .non) (w := odd) (v := .non) (by simp [hof]) hon S
      simp only [probD] at u2 u3
      simp only [ix_lst, hb1, optR_some, wp_ok, u1, u2, u3, u4, ne_strs4]
      simp
      rw [hP]
      exact ⟨_, _, _, _, _, _, _, _, _, _, _, _, _, rfl, d9⟩
  · intro ρ S' hp
    rw [hP] at hp
    obtain ⟨x2, x3, x4, x5, x6, x7, x8, x9, x10, x11, x12, x13, x14, rfl, d1⟩ := hp
    simp
    unfold t_law_11
    simp [ev_v]
    rw [hQ]
theorem law_promise {K : PySem.W.Frag} {mg : PySem.Str → Option PySem.Value} {vs : List L2.V} {H : L2.Hp} {Q : L2.VK} {E : L2.XK} (h : PX.spLaw K vs H Q E) : spFn K mg f_law vs H Q E := promise rfl law_true h
end LW

/-! the end, printed by gen.py -/
namespace LW
open PySem L2 PX
theorem all_mk {P : Program} {w : World} {K : PySem.W.Frag} {h : Heap} {mg : Str → Option Value} {fa f0 f1 f2 f3 f4 f5 f6 f7 f8 f9 f10 f11 f12 f13 f14 f15 f16 f17 f18 f19 f20 f21 f22 f23 f24 f25 f26 f27 f28 f29 f30 f31 f32 f33 f34 f35 f36 f37 f38 f39 f40 f41 C_BadProblem C_BadValues C_BadWays : Addr} (X : K.In h) (G : h.Ns mainGlobals mg) (hfa : mg "law" = some (.ref fa))
    {od0 an0 od1 an1 od2 an2 od3 an3 od4 an4 od5 an5 od6 an6 od7 an7 od8 an8 od9 an9 od10 an10 od11 an11 od12 an12 od13 an13 od14 an14 od15 an15 od16 an16 od17 an17 od18 an18 od19 an19 od20 an20 od21 an21 od22 an22 od23 an23 od24 an24 od25 an25 od26 an26 od27 an27 od28 an28 od29 an29 od30 an30 od31 an31 od32 an32 od33 an33 od34 an34 od35 an35 od36 an36 od37 an37 od38 an38 od39 an39 od40 an40 od41 an41 : Option Addr} {sl0 sl1 sl2 sl3 sl4 sl5 sl6 sl7 sl8 sl9 sl10 sl11 sl12 sl13 sl14 sl15 sl16 sl17 sl18 sl19 sl20 sl21 sl22 sl23 sl24 sl25 sl26 sl27 sl28 sl29 sl30 sl31 sl32 sl33 sl34 sl35 sl36 sl37 sl38 sl39 sl40 sl41 : Array (Option Value)} {oc0 kV0 dc0 pm0 cd0 ct0 oc1 kV1 dc1 pm1 cd1 ct1 oc2 kV2 dc2 pm2 cd2 ct2 oc3 kV3 dc3 pm3 cd3 ct3 oc4 kV4 dc4 pm4 cd4 ct4 oc5 kV5 dc5 pm5 cd5 ct5 oc6 kV6 dc6 pm6 cd6 ct6 oc7 kV7 dc7 pm7 cd7 ct7 oc8 kV8 dc8 pm8 cd8 ct8 oc9 kV9 dc9 pm9 cd9 ct9 oc10 kV10 dc10 pm10 cd10 ct10 oc11 kV11 dc11 pm11 cd11 ct11 oc12 kV12 dc12 pm12 cd12 ct12 oc13 kV13 dc13 pm13 cd13 ct13 oc14 kV14 dc14 pm14 cd14 ct14 oc15 kV15 dc15 pm15 cd15 ct15 oc16 kV16 dc16 pm16 cd16 ct16 oc17 kV17 dc17 pm17 cd17 ct17 oc18 kV18 dc18 pm18 cd18 ct18 oc19 kV19 dc19 pm19 cd19 ct19 oc20 kV20 dc20 pm20 cd20 ct20 oc21 kV21 dc21 pm21 cd21 ct21 oc22 kV22 dc22 pm22 cd22 ct22 oc23 kV23 dc23 pm23 cd23 ct23 oc24 kV24 dc24 pm24 cd24 ct24 oc25 kV25 dc25 pm25 cd25 ct25 oc26 kV26 dc26 pm26 cd26 ct26 oc27 kV27 dc27 pm27 cd27 ct27 oc28 kV28 dc28 pm28 cd28 ct28 oc29 kV29 dc29 pm29 cd29 ct29 oc30 kV30 dc30 pm30 cd30 ct30 oc31 kV31 dc31 pm31 cd31 ct31 oc32 kV32 dc32 pm32 cd32 ct32 oc33 kV33 dc33 pm33 cd33 ct33 oc34 kV34 dc34 pm34 cd34 ct34 oc35 kV35 dc35 pm35 cd35 ct35 oc36 kV36 dc36 pm36 cd36 ct36 oc37 kV37 dc37 pm37 cd37 ct37 oc38 kV38 dc38 pm38 cd38 ct38 oc39 kV39 dc39 pm39 cd39 ct39 oc40 kV40 dc40 pm40 cd40 ct40 oc41 kV41 dc41 pm41 cd41 ct41 : Value}
    {t_MOST_NUMBER : Tok}
    {t_MOST_SUMS : Tok}
    {t_MOST_VARIABLES : Tok}
    (a0 : PySem.W.nsIn K mainGlobals "is_int" = some (some (.ref f0)))
    (l0 : K.lookup f0 = some ⟨oc0, od0, .func (PySem.W.fnOf "is_int" "is_int" (defArgs s_is_int) (defBody s_is_int) (defScope s_is_int) .none kV0 dc0 pm0 an0 cd0 ct0), sl0⟩)
    (c0 : PySem.W.codeIn K cd0 "is_int" = true) (k0 : PySem.W.keepIn K (.ref f0) = true)
    (a1 : PySem.W.nsIn K mainGlobals "is_index" = some (some (.ref f1)))
    (l1 : K.lookup f1 = some ⟨oc1, od1, .func (PySem.W.fnOf "is_index" "is_index" (defArgs s_is_index) (defBody s_is_index) (defScope s_is_index) .none kV1 dc1 pm1 an1 cd1 ct1), sl1⟩)
    (c1 : PySem.W.codeIn K cd1 "is_index" = true) (k1 : PySem.W.keepIn K (.ref f1) = true)
    (a2 : PySem.W.nsIn K mainGlobals "is_row" = some (some (.ref f2)))
    (l2 : K.lookup f2 = some ⟨oc2, od2, .func (PySem.W.fnOf "is_row" "is_row" (defArgs s_is_row) (defBody s_is_row) (defScope s_is_row) .none kV2 dc2 pm2 an2 cd2 ct2), sl2⟩)
    (c2 : PySem.W.codeIn K cd2 "is_row" = true) (k2 : PySem.W.keepIn K (.ref f2) = true)
    (a3 : PySem.W.nsIn K mainGlobals "is_term" = some (some (.ref f3)))
    (l3 : K.lookup f3 = some ⟨oc3, od3, .func (PySem.W.fnOf "is_term" "is_term" (defArgs s_is_term) (defBody s_is_term) (defScope s_is_term) .none kV3 dc3 pm3 an3 cd3 ct3), sl3⟩)
    (c3 : PySem.W.codeIn K cd3 "is_term" = true) (k3 : PySem.W.keepIn K (.ref f3) = true)
    (a4 : PySem.W.nsIn K mainGlobals "are_terms" = some (some (.ref f4)))
    (l4 : K.lookup f4 = some ⟨oc4, od4, .func (PySem.W.fnOf "are_terms" "are_terms" (defArgs s_are_terms) (defBody s_are_terms) (defScope s_are_terms) .none kV4 dc4 pm4 an4 cd4 ct4), sl4⟩)
    (c4 : PySem.W.codeIn K cd4 "are_terms" = true) (k4 : PySem.W.keepIn K (.ref f4) = true)
    (a5 : PySem.W.nsIn K mainGlobals "is_sum" = some (some (.ref f5)))
    (l5 : K.lookup f5 = some ⟨oc5, od5, .func (PySem.W.fnOf "is_sum" "is_sum" (defArgs s_is_sum) (defBody s_is_sum) (defScope s_is_sum) .none kV5 dc5 pm5 an5 cd5 ct5), sl5⟩)
    (c5 : PySem.W.codeIn K cd5 "is_sum" = true) (k5 : PySem.W.keepIn K (.ref f5) = true)
    (a6 : PySem.W.nsIn K mainGlobals "literals_of" = some (some (.ref f6)))
    (l6 : K.lookup f6 = some ⟨oc6, od6, .func (PySem.W.fnOf "literals_of" "literals_of" (defArgs s_literals_of) (defBody s_literals_of) (defScope s_literals_of) .none kV6 dc6 pm6 an6 cd6 ct6), sl6⟩)
    (c6 : PySem.W.codeIn K cd6 "literals_of" = true) (k6 : PySem.W.keepIn K (.ref f6) = true)
    (a7 : PySem.W.nsIn K mainGlobals "is_way" = some (some (.ref f7)))
    (l7 : K.lookup f7 = some ⟨oc7, od7, .func (PySem.W.fnOf "is_way" "is_way" (defArgs s_is_way) (defBody s_is_way) (defScope s_is_way) .none kV7 dc7 pm7 an7 cd7 ct7), sl7⟩)
    (c7 : PySem.W.codeIn K cd7 "is_way" = true) (k7 : PySem.W.keepIn K (.ref f7) = true)
    (a8 : PySem.W.nsIn K mainGlobals "are_ways" = some (some (.ref f8)))
    (l8 : K.lookup f8 = some ⟨oc8, od8, .func (PySem.W.fnOf "are_ways" "are_ways" (defArgs s_are_ways) (defBody s_are_ways) (defScope s_are_ways) .none kV8 dc8 pm8 an8 cd8 ct8), sl8⟩)
    (c8 : PySem.W.codeIn K cd8 "are_ways" = true) (k8 : PySem.W.keepIn K (.ref f8) = true)
    (a9 : PySem.W.nsIn K mainGlobals "within" = some (some (.ref f9)))
    (l9 : K.lookup f9 = some ⟨oc9, od9, .func (PySem.W.fnOf "within" "within" (defArgs s_within) (defBody s_within) (defScope s_within) .none kV9 dc9 pm9 an9 cd9 ct9), sl9⟩)
    (c9 : PySem.W.codeIn K cd9 "within" = true) (k9 : PySem.W.keepIn K (.ref f9) = true)
    (a10 : PySem.W.nsIn K mainGlobals "are_bits" = some (some (.ref f10)))
    (l10 : K.lookup f10 = some ⟨oc10, od10, .func (PySem.W.fnOf "are_bits" "are_bits" (defArgs s_are_bits) (defBody s_are_bits) (defScope s_are_bits) .none kV10 dc10 pm10 an10 cd10 ct10), sl10⟩)
    (c10 : PySem.W.codeIn K cd10 "are_bits" = true) (k10 : PySem.W.keepIn K (.ref f10) = true)
    (a11 : PySem.W.nsIn K mainGlobals "is_price" = some (some (.ref f11)))
    (l11 : K.lookup f11 = some ⟨oc11, od11, .func (PySem.W.fnOf "is_price" "is_price" (defArgs s_is_price) (defBody s_is_price) (defScope s_is_price) .none kV11 dc11 pm11 an11 cd11 ct11), sl11⟩)
    (c11 : PySem.W.codeIn K cd11 "is_price" = true) (k11 : PySem.W.keepIn K (.ref f11) = true)
    (a12 : PySem.W.nsIn K mainGlobals "are_small_terms" = some (some (.ref f12)))
    (l12 : K.lookup f12 = some ⟨oc12, od12, .func (PySem.W.fnOf "are_small_terms" "are_small_terms" (defArgs s_are_small_terms) (defBody s_are_small_terms) (defScope s_are_small_terms) .none kV12 dc12 pm12 an12 cd12 ct12), sl12⟩)
    (c12 : PySem.W.codeIn K cd12 "are_small_terms" = true) (k12 : PySem.W.keepIn K (.ref f12) = true)
    (a13 : PySem.W.nsIn K mainGlobals "is_small_price" = some (some (.ref f13)))
    (l13 : K.lookup f13 = some ⟨oc13, od13, .func (PySem.W.fnOf "is_small_price" "is_small_price" (defArgs s_is_small_price) (defBody s_is_small_price) (defScope s_is_small_price) .none kV13 dc13 pm13 an13 cd13 ct13), sl13⟩)
    (c13 : PySem.W.codeIn K cd13 "is_small_price" = true) (k13 : PySem.W.keepIn K (.ref f13) = true)
    (a14 : PySem.W.nsIn K mainGlobals "is_small_sum" = some (some (.ref f14)))
    (l14 : K.lookup f14 = some ⟨oc14, od14, .func (PySem.W.fnOf "is_small_sum" "is_small_sum" (defArgs s_is_small_sum) (defBody s_is_small_sum) (defScope s_is_small_sum) .none kV14 dc14 pm14 an14 cd14 ct14), sl14⟩)
    (c14 : PySem.W.codeIn K cd14 "is_small_sum" = true) (k14 : PySem.W.keepIn K (.ref f14) = true)
    (a15 : PySem.W.nsIn K mainGlobals "are_small_sums" = some (some (.ref f15)))
    (l15 : K.lookup f15 = some ⟨oc15, od15, .func (PySem.W.fnOf "are_small_sums" "are_small_sums" (defArgs s_are_small_sums) (defBody s_are_small_sums) (defScope s_are_small_sums) .none kV15 dc15 pm15 an15 cd15 ct15), sl15⟩)
    (c15 : PySem.W.codeIn K cd15 "are_small_sums" = true) (k15 : PySem.W.keepIn K (.ref f15) = true)
    (a16 : PySem.W.nsIn K mainGlobals "is_problem" = some (some (.ref f16)))
    (l16 : K.lookup f16 = some ⟨oc16, od16, .func (PySem.W.fnOf "is_problem" "is_problem" (defArgs s_is_problem) (defBody s_is_problem) (defScope s_is_problem) .none kV16 dc16 pm16 an16 cd16 ct16), sl16⟩)
    (c16 : PySem.W.codeIn K cd16 "is_problem" = true) (k16 : PySem.W.keepIn K (.ref f16) = true)
    (a17 : PySem.W.nsIn K mainGlobals "need_problem" = some (some (.ref f17)))
    (l17 : K.lookup f17 = some ⟨oc17, od17, .func (PySem.W.fnOf "need_problem" "need_problem" (defArgs s_need_problem) (defBody s_need_problem) (defScope s_need_problem) .none kV17 dc17 pm17 an17 cd17 ct17), sl17⟩)
    (c17 : PySem.W.codeIn K cd17 "need_problem" = true) (k17 : PySem.W.keepIn K (.ref f17) = true)
    (a18 : PySem.W.nsIn K mainGlobals "is_true" = some (some (.ref f18)))
    (l18 : K.lookup f18 = some ⟨oc18, od18, .func (PySem.W.fnOf "is_true" "is_true" (defArgs s_is_true) (defBody s_is_true) (defScope s_is_true) .none kV18 dc18 pm18 an18 cd18 ct18), sl18⟩)
    (c18 : PySem.W.codeIn K cd18 "is_true" = true) (k18 : PySem.W.keepIn K (.ref f18) = true)
    (a19 : PySem.W.nsIn K mainGlobals "worth" = some (some (.ref f19)))
    (l19 : K.lookup f19 = some ⟨oc19, od19, .func (PySem.W.fnOf "worth" "worth" (defArgs s_worth) (defBody s_worth) (defScope s_worth) .none kV19 dc19 pm19 an19 cd19 ct19), sl19⟩)
    (c19 : PySem.W.codeIn K cd19 "worth" = true) (k19 : PySem.W.keepIn K (.ref f19) = true)
    (a20 : PySem.W.nsIn K mainGlobals "keeps" = some (some (.ref f20)))
    (l20 : K.lookup f20 = some ⟨oc20, od20, .func (PySem.W.fnOf "keeps" "keeps" (defArgs s_keeps) (defBody s_keeps) (defScope s_keeps) .none kV20 dc20 pm20 an20 cd20 ct20), sl20⟩)
    (c20 : PySem.W.codeIn K cd20 "keeps" = true) (k20 : PySem.W.keepIn K (.ref f20) = true)
    (a21 : PySem.W.nsIn K mainGlobals "put_true" = some (some (.ref f21)))
    (l21 : K.lookup f21 = some ⟨oc21, od21, .func (PySem.W.fnOf "put_true" "put_true" (defArgs s_put_true) (defBody s_put_true) (defScope s_put_true) .none kV21 dc21 pm21 an21 cd21 ct21), sl21⟩)
    (c21 : PySem.W.codeIn K cd21 "put_true" = true) (k21 : PySem.W.keepIn K (.ref f21) = true)
    (a22 : PySem.W.nsIn K mainGlobals "go_back" = some (some (.ref f22)))
    (l22 : K.lookup f22 = some ⟨oc22, od22, .func (PySem.W.fnOf "go_back" "go_back" (defArgs s_go_back) (defBody s_go_back) (defScope s_go_back) .none kV22 dc22 pm22 an22 cd22 ct22), sl22⟩)
    (c22 : PySem.W.codeIn K cd22 "go_back" = true) (k22 : PySem.W.keepIn K (.ref f22) = true)
    (a23 : PySem.W.nsIn K mainGlobals "gone_back" = some (some (.ref f23)))
    (l23 : K.lookup f23 = some ⟨oc23, od23, .func (PySem.W.fnOf "gone_back" "gone_back" (defArgs s_gone_back) (defBody s_gone_back) (defScope s_gone_back) .none kV23 dc23 pm23 an23 cd23 ct23), sl23⟩)
    (c23 : PySem.W.codeIn K cd23 "gone_back" = true) (k23 : PySem.W.keepIn K (.ref f23) = true)
    (a24 : PySem.W.nsIn K mainGlobals "highest" = some (some (.ref f24)))
    (l24 : K.lookup f24 = some ⟨oc24, od24, .func (PySem.W.fnOf "highest" "highest" (defArgs s_highest) (defBody s_highest) (defScope s_highest) .none kV24 dc24 pm24 an24 cd24 ct24), sl24⟩)
    (c24 : PySem.W.codeIn K cd24 "highest" = true) (k24 : PySem.W.keepIn K (.ref f24) = true)
    (a25 : PySem.W.nsIn K mainGlobals "need_ways" = some (some (.ref f25)))
    (l25 : K.lookup f25 = some ⟨oc25, od25, .func (PySem.W.fnOf "need_ways" "need_ways" (defArgs s_need_ways) (defBody s_need_ways) (defScope s_need_ways) .none kV25 dc25 pm25 an25 cd25 ct25), sl25⟩)
    (c25 : PySem.W.codeIn K cd25 "need_ways" = true) (k25 : PySem.W.keepIn K (.ref f25) = true)
    (a26 : PySem.W.nsIn K mainGlobals "taken_back" = some (some (.ref f26)))
    (l26 : K.lookup f26 = some ⟨oc26, od26, .func (PySem.W.fnOf "taken_back" "taken_back" (defArgs s_taken_back) (defBody s_taken_back) (defScope s_taken_back) .none kV26 dc26 pm26 an26 cd26 ct26), sl26⟩)
    (c26 : PySem.W.codeIn K cd26 "taken_back" = true) (k26 : PySem.W.keepIn K (.ref f26) = true)
    (a27 : PySem.W.nsIn K mainGlobals "gone_variables" = some (some (.ref f27)))
    (l27 : K.lookup f27 = some ⟨oc27, od27, .func (PySem.W.fnOf "gone_variables" "gone_variables" (defArgs s_gone_variables) (defBody s_gone_variables) (defScope s_gone_variables) .none kV27 dc27 pm27 an27 cd27 ct27), sl27⟩)
    (c27 : PySem.W.codeIn K cd27 "gone_variables" = true) (k27 : PySem.W.keepIn K (.ref f27) = true)
    (a28 : PySem.W.nsIn K mainGlobals "gone" = some (some (.ref f28)))
    (l28 : K.lookup f28 = some ⟨oc28, od28, .func (PySem.W.fnOf "gone" "gone" (defArgs s_gone) (defBody s_gone) (defScope s_gone) .none kV28 dc28 pm28 an28 cd28 ct28), sl28⟩)
    (c28 : PySem.W.codeIn K cd28 "gone" = true) (k28 : PySem.W.keepIn K (.ref f28) = true)
    (a29 : PySem.W.nsIn K mainGlobals "_law_deck" = some (some (.ref f29)))
    (l29 : K.lookup f29 = some ⟨oc29, od29, .func (PySem.W.fnOf "_law_deck" "_law_deck" (defArgs s__law_deck) (defBody s__law_deck) (defScope s__law_deck) .none kV29 dc29 pm29 an29 cd29 ct29), sl29⟩)
    (c29 : PySem.W.codeIn K cd29 "_law_deck" = true) (k29 : PySem.W.keepIn K (.ref f29) = true)
    (a30 : PySem.W.nsIn K mainGlobals "_law_pick" = some (some (.ref f30)))
    (l30 : K.lookup f30 = some ⟨oc30, od30, .func (PySem.W.fnOf "_law_pick" "_law_pick" (defArgs s__law_pick) (defBody s__law_pick) (defScope s__law_pick) .none kV30 dc30 pm30 an30 cd30 ct30), sl30⟩)
    (c30 : PySem.W.codeIn K cd30 "_law_pick" = true) (k30 : PySem.W.keepIn K (.ref f30) = true)
    (a31 : PySem.W.nsIn K mainGlobals "_law_same" = some (some (.ref f31)))
    (l31 : K.lookup f31 = some ⟨oc31, od31, .func (PySem.W.fnOf "_law_same" "_law_same" (defArgs s__law_same) (defBody s__law_same) (defScope s__law_same) .none kV31 dc31 pm31 an31 cd31 ct31), sl31⟩)
    (c31 : PySem.W.codeIn K cd31 "_law_same" = true) (k31 : PySem.W.keepIn K (.ref f31) = true)
    (a32 : PySem.W.nsIn K mainGlobals "_law_back" = some (some (.ref f32)))
    (l32 : K.lookup f32 = some ⟨oc32, od32, .func (PySem.W.fnOf "_law_back" "_law_back" (defArgs s__law_back) (defBody s__law_back) (defScope s__law_back) .none kV32 dc32 pm32 an32 cd32 ct32), sl32⟩)
    (c32 : PySem.W.codeIn K cd32 "_law_back" = true) (k32 : PySem.W.keepIn K (.ref f32) = true)
    (a33 : PySem.W.nsIn K mainGlobals "_law_gone" = some (some (.ref f33)))
    (l33 : K.lookup f33 = some ⟨oc33, od33, .func (PySem.W.fnOf "_law_gone" "_law_gone" (defArgs s__law_gone) (defBody s__law_gone) (defScope s__law_gone) .none kV33 dc33 pm33 an33 cd33 ct33), sl33⟩)
    (c33 : PySem.W.codeIn K cd33 "_law_gone" = true) (k33 : PySem.W.keepIn K (.ref f33) = true)
    (a34 : PySem.W.nsIn K mainGlobals "_law_save" = some (some (.ref f34)))
    (l34 : K.lookup f34 = some ⟨oc34, od34, .func (PySem.W.fnOf "_law_save" "_law_save" (defArgs s__law_save) (defBody s__law_save) (defScope s__law_save) .none kV34 dc34 pm34 an34 cd34 ct34), sl34⟩)
    (c34 : PySem.W.codeIn K cd34 "_law_save" = true) (k34 : PySem.W.keepIn K (.ref f34) = true)
    (a35 : PySem.W.nsIn K mainGlobals "_law_ways" = some (some (.ref f35)))
    (l35 : K.lookup f35 = some ⟨oc35, od35, .func (PySem.W.fnOf "_law_ways" "_law_ways" (defArgs s__law_ways) (defBody s__law_ways) (defScope s__law_ways) .none kV35 dc35 pm35 an35 cd35 ct35), sl35⟩)
    (c35 : PySem.W.codeIn K cd35 "_law_ways" = true) (k35 : PySem.W.keepIn K (.ref f35) = true)
    (a36 : PySem.W.nsIn K mainGlobals "_law_int" = some (some (.ref f36)))
    (l36 : K.lookup f36 = some ⟨oc36, od36, .func (PySem.W.fnOf "_law_int" "_law_int" (defArgs s__law_int) (defBody s__law_int) (defScope s__law_int) .none kV36 dc36 pm36 an36 cd36 ct36), sl36⟩)
    (c36 : PySem.W.codeIn K cd36 "_law_int" = true) (k36 : PySem.W.keepIn K (.ref f36) = true)
    (a37 : PySem.W.nsIn K mainGlobals "_law_is_sum" = some (some (.ref f37)))
    (l37 : K.lookup f37 = some ⟨oc37, od37, .func (PySem.W.fnOf "_law_is_sum" "_law_is_sum" (defArgs s__law_is_sum) (defBody s__law_is_sum) (defScope s__law_is_sum) .none kV37 dc37 pm37 an37 cd37 ct37), sl37⟩)
    (c37 : PySem.W.codeIn K cd37 "_law_is_sum" = true) (k37 : PySem.W.keepIn K (.ref f37) = true)
    (a38 : PySem.W.nsIn K mainGlobals "_law_is_way" = some (some (.ref f38)))
    (l38 : K.lookup f38 = some ⟨oc38, od38, .func (PySem.W.fnOf "_law_is_way" "_law_is_way" (defArgs s__law_is_way) (defBody s__law_is_way) (defScope s__law_is_way) .none kV38 dc38 pm38 an38 cd38 ct38), sl38⟩)
    (c38 : PySem.W.codeIn K cd38 "_law_is_way" = true) (k38 : PySem.W.keepIn K (.ref f38) = true)
    (a39 : PySem.W.nsIn K mainGlobals "_law_wanted" = some (some (.ref f39)))
    (l39 : K.lookup f39 = some ⟨oc39, od39, .func (PySem.W.fnOf "_law_wanted" "_law_wanted" (defArgs s__law_wanted) (defBody s__law_wanted) (defScope s__law_wanted) .none kV39 dc39 pm39 an39 cd39 ct39), sl39⟩)
    (c39 : PySem.W.codeIn K cd39 "_law_wanted" = true) (k39 : PySem.W.keepIn K (.ref f39) = true)
    (a40 : PySem.W.nsIn K mainGlobals "_law_refused" = some (some (.ref f40)))
    (l40 : K.lookup f40 = some ⟨oc40, od40, .func (PySem.W.fnOf "_law_refused" "_law_refused" (defArgs s__law_refused) (defBody s__law_refused) (defScope s__law_refused) .none kV40 dc40 pm40 an40 cd40 ct40), sl40⟩)
    (c40 : PySem.W.codeIn K cd40 "_law_refused" = true) (k40 : PySem.W.keepIn K (.ref f40) = true)
    (a41 : PySem.W.nsIn K mainGlobals "law" = some (some (.ref f41)))
    (l41 : K.lookup f41 = some ⟨oc41, od41, .func (PySem.W.fnOf "law" "law" (defArgs s_law) (defBody s_law) (defScope s_law) .none kV41 dc41 pm41 an41 cd41 ct41), sl41⟩)
    (c41 : PySem.W.codeIn K cd41 "law" = true) (k41 : PySem.W.keepIn K (.ref f41) = true)
    (ca_BadProblem : PySem.W.nsIn K mainGlobals "BadProblem" = some (some (.ref C_BadProblem)))
    (ca_BadValues : PySem.W.nsIn K mainGlobals "BadValues" = some (some (.ref C_BadValues)))
    (ca_BadWays : PySem.W.nsIn K mainGlobals "BadWays" = some (some (.ref C_BadWays)))
    (cq_BadProblem : PySem.W.excIn K C_BadProblem [.type "ValueError", .type "Exception", .type "BaseException", .type "object"] "ValueError.__new__" = true) (ck_BadProblem : PySem.W.keepIn K (.ref C_BadProblem) = true)
    (cs_BadProblem : PySem.W.subIn K (.ref C_BadProblem) (.type "BaseException") = some true) (ct_BadProblem : PySem.W.typeIn K (.ref C_BadProblem) = some (.type "type")) (ci_BadProblem : PySem.W.isClsIn K C_BadProblem = true)
    (cq_BadValues : PySem.W.excIn K C_BadValues [.type "ValueError", .type "Exception", .type "BaseException", .type "object"] "ValueError.__new__" = true) (ck_BadValues : PySem.W.keepIn K (.ref C_BadValues) = true)
    (cs_BadValues : PySem.W.subIn K (.ref C_BadValues) (.type "BaseException") = some true) (ct_BadValues : PySem.W.typeIn K (.ref C_BadValues) = some (.type "type")) (ci_BadValues : PySem.W.isClsIn K C_BadValues = true)
    (cq_BadWays : PySem.W.excIn K C_BadWays [.type "ValueError", .type "Exception", .type "BaseException", .type "object"] "ValueError.__new__" = true) (ck_BadWays : PySem.W.keepIn K (.ref C_BadWays) = true)
    (cs_BadWays : PySem.W.subIn K (.ref C_BadWays) (.type "BaseException") = some true) (ct_BadWays : PySem.W.typeIn K (.ref C_BadWays) = some (.type "type")) (ci_BadWays : PySem.W.isClsIn K C_BadWays = true)
    (ex_BadProblem_BadProblem : PySem.W.subIn K (.ref C_BadProblem) (.ref C_BadProblem) = some true)
    (ex_BadValues_BadProblem : PySem.W.subIn K (.ref C_BadValues) (.ref C_BadProblem) = some false)
    (ex_BadWays_BadProblem : PySem.W.subIn K (.ref C_BadWays) (.ref C_BadProblem) = some false)
    (ex_BadProblem_BadWays : PySem.W.subIn K (.ref C_BadProblem) (.ref C_BadWays) = some false)
    (ex_BadValues_BadWays : PySem.W.subIn K (.ref C_BadValues) (.ref C_BadWays) = some false)
    (ex_BadWays_BadWays : PySem.W.subIn K (.ref C_BadWays) (.ref C_BadWays) = some true)
    (ex_BadProblem_BadValues : PySem.W.subIn K (.ref C_BadProblem) (.ref C_BadValues) = some false)
    (ex_BadValues_BadValues : PySem.W.subIn K (.ref C_BadValues) (.ref C_BadValues) = some true)
    (ex_BadWays_BadValues : PySem.W.subIn K (.ref C_BadWays) (.ref C_BadValues) = some false)
    (gc_MOST_NUMBER : PySem.W.nsIn K mainGlobals "MOST_NUMBER" = some (some (.int (1000000) t_MOST_NUMBER)))
    (gc_MOST_SUMS : PySem.W.nsIn K mainGlobals "MOST_SUMS" = some (some (.int (300) t_MOST_SUMS)))
    (gc_MOST_VARIABLES : PySem.W.nsIn K mainGlobals "MOST_VARIABLES" = some (some (.int (60) t_MOST_VARIABLES)))
    (z_isinstance : PySem.W.nsIn K mainGlobals "isinstance" = some none)
    (z_int : PySem.W.nsIn K mainGlobals "int" = some none)
    (z_bool : PySem.W.nsIn K mainGlobals "bool" = some none)
    (z_tuple : PySem.W.nsIn K mainGlobals "tuple" = some none)
    (z_len : PySem.W.nsIn K mainGlobals "len" = some none)
    (z_all : PySem.W.nsIn K mainGlobals "all" = some none)
    (z_zip : PySem.W.nsIn K mainGlobals "zip" = some none)
    (z_str : PySem.W.nsIn K mainGlobals "str" = some none)
    (z_sum : PySem.W.nsIn K mainGlobals "sum" = some none)
    (z_any : PySem.W.nsIn K mainGlobals "any" = some none)
    (z_list : PySem.W.nsIn K mainGlobals "list" = some none)
    (z_reversed : PySem.W.nsIn K mainGlobals "reversed" = some none)
    (z_max : PySem.W.nsIn K mainGlobals "max" = some none)
    (z_sorted : PySem.W.nsIn K mainGlobals "sorted" = some none)
    (z_set : PySem.W.nsIn K mainGlobals "set" = some none)
    (z_range : PySem.W.nsIn K mainGlobals "range" = some none)
    (z_min : PySem.W.nsIn K mainGlobals "min" = some none)
    : ∃ fd : FuncData, (∀ (s : Shared) (v : Value), BindsTo s fd ⟨[v], []⟩ [("script", v)]) ∧ ∀ base : Heap, K.In base → base.Ns mainGlobals mg → FnOk P w K mg base (L2.CX P w) 12 fa fd ["script"] (spLaw K) := by
  have e := hfa.symm.trans (PySem.W.mg_of X G a41)
  cases e
  have F0 := fun_mk (st := s_is_int) l0 c0 k0
  have F1 := fun_mk (st := s_is_index) l1 c1 k1
  have F2 := fun_mk (st := s_is_row) l2 c2 k2
  have F3 := fun_mk (st := s_is_term) l3 c3 k3
  have F4 := fun_mk (st := s_are_terms) l4 c4 k4
  have F5 := fun_mk (st := s_is_sum) l5 c5 k5
  have F6 := fun_mk (st := s_literals_of) l6 c6 k6
  have F7 := fun_mk (st := s_is_way) l7 c7 k7
  have F8 := fun_mk (st := s_are_ways) l8 c8 k8
  have F9 := fun_mk (st := s_within) l9 c9 k9
  have F10 := fun_mk (st := s_are_bits) l10 c10 k10
  have F11 := fun_mk (st := s_is_price) l11 c11 k11
  have F12 := fun_mk (st := s_are_small_terms) l12 c12 k12
  have F13 := fun_mk (st := s_is_small_price) l13 c13 k13
  have F14 := fun_mk (st := s_is_small_sum) l14 c14 k14
  have F15 := fun_mk (st := s_are_small_sums) l15 c15 k15
  have F16 := fun_mk (st := s_is_problem) l16 c16 k16
  have F17 := fun_mk (st := s_need_problem) l17 c17 k17
  have F18 := fun_mk (st := s_is_true) l18 c18 k18
  have F19 := fun_mk (st := s_worth) l19 c19 k19
  have F20 := fun_mk (st := s_keeps) l20 c20 k20
  have F21 := fun_mk (st := s_put_true) l21 c21 k21
  have F22 := fun_mk (st := s_go_back) l22 c22 k22
  have F23 := fun_mk (st := s_gone_back) l23 c23 k23
  have F24 := fun_mk (st := s_highest) l24 c24 k24
  have F25 := fun_mk (st := s_need_ways) l25 c25 k25
  have F26 := fun_mk (st := s_taken_back) l26 c26 k26
  have F27 := fun_mk (st := s_gone_variables) l27 c27 k27
  have F28 := fun_mk (st := s_gone) l28 c28 k28
  have F29 := fun_mk (st := s__law_deck) l29 c29 k29
  have F30 := fun_mk (st := s__law_pick) l30 c30 k30
  have F31 := fun_mk (st := s__law_same) l31 c31 k31
  have F32 := fun_mk (st := s__law_back) l32 c32 k32
  have F33 := fun_mk (st := s__law_gone) l33 c33 k33
  have F34 := fun_mk (st := s__law_save) l34 c34 k34
  have F35 := fun_mk (st := s__law_ways) l35 c35 k35
  have F36 := fun_mk (st := s__law_int) l36 c36 k36
  have F37 := fun_mk (st := s__law_is_sum) l37 c37 k37
  have F38 := fun_mk (st := s__law_is_way) l38 c38 k38
  have F39 := fun_mk (st := s__law_wanted) l39 c39 k39
  have F40 := fun_mk (st := s__law_refused) l40 c40 k40
  have F41 := fun_mk (st := s_law) l41 c41 k41
  have zz_isinstance : mg "isinstance" = none := PySem.W.mg_none_of X G z_isinstance
  have zz_int : mg "int" = none := PySem.W.mg_none_of X G z_int
  have zz_bool : mg "bool" = none := PySem.W.mg_none_of X G z_bool
  have zz_tuple : mg "tuple" = none := PySem.W.mg_none_of X G z_tuple
  have zz_len : mg "len" = none := PySem.W.mg_none_of X G z_len
  have zz_all : mg "all" = none := PySem.W.mg_none_of X G z_all
  have zz_zip : mg "zip" = none := PySem.W.mg_none_of X G z_zip
  have zz_str : mg "str" = none := PySem.W.mg_none_of X G z_str
  have zz_sum : mg "sum" = none := PySem.W.mg_none_of X G z_sum
  have zz_any : mg "any" = none := PySem.W.mg_none_of X G z_any
  have zz_list : mg "list" = none := PySem.W.mg_none_of X G z_list
  have zz_reversed : mg "reversed" = none := PySem.W.mg_none_of X G z_reversed
  have zz_max : mg "max" = none := PySem.W.mg_none_of X G z_max
  have zz_sorted : mg "sorted" = none := PySem.W.mg_none_of X G z_sorted
  have zz_set : mg "set" = none := PySem.W.mg_none_of X G z_set
  have zz_range : mg "range" = none := PySem.W.mg_none_of X G z_range
  have zz_min : mg "min" = none := PySem.W.mg_none_of X G z_min
  have cm_BadProblem : mg "BadProblem" = some (.ref C_BadProblem) := PySem.W.mg_of X G ca_BadProblem
  have cm_BadValues : mg "BadValues" = some (.ref C_BadValues) := PySem.W.mg_of X G ca_BadValues
  have cm_BadWays : mg "BadWays" = some (.ref C_BadWays) := PySem.W.mg_of X G ca_BadWays
  have cg_BadProblem : ClsGood K mg "BadProblem" := ⟨C_BadProblem, _, _, _, _, PySem.F.excBase_ValueError, cq_BadProblem, cm_BadProblem, ck_BadProblem, cs_BadProblem, ct_BadProblem⟩
  have cg_BadValues : ClsGood K mg "BadValues" := ⟨C_BadValues, _, _, _, _, PySem.F.excBase_ValueError, cq_BadValues, cm_BadValues, ck_BadValues, cs_BadValues, ct_BadValues⟩
  have cg_BadWays : ClsGood K mg "BadWays" := ⟨C_BadWays, _, _, _, _, PySem.F.excBase_ValueError, cq_BadWays, cm_BadWays, ck_BadWays, cs_BadWays, ct_BadWays⟩
  have gg_MOST_NUMBER : GlobOk K mg "MOST_NUMBER" c_MOST_NUMBER := ⟨.int (1000000), _, PySem.W.mg_of X G gc_MOST_NUMBER, ⟨_, rfl⟩, fun _ _ _ => .int _⟩
  have gg_MOST_SUMS : GlobOk K mg "MOST_SUMS" c_MOST_SUMS := ⟨.int (300), _, PySem.W.mg_of X G gc_MOST_SUMS, ⟨_, rfl⟩, fun _ _ _ => .int _⟩
  have gg_MOST_VARIABLES : GlobOk K mg "MOST_VARIABLES" c_MOST_VARIABLES := ⟨.int (60), _, PySem.W.mg_of X G gc_MOST_VARIABLES, ⟨_, rfl⟩, fun _ _ _ => .int _⟩
  refine ⟨PySem.W.fnOf "law" "law" (defArgs s_law) (defBody s_law) (defScope s_law) .none kV41 dc41 pm41 an41 cd41 ct41, fun s v => .of_eq rfl, fun base _ _ => ?_⟩
  have n0 : HasP P w K mg base 0 (ndB b_is_int) := show HasP P w K mg base 0 [.bn "isinstance", .bn "int", .bn "isinstance", .bn "bool"] from (HasP.cons zz_isinstance (HasP.cons zz_int (HasP.cons zz_isinstance (HasP.cons zz_bool HasP.nil))))
  have o0 : FnOk P w K mg base (L2.CX P w) 1 f0 _ f_is_int.ps (spFn K mg f_is_int) := fn_ok (f := f_is_int) F0 sc_is_int b_is_int ck_is_int n0 (fun _ _ _ _ => ⟨_, rfl⟩)
  have g0 : FnGood P w K mg base 1 f_is_int := fn_good F0 o0 (PySem.W.mg_of X G a0) (F0.binds (ps := ["thing"]) fun _ _ _ _ _ _ us hl => match us, hl with | [_], _ => rfl) kps_nil
  have n1 : HasP P w K mg base 1 (ndB b_is_index) := show HasP P w K mg base 1 [.fn f_is_int] from (HasP.cons (g0.mono (by decide)) HasP.nil)
  have o1 : FnOk P w K mg base (L2.CX P w) 2 f1 _ f_is_index.ps (spFn K mg f_is_index) := fn_ok (f := f_is_index) F1 sc_is_index b_is_index ck_is_index n1 (fun _ _ _ _ => ⟨_, rfl⟩)
  have g1 : FnGood P w K mg base 2 f_is_index := fn_good F1 o1 (PySem.W.mg_of X G a1) (F1.binds (ps := ["thing"]) fun _ _ _ _ _ _ us hl => match us, hl with | [_], _ => rfl) kps_nil
  have n2 : HasP P w K mg base 0 (ndB b_is_row) := show HasP P w K mg base 0 [.bn "isinstance", .bn "tuple", .bn "len"] from (HasP.cons zz_isinstance (HasP.cons zz_tuple (HasP.cons zz_len HasP.nil)))
  have o2 : FnOk P w K mg base (L2.CX P w) 1 f2 _ f_is_row.ps (spFn K mg f_is_row) := fn_ok (f := f_is_row) F2 sc_is_row b_is_row ck_is_row n2 (fun _ _ _ _ => ⟨_, rfl⟩)
  have g2 : FnGood P w K mg base 1 f_is_row := fn_good F2 o2 (PySem.W.mg_of X G a2) (F2.binds (ps := ["thing", "low", "high"]) fun _ _ _ _ _ _ us hl => match us, hl with | [_, _, _], _ => rfl) kps_nil
  have n3 : HasP P w K mg base 2 (ndB b_is_term) := show HasP P w K mg base 2 [.fn f_is_row, .fn f_is_index, .fn f_is_int] from (HasP.cons (g2.mono (by decide)) (HasP.cons (g1.mono (by decide)) (HasP.cons (g0.mono (by decide)) HasP.nil)))
  have o3 : FnOk P w K mg base (L2.CX P w) 3 f3 _ f_is_term.ps (spFn K mg f_is_term) := fn_ok (f := f_is_term) F3 sc_is_term b_is_term ck_is_term n3 (fun _ _ _ _ => ⟨_, rfl⟩)
  have g3 : FnGood P w K mg base 3 f_is_term := fn_good F3 o3 (PySem.W.mg_of X G a3) (F3.binds (ps := ["thing"]) fun _ _ _ _ _ _ us hl => match us, hl with | [_], _ => rfl) kps_nil
  have n4 : HasP P w K mg base 3 (ndB b_are_terms) := show HasP P w K mg base 3 [.bn "isinstance", .bn "tuple", .bn "all", .fn f_is_term, .bn "all", .bn "zip"] from (HasP.cons zz_isinstance (HasP.cons zz_tuple (HasP.cons zz_all (HasP.cons (g3.mono (by decide)) (HasP.cons zz_all (HasP.cons zz_zip HasP.nil))))))
  have o4 : FnOk P w K mg base (L2.CX P w) 4 f4 _ f_are_terms.ps (spFn K mg f_are_terms) := fn_ok (f := f_are_terms) F4 sc_are_terms b_are_terms ck_are_terms n4 (fun _ _ _ _ => ⟨_, rfl⟩)
  have g4 : FnGood P w K mg base 4 f_are_terms := fn_good F4 o4 (PySem.W.mg_of X G a4) (F4.binds (ps := ["thing"]) fun _ _ _ _ _ _ us hl => match us, hl with | [_], _ => rfl) kps_nil
  have n5 : HasP P w K mg base 4 (ndB b_is_sum) := show HasP P w K mg base 4 [.fn f_is_row, .fn f_are_terms, .fn f_is_int] from (HasP.cons (g2.mono (by decide)) (HasP.cons (g4.mono (by decide)) (HasP.cons (g0.mono (by decide)) HasP.nil)))
  have o5 : FnOk P w K mg base (L2.CX P w) 5 f5 _ f_is_sum.ps (spFn K mg f_is_sum) := fn_ok (f := f_is_sum) F5 sc_is_sum b_is_sum ck_is_sum n5 (fun _ _ _ _ => ⟨_, rfl⟩)
  have g5 : FnGood P w K mg base 5 f_is_sum := fn_good F5 o5 (PySem.W.mg_of X G a5) (F5.binds (ps := ["thing"]) fun _ _ _ _ _ _ us hl => match us, hl with | [_], _ => rfl) kps_nil
  have n6 : HasP P w K mg base 0 (ndB b_literals_of) := show HasP P w K mg base 0 [.bn "tuple"] from (HasP.cons zz_tuple HasP.nil)
  have o6 : FnOk P w K mg base (L2.CX P w) 1 f6 _ f_literals_of.ps (spFn K mg f_literals_of) := fn_ok (f := f_literals_of) F6 sc_literals_of b_literals_of ck_literals_of n6 (fun _ _ _ _ => ⟨_, rfl⟩)
  have g6 : FnGood P w K mg base 1 f_literals_of := fn_good F6 o6 (PySem.W.mg_of X G a6) (F6.binds (ps := ["one"]) fun _ _ _ _ _ _ us hl => match us, hl with | [_], _ => rfl) kps_nil
  have n7 : HasP P w K mg base 5 (ndB b_is_way) := show HasP P w K mg base 5 [.fn f_is_row, .bn "isinstance", .bn "str", .bn "len", .fn f_is_index, .bn "len", .fn f_is_index, .fn f_is_index, .bn "len", .fn f_is_index, .bn "isinstance", .bn "tuple", .bn "all", .fn f_is_sum, .fn f_literals_of] from (HasP.cons (g2.mono (by decide)) (HasP.cons zz_isinstance (HasP.cons zz_str (HasP.cons zz_len (HasP.cons (g1.mono (by decide)) (HasP.cons zz_len (HasP.cons (g1.mono (by decide)) (HasP.cons (g1.mono (by decide)) (HasP.cons zz_len (HasP.cons (g1.mono (by decide)) (HasP.cons zz_isinstance (HasP.cons zz_tuple (HasP.cons zz_all (HasP.cons (g5.mono (by decide)) (HasP.cons (g6.mono (by decide)) HasP.nil)))))))))))))))
  have o7 : FnOk P w K mg base (L2.CX P w) 6 f7 _ f_is_way.ps (spFn K mg f_is_way) := fn_ok (f := f_is_way) F7 sc_is_way b_is_way ck_is_way n7 (fun _ _ _ _ => ⟨_, rfl⟩)
  have g7 : FnGood P w K mg base 6 f_is_way := fn_good F7 o7 (PySem.W.mg_of X G a7) (F7.binds (ps := ["thing"]) fun _ _ _ _ _ _ us hl => match us, hl with | [_], _ => rfl) kps_nil
  have n8 : HasP P w K mg base 6 (ndB b_are_ways) := show HasP P w K mg base 6 [.bn "isinstance", .bn "tuple", .bn "all", .fn f_is_way] from (HasP.cons zz_isinstance (HasP.cons zz_tuple (HasP.cons zz_all (HasP.cons (g7.mono (by decide)) HasP.nil))))
  have o8 : FnOk P w K mg base (L2.CX P w) 7 f8 _ f_are_ways.ps (spFn K mg f_are_ways) := fn_ok (f := f_are_ways) F8 sc_are_ways b_are_ways ck_are_ways n8 (fun _ _ _ _ => ⟨_, rfl⟩)
  have g8 : FnGood P w K mg base 7 f_are_ways := fn_good F8 o8 (PySem.W.mg_of X G a8) (F8.binds (ps := ["thing"]) fun _ _ _ _ _ _ us hl => match us, hl with | [_], _ => rfl) (kps_cons (fun s us ws h1 h2 => match us, ws, h1, h2 with | [], [_], _, _ => .of_eq rfl) kps_nil)
  have n9 : HasP P w K mg base 1 (ndB b_within) := show HasP P w K mg base 1 [.fn f_is_int] from (HasP.cons (g0.mono (by decide)) HasP.nil)
  have o9 : FnOk P w K mg base (L2.CX P w) 2 f9 _ f_within.ps (spFn K mg f_within) := fn_ok (f := f_within) F9 sc_within b_within ck_within n9 (fun _ _ _ _ => ⟨_, rfl⟩)
  have g9 : FnGood P w K mg base 2 f_within := fn_good F9 o9 (PySem.W.mg_of X G a9) (F9.binds (ps := ["thing", "low", "high"]) fun _ _ _ _ _ _ us hl => match us, hl with | [_, _, _], _ => rfl) kps_nil
  have n10 : HasP P w K mg base 2 (ndB b_are_bits) := show HasP P w K mg base 2 [.fn f_is_row, .bn "all", .fn f_within] from (HasP.cons (g2.mono (by decide)) (HasP.cons zz_all (HasP.cons (g9.mono (by decide)) HasP.nil)))
  have o10 : FnOk P w K mg base (L2.CX P w) 3 f10 _ f_are_bits.ps (spFn K mg f_are_bits) := fn_ok (f := f_are_bits) F10 sc_are_bits b_are_bits ck_are_bits n10 (fun _ _ _ _ => ⟨_, rfl⟩)
  have g10 : FnGood P w K mg base 3 f_are_bits := fn_good F10 o10 (PySem.W.mg_of X G a10) (F10.binds (ps := ["thing", "low", "high"]) fun _ _ _ _ _ _ us hl => match us, hl with | [_, _, _], _ => rfl) kps_nil
  have n11 : HasP P w K mg base 4 (ndB b_is_price) := show HasP P w K mg base 4 [.fn f_is_row, .fn f_are_terms, .fn f_is_int] from (HasP.cons (g2.mono (by decide)) (HasP.cons (g4.mono (by decide)) (HasP.cons (g0.mono (by decide)) HasP.nil)))
  have o11 : FnOk P w K mg base (L2.CX P w) 5 f11 _ f_is_price.ps (spFn K mg f_is_price) := fn_ok (f := f_is_price) F11 sc_is_price b_is_price ck_is_price n11 (fun _ _ _ _ => ⟨_, rfl⟩)
  have g11 : FnGood P w K mg base 5 f_is_price := fn_good F11 o11 (PySem.W.mg_of X G a11) (F11.binds (ps := ["thing"]) fun _ _ _ _ _ _ us hl => match us, hl with | [_], _ => rfl) kps_nil
  have n12 : HasP P w K mg base 0 (ndB b_are_small_terms) := show HasP P w K mg base 0 [.bn "all", .gl "MOST_NUMBER" c_MOST_NUMBER] from (HasP.cons zz_all (HasP.cons gg_MOST_NUMBER HasP.nil))
  have o12 : FnOk P w K mg base (L2.CX P w) 1 f12 _ f_are_small_terms.ps (spFn K mg f_are_small_terms) := fn_ok (f := f_are_small_terms) F12 sc_are_small_terms b_are_small_terms ck_are_small_terms n12 (fun _ _ _ _ => ⟨_, rfl⟩)
  have g12 : FnGood P w K mg base 1 f_are_small_terms := fn_good F12 o12 (PySem.W.mg_of X G a12) (F12.binds (ps := ["many", "terms"]) fun _ _ _ _ _ _ us hl => match us, hl with | [_, _], _ => rfl) kps_nil
  have n13 : HasP P w K mg base 5 (ndB b_is_small_price) := show HasP P w K mg base 5 [.fn f_is_price, .fn f_are_small_terms, .fn f_within, .gl "MOST_NUMBER" c_MOST_NUMBER, .gl "MOST_NUMBER" c_MOST_NUMBER] from (HasP.cons (g11.mono (by decide)) (HasP.cons (g12.mono (by decide)) (HasP.cons (g9.mono (by decide)) (HasP.cons gg_MOST_NUMBER (HasP.cons gg_MOST_NUMBER HasP.nil)))))
  have o13 : FnOk P w K mg base (L2.CX P w) 6 f13 _ f_is_small_price.ps (spFn K mg f_is_small_price) := fn_ok (f := f_is_small_price) F13 sc_is_small_price b_is_small_price ck_is_small_price n13 (fun _ _ _ _ => ⟨_, rfl⟩)
  have g13 : FnGood P w K mg base 6 f_is_small_price := fn_good F13 o13 (PySem.W.mg_of X G a13) (F13.binds (ps := ["many", "thing"]) fun _ _ _ _ _ _ us hl => match us, hl with | [_, _], _ => rfl) kps_nil
  have n14 : HasP P w K mg base 5 (ndB b_is_small_sum) := show HasP P w K mg base 5 [.fn f_is_sum, .fn f_are_small_terms, .fn f_within, .gl "MOST_NUMBER" c_MOST_NUMBER, .gl "MOST_NUMBER" c_MOST_NUMBER] from (HasP.cons (g5.mono (by decide)) (HasP.cons (g12.mono (by decide)) (HasP.cons (g9.mono (by decide)) (HasP.cons gg_MOST_NUMBER (HasP.cons gg_MOST_NUMBER HasP.nil)))))
  have o14 : FnOk P w K mg base (L2.CX P w) 6 f14 _ f_is_small_sum.ps (spFn K mg f_is_small_sum) := fn_ok (f := f_is_small_sum) F14 sc_is_small_sum b_is_small_sum ck_is_small_sum n14 (fun _ _ _ _ => ⟨_, rfl⟩)
  have g14 : FnGood P w K mg base 6 f_is_small_sum := fn_good F14 o14 (PySem.W.mg_of X G a14) (F14.binds (ps := ["many", "thing"]) fun _ _ _ _ _ _ us hl => match us, hl with | [_, _], _ => rfl) kps_nil
  have n15 : HasP P w K mg base 6 (ndB b_are_small_sums) := show HasP P w K mg base 6 [.fn f_is_row, .gl "MOST_SUMS" c_MOST_SUMS, .bn "all", .fn f_is_small_sum] from (HasP.cons (g2.mono (by decide)) (HasP.cons gg_MOST_SUMS (HasP.cons zz_all (HasP.cons (g14.mono (by decide)) HasP.nil))))
  have o15 : FnOk P w K mg base (L2.CX P w) 7 f15 _ f_are_small_sums.ps (spFn K mg f_are_small_sums) := fn_ok (f := f_are_small_sums) F15 sc_are_small_sums b_are_small_sums ck_are_small_sums n15 (fun _ _ _ _ => ⟨_, rfl⟩)
  have g15 : FnGood P w K mg base 7 f_are_small_sums := fn_good F15 o15 (PySem.W.mg_of X G a15) (F15.binds (ps := ["many", "thing"]) fun _ _ _ _ _ _ us hl => match us, hl with | [_, _], _ => rfl) kps_nil
  have n16 : HasP P w K mg base 7 (ndB b_is_problem) := show HasP P w K mg base 7 [.fn f_is_row, .fn f_within, .gl "MOST_VARIABLES" c_MOST_VARIABLES, .fn f_are_small_sums, .fn f_is_small_price] from (HasP.cons (g2.mono (by decide)) (HasP.cons (g9.mono (by decide)) (HasP.cons gg_MOST_VARIABLES (HasP.cons (g15.mono (by decide)) (HasP.cons (g13.mono (by decide)) HasP.nil)))))
  have o16 : FnOk P w K mg base (L2.CX P w) 8 f16 _ f_is_problem.ps (spFn K mg f_is_problem) := fn_ok (f := f_is_problem) F16 sc_is_problem b_is_problem ck_is_problem n16 (fun _ _ _ _ => ⟨_, rfl⟩)
  have g16 : FnGood P w K mg base 8 f_is_problem := fn_good F16 o16 (PySem.W.mg_of X G a16) (F16.binds (ps := ["thing"]) fun _ _ _ _ _ _ us hl => match us, hl with | [_], _ => rfl) kps_nil
  have n17 : HasP P w K mg base 8 (ndB b_need_problem) := show HasP P w K mg base 8 [.fn f_is_problem, .cl "BadProblem"] from (HasP.cons (g16.mono (by decide)) (HasP.cons cg_BadProblem HasP.nil))
  have o17 : FnOk P w K mg base (L2.CX P w) 9 f17 _ f_need_problem.ps (spFn K mg f_need_problem) := fn_ok (f := f_need_problem) F17 sc_need_problem b_need_problem ck_need_problem n17 (fun _ _ _ _ => ⟨_, rfl⟩)
  have g17 : FnGood P w K mg base 9 f_need_problem := fn_good F17 o17 (PySem.W.mg_of X G a17) (F17.binds (ps := ["problem"]) fun _ _ _ _ _ _ us hl => match us, hl with | [_], _ => rfl) kps_nil
  have n18 : HasP P w K mg base 0 (ndB b_is_true) := show HasP P w K mg base 0 [] from HasP.nil
  have o18 : FnOk P w K mg base (L2.CX P w) 1 f18 _ f_is_true.ps (spFn K mg f_is_true) := fn_ok (f := f_is_true) F18 sc_is_true b_is_true ck_is_true n18 (fun _ _ _ _ => ⟨_, rfl⟩)
  have g18 : FnGood P w K mg base 1 f_is_true := fn_good F18 o18 (PySem.W.mg_of X G a18) (F18.binds (ps := ["literal", "values"]) fun _ _ _ _ _ _ us hl => match us, hl with | [_, _], _ => rfl) kps_nil
  have n19 : HasP P w K mg base 1 (ndB b_worth) := show HasP P w K mg base 1 [.bn "sum", .fn f_is_true] from (HasP.cons zz_sum (HasP.cons (g18.mono (by decide)) HasP.nil))
  have o19 : FnOk P w K mg base (L2.CX P w) 2 f19 _ f_worth.ps (spFn K mg f_worth) := fn_ok (f := f_worth) F19 sc_worth b_worth ck_worth n19 (fun _ _ _ _ => ⟨_, rfl⟩)
  have g19 : FnGood P w K mg base 2 f_worth := fn_good F19 o19 (PySem.W.mg_of X G a19) (F19.binds (ps := ["one", "values"]) fun _ _ _ _ _ _ us hl => match us, hl with | [_, _], _ => rfl) kps_nil
  have n20 : HasP P w K mg base 2 (ndB b_keeps) := show HasP P w K mg base 2 [.fn f_worth] from (HasP.cons (g19.mono (by decide)) HasP.nil)
  have o20 : FnOk P w K mg base (L2.CX P w) 3 f20 _ f_keeps.ps (spFn K mg f_keeps) := fn_ok (f := f_keeps) F20 sc_keeps b_keeps ck_keeps n20 (fun _ _ _ _ => ⟨_, rfl⟩)
  have g20 : FnGood P w K mg base 3 f_keeps := fn_good F20 o20 (PySem.W.mg_of X G a20) (F20.binds (ps := ["one", "values"]) fun _ _ _ _ _ _ us hl => match us, hl with | [_, _], _ => rfl) kps_nil
  have n21 : HasP P w K mg base 0 (ndB b_put_true) := show HasP P w K mg base 0 [.bn "int"] from (HasP.cons zz_int HasP.nil)
  have o21 : FnOk P w K mg base (L2.CX P w) 1 f21 _ f_put_true.ps (spFn K mg f_put_true) := fn_ok (f := f_put_true) F21 sc_put_true b_put_true ck_put_true n21 (fun _ _ _ _ => ⟨_, rfl⟩)
  have g21 : FnGood P w K mg base 1 f_put_true := fn_good F21 o21 (PySem.W.mg_of X G a21) (F21.binds (ps := ["values", "literal", "truth"]) fun _ _ _ _ _ _ us hl => match us, hl with | [_, _, _], _ => rfl) kps_nil
  have n22 : HasP P w K mg base 3 (ndB b_go_back) := show HasP P w K mg base 3 [.fn f_put_true, .fn f_put_true, .fn f_is_true, .fn f_put_true, .fn f_put_true, .bn "any", .fn f_keeps] from (HasP.cons (g21.mono (by decide)) (HasP.cons (g21.mono (by decide)) (HasP.cons (g18.mono (by decide)) (HasP.cons (g21.mono (by decide)) (HasP.cons (g21.mono (by decide)) (HasP.cons zz_any (HasP.cons (g20.mono (by decide)) HasP.nil)))))))
  have o22 : FnOk P w K mg base (L2.CX P w) 4 f22 _ f_go_back.ps (spFn K mg f_go_back) := fn_ok (f := f_go_back) F22 sc_go_back b_go_back ck_go_back n22 (fun _ _ _ _ => ⟨_, rfl⟩)
  have g22 : FnGood P w K mg base 4 f_go_back := fn_good F22 o22 (PySem.W.mg_of X G a22) (F22.binds (ps := ["values", "way"]) fun _ _ _ _ _ _ us hl => match us, hl with | [_, _], _ => rfl) kps_nil
  have n23 : HasP P w K mg base 4 (ndB b_gone_back) := show HasP P w K mg base 4 [.bn "list", .bn "reversed", .fn f_go_back] from (HasP.cons zz_list (HasP.cons zz_reversed (HasP.cons (g22.mono (by decide)) HasP.nil)))
  have o23 : FnOk P w K mg base (L2.CX P w) 5 f23 _ f_gone_back.ps (spFn K mg f_gone_back) := fn_ok (f := f_gone_back) F23 sc_gone_back b_gone_back ck_gone_back n23 (fun _ _ _ _ => ⟨_, rfl⟩)
  have g23 : FnGood P w K mg base 5 f_gone_back := fn_good F23 o23 (PySem.W.mg_of X G a23) (F23.binds (ps := ["ways", "values"]) fun _ _ _ _ _ _ us hl => match us, hl with | [_, _], _ => rfl) kps_nil
  have n24 : HasP P w K mg base 0 (ndB b_highest) := show HasP P w K mg base 0 [.bn "max", .bn "max"] from (HasP.cons zz_max (HasP.cons zz_max HasP.nil))
  have o24 : FnOk P w K mg base (L2.CX P w) 1 f24 _ f_highest.ps (spFn K mg f_highest) := fn_ok (f := f_highest) F24 sc_highest b_highest ck_highest n24 (fun _ _ _ _ => ⟨_, rfl⟩)
  have g24 : FnGood P w K mg base 1 f_highest := fn_good F24 o24 (PySem.W.mg_of X G a24) (F24.binds (ps := ["way"]) fun _ _ _ _ _ _ us hl => match us, hl with | [_], _ => rfl) kps_nil
  have n25 : HasP P w K mg base 7 (ndB b_need_ways) := show HasP P w K mg base 7 [.fn f_are_ways, .cl "BadWays"] from (HasP.cons (g8.mono (by decide)) (HasP.cons cg_BadWays HasP.nil))
  have o25 : FnOk P w K mg base (L2.CX P w) 8 f25 _ f_need_ways.ps (spFn K mg f_need_ways) := fn_ok (f := f_need_ways) F25 sc_need_ways b_need_ways ck_need_ways n25 (fun _ _ _ _ => ⟨_, rfl⟩)
  have g25 : FnGood P w K mg base 8 f_need_ways := fn_good F25 o25 (PySem.W.mg_of X G a25) (F25.binds (ps := ["ways"]) fun _ _ _ _ _ _ us hl => match us, hl with | [_], _ => rfl) kps_nil
  have n26 : HasP P w K mg base 9 (ndB b_taken_back) := show HasP P w K mg base 9 [.fn f_need_problem, .fn f_need_ways, .bn "max", .fn f_highest, .bn "isinstance", .bn "tuple", .bn "len", .fn f_are_bits, .bn "len", .cl "BadValues", .bn "tuple", .fn f_gone_back] from (HasP.cons (g17.mono (by decide)) (HasP.cons (g25.mono (by decide)) (HasP.cons zz_max (HasP.cons (g24.mono (by decide)) (HasP.cons zz_isinstance (HasP.cons zz_tuple (HasP.cons zz_len (HasP.cons (g10.mono (by decide)) (HasP.cons zz_len (HasP.cons cg_BadValues (HasP.cons zz_tuple (HasP.cons (g23.mono (by decide)) HasP.nil))))))))))))
  have o26 : FnOk P w K mg base (L2.CX P w) 10 f26 _ f_taken_back.ps (spFn K mg f_taken_back) := fn_ok (f := f_taken_back) F26 sc_taken_back b_taken_back ck_taken_back n26 (fun _ _ _ _ => ⟨_, rfl⟩)
  have g26 : FnGood P w K mg base 10 f_taken_back := fn_good F26 o26 (PySem.W.mg_of X G a26) (F26.binds (ps := ["problem", "ways", "values"]) fun _ _ _ _ _ _ us hl => match us, hl with | [_, _, _], _ => rfl) (kps_cons (fun s us ws h1 h2 => match us, ws, h1, h2 with | [], [_, _, _], _, _ => .of_eq rfl) (kps_cons (fun s us ws h1 h2 => match us, ws, h1, h2 with | [], [_, _, _], _, _ => .of_eq rfl) kps_nil))
  have n27 : HasP P w K mg base 0 (ndB b_gone_variables) := show HasP P w K mg base 0 [.bn "sorted", .bn "set"] from (HasP.cons zz_sorted (HasP.cons zz_set HasP.nil))
  have o27 : FnOk P w K mg base (L2.CX P w) 1 f27 _ f_gone_variables.ps (spFn K mg f_gone_variables) := fn_ok (f := f_gone_variables) F27 sc_gone_variables b_gone_variables ck_gone_variables n27 (fun _ _ _ _ => ⟨_, rfl⟩)
  have g27 : FnGood P w K mg base 1 f_gone_variables := fn_good F27 o27 (PySem.W.mg_of X G a27) (F27.binds (ps := ["ways"]) fun _ _ _ _ _ _ us hl => match us, hl with | [_], _ => rfl) kps_nil
  have n28 : HasP P w K mg base 8 (ndB b_gone) := show HasP P w K mg base 8 [.fn f_need_ways, .bn "tuple", .fn f_gone_variables] from (HasP.cons (g25.mono (by decide)) (HasP.cons zz_tuple (HasP.cons (g27.mono (by decide)) HasP.nil)))
  have o28 : FnOk P w K mg base (L2.CX P w) 9 f28 _ f_gone.ps (spFn K mg f_gone) := fn_ok (f := f_gone) F28 sc_gone b_gone ck_gone n28 (fun _ _ _ _ => ⟨_, rfl⟩)
  have g28 : FnGood P w K mg base 9 f_gone := fn_good F28 o28 (PySem.W.mg_of X G a28) (F28.binds (ps := ["ways"]) fun _ _ _ _ _ _ us hl => match us, hl with | [_], _ => rfl) (kps_cons (fun s us ws h1 h2 => match us, ws, h1, h2 with | [], [_], _, _ => .of_eq rfl) kps_nil)
  have n29 : HasP P w K mg base 0 (ndB b__law_deck) := show HasP P w K mg base 0 [.bn "int"] from (HasP.cons zz_int HasP.nil)
  have o29 : FnOk P w K mg base (L2.CX P w) 1 f29 _ f__law_deck.ps (spFn K mg f__law_deck) := fn_ok (f := f__law_deck) F29 sc__law_deck b__law_deck ck__law_deck n29 (fun _ _ _ _ => ⟨_, rfl⟩)
  have g29 : FnGood P w K mg base 1 f__law_deck := fn_good F29 o29 (PySem.W.mg_of X G a29) (F29.binds (ps := ["script"]) fun _ _ _ _ _ _ us hl => match us, hl with | [_], _ => rfl) kps_nil
  have n30 : HasP P w K mg base 0 (ndB b__law_pick) := show HasP P w K mg base 0 [.bn "int", .bn "int", .bn "int", .bn "int", .bn "int"] from (HasP.cons zz_int (HasP.cons zz_int (HasP.cons zz_int (HasP.cons zz_int (HasP.cons zz_int HasP.nil)))))
  have o30 : FnOk P w K mg base (L2.CX P w) 1 f30 _ f__law_pick.ps (spFn K mg f__law_pick) := fn_ok (f := f__law_pick) F30 sc__law_pick b__law_pick ck__law_pick n30 (fun _ _ _ _ => ⟨_, rfl⟩)
  have g30 : FnGood P w K mg base 1 f__law_pick := fn_good F30 o30 (PySem.W.mg_of X G a30) (F30.binds (ps := ["deck", "many"]) fun _ _ _ _ _ _ us hl => match us, hl with | [_, _], _ => rfl) kps_nil
  have n31 : HasP P w K mg base 0 (ndB b__law_same) := show HasP P w K mg base 0 [.bn "isinstance", .bn "tuple", .bn "isinstance", .bn "tuple", .bn "len", .bn "len", .bn "range", .bn "len", .bn "isinstance", .bn "bool", .bn "isinstance", .bn "bool", .bn "isinstance", .bn "str", .bn "isinstance", .bn "str", .bn "isinstance", .bn "int", .bn "isinstance", .bn "bool"] from (HasP.cons zz_isinstance (HasP.cons zz_tuple (HasP.cons zz_isinstance (HasP.cons zz_tuple (HasP.cons zz_len (HasP.cons zz_len (HasP.cons zz_range (HasP.cons zz_len (HasP.cons zz_isinstance (HasP.cons zz_bool (HasP.cons zz_isinstance (HasP.cons zz_bool (HasP.cons zz_isinstance (HasP.cons zz_str (HasP.cons zz_isinstance (HasP.cons zz_str (HasP.cons zz_isinstance (HasP.cons zz_int (HasP.cons zz_isinstance (HasP.cons zz_bool HasP.nil))))))))))))))))))))
  have o31 : FnOk P w K mg base (L2.CX P w) 1 f31 _ f__law_same.ps (spFn K mg f__law_same) := fn_ok (f := f__law_same) F31 sc__law_same b__law_same ck__law_same n31 (fun _ _ _ _ => ⟨_, rfl⟩)
  have g31 : FnGood P w K mg base 1 f__law_same := fn_good F31 o31 (PySem.W.mg_of X G a31) (F31.binds (ps := ["told", "due"]) fun _ _ _ _ _ _ us hl => match us, hl with | [_, _], _ => rfl) kps_nil
  have n32 : HasP P w K mg base 0 (ndB b__law_back) := show HasP P w K mg base 0 [.bn "list", .bn "int", .bn "sum", .bn "tuple"] from (HasP.cons zz_list (HasP.cons zz_int (HasP.cons zz_sum (HasP.cons zz_tuple HasP.nil))))
  have o32 : FnOk P w K mg base (L2.CX P w) 1 f32 _ f__law_back.ps (spFn K mg f__law_back) := fn_ok (f := f__law_back) F32 sc__law_back b__law_back ck__law_back n32 (fun _ _ _ _ => ⟨_, rfl⟩)
  have g32 : FnGood P w K mg base 1 f__law_back := fn_good F32 o32 (PySem.W.mg_of X G a32) (F32.binds (ps := ["ways", "values", "many"]) fun _ _ _ _ _ _ us hl => match us, hl with | [_, _, _], _ => rfl) kps_nil
  have n33 : HasP P w K mg base 0 (ndB b__law_gone) := show HasP P w K mg base 0 [.bn "sorted", .bn "set"] from (HasP.cons zz_sorted (HasP.cons zz_set HasP.nil))
  have o33 : FnOk P w K mg base (L2.CX P w) 1 f33 _ f__law_gone.ps (spFn K mg f__law_gone) := fn_ok (f := f__law_gone) F33 sc__law_gone b__law_gone ck__law_gone n33 (fun _ _ _ _ => ⟨_, rfl⟩)
  have g33 : FnGood P w K mg base 1 f__law_gone := fn_good F33 o33 (PySem.W.mg_of X G a33) (F33.binds (ps := ["ways"]) fun _ _ _ _ _ _ us hl => match us, hl with | [_], _ => rfl) kps_nil
  have n34 : HasP P w K mg base 1 (ndB b__law_save) := show HasP P w K mg base 1 [.fn f__law_pick, .bn "range", .fn f__law_pick, .bn "range", .fn f__law_pick, .fn f__law_pick, .fn f__law_pick, .fn f__law_pick, .bn "tuple", .bn "sorted", .fn f__law_pick, .bn "tuple"] from (HasP.cons (g30.mono (by decide)) (HasP.cons zz_range (HasP.cons (g30.mono (by decide)) (HasP.cons zz_range (HasP.cons (g30.mono (by decide)) (HasP.cons (g30.mono (by decide)) (HasP.cons (g30.mono (by decide)) (HasP.cons (g30.mono (by decide)) (HasP.cons zz_tuple (HasP.cons zz_sorted (HasP.cons (g30.mono (by decide)) (HasP.cons zz_tuple HasP.nil))))))))))))
  have o34 : FnOk P w K mg base (L2.CX P w) 2 f34 _ f__law_save.ps (spFn K mg f__law_save) := fn_ok (f := f__law_save) F34 sc__law_save b__law_save ck__law_save n34 (fun _ _ _ _ => ⟨_, rfl⟩)
  have g34 : FnGood P w K mg base 2 f__law_save := fn_good F34 o34 (PySem.W.mg_of X G a34) (F34.binds (ps := ["deck", "most"]) fun _ _ _ _ _ _ us hl => match us, hl with | [_, _], _ => rfl) kps_nil
  have n35 : HasP P w K mg base 2 (ndB b__law_ways) := show HasP P w K mg base 2 [.bn "range", .fn f__law_pick, .fn f__law_pick, .fn f__law_pick, .fn f__law_pick, .fn f__law_save, .fn f__law_pick, .bn "tuple"] from (HasP.cons zz_range (HasP.cons (g30.mono (by decide)) (HasP.cons (g30.mono (by decide)) (HasP.cons (g30.mono (by decide)) (HasP.cons (g30.mono (by decide)) (HasP.cons (g34.mono (by decide)) (HasP.cons (g30.mono (by decide)) (HasP.cons zz_tuple HasP.nil))))))))
  have o35 : FnOk P w K mg base (L2.CX P w) 3 f35 _ f__law_ways.ps (spFn K mg f__law_ways) := fn_ok (f := f__law_ways) F35 sc__law_ways b__law_ways ck__law_ways n35 (fun _ _ _ _ => ⟨_, rfl⟩)
  have g35 : FnGood P w K mg base 3 f__law_ways := fn_good F35 o35 (PySem.W.mg_of X G a35) (F35.binds (ps := ["deck", "most"]) fun _ _ _ _ _ _ us hl => match us, hl with | [_, _], _ => rfl) kps_nil
  have n36 : HasP P w K mg base 0 (ndB b__law_int) := show HasP P w K mg base 0 [.bn "isinstance", .bn "int", .bn "isinstance", .bn "bool"] from (HasP.cons zz_isinstance (HasP.cons zz_int (HasP.cons zz_isinstance (HasP.cons zz_bool HasP.nil))))
  have o36 : FnOk P w K mg base (L2.CX P w) 1 f36 _ f__law_int.ps (spFn K mg f__law_int) := fn_ok (f := f__law_int) F36 sc__law_int b__law_int ck__law_int n36 (fun _ _ _ _ => ⟨_, rfl⟩)
  have g36 : FnGood P w K mg base 1 f__law_int := fn_good F36 o36 (PySem.W.mg_of X G a36) (F36.binds (ps := ["thing", "low", "high"]) fun _ _ _ _ _ _ us hl => match us, hl with | [_, _, _], _ => rfl) kps_nil
  have n37 : HasP P w K mg base 1 (ndB b__law_is_sum) := show HasP P w K mg base 1 [.bn "isinstance", .bn "tuple", .bn "len", .bn "isinstance", .bn "tuple", .fn f__law_int, .bn "isinstance", .bn "tuple", .bn "len", .fn f__law_int, .fn f__law_int] from (HasP.cons zz_isinstance (HasP.cons zz_tuple (HasP.cons zz_len (HasP.cons zz_isinstance (HasP.cons zz_tuple (HasP.cons (g36.mono (by decide)) (HasP.cons zz_isinstance (HasP.cons zz_tuple (HasP.cons zz_len (HasP.cons (g36.mono (by decide)) (HasP.cons (g36.mono (by decide)) HasP.nil)))))))))))
  have o37 : FnOk P w K mg base (L2.CX P w) 2 f37 _ f__law_is_sum.ps (spFn K mg f__law_is_sum) := fn_ok (f := f__law_is_sum) F37 sc__law_is_sum b__law_is_sum ck__law_is_sum n37 (fun _ _ _ _ => ⟨_, rfl⟩)
  have g37 : FnGood P w K mg base 2 f__law_is_sum := fn_good F37 o37 (PySem.W.mg_of X G a37) (F37.binds (ps := ["thing"]) fun _ _ _ _ _ _ us hl => match us, hl with | [_], _ => rfl) kps_nil
  have n38 : HasP P w K mg base 2 (ndB b__law_is_way) := show HasP P w K mg base 2 [.bn "isinstance", .bn "tuple", .bn "len", .bn "isinstance", .bn "str", .bn "len", .fn f__law_int, .fn f__law_int, .fn f__law_int, .bn "isinstance", .bn "tuple", .fn f__law_is_sum] from (HasP.cons zz_isinstance (HasP.cons zz_tuple (HasP.cons zz_len (HasP.cons zz_isinstance (HasP.cons zz_str (HasP.cons zz_len (HasP.cons (g36.mono (by decide)) (HasP.cons (g36.mono (by decide)) (HasP.cons (g36.mono (by decide)) (HasP.cons zz_isinstance (HasP.cons zz_tuple (HasP.cons (g37.mono (by decide)) HasP.nil))))))))))))
  have o38 : FnOk P w K mg base (L2.CX P w) 3 f38 _ f__law_is_way.ps (spFn K mg f__law_is_way) := fn_ok (f := f__law_is_way) F38 sc__law_is_way b__law_is_way ck__law_is_way n38 (fun _ _ _ _ => ⟨_, rfl⟩)
  have g38 : FnGood P w K mg base 3 f__law_is_way := fn_good F38 o38 (PySem.W.mg_of X G a38) (F38.binds (ps := ["thing"]) fun _ _ _ _ _ _ us hl => match us, hl with | [_], _ => rfl) kps_nil
  have n39 : HasP P w K mg base 0 (ndB b__law_wanted) := show HasP P w K mg base 0 [.bn "max"] from (HasP.cons zz_max HasP.nil)
  have o39 : FnOk P w K mg base (L2.CX P w) 1 f39 _ f__law_wanted.ps (spFn K mg f__law_wanted) := fn_ok (f := f__law_wanted) F39 sc__law_wanted b__law_wanted ck__law_wanted n39 (fun _ _ _ _ => ⟨_, rfl⟩)
  have g39 : FnGood P w K mg base 1 f__law_wanted := fn_good F39 o39 (PySem.W.mg_of X G a39) (F39.binds (ps := ["ways"]) fun _ _ _ _ _ _ us hl => match us, hl with | [_], _ => rfl) kps_nil
  have hd0 : HdsGood K mg ["BadProblem", "BadValues", "BadWays"] [("BadProblem", ["BadProblem"], 4, "problem"), ("BadWays", ["BadWays"], 4, "ways"), ("BadValues", ["BadValues"], 4, "values")] := by
    exact (hds_cons (exs_cons ⟨C_BadProblem, C_BadProblem, cm_BadProblem, cm_BadProblem, exm_of cs_BadProblem ci_BadProblem ct_BadProblem ex_BadProblem_BadProblem⟩ (exs_cons ⟨C_BadValues, C_BadProblem, cm_BadValues, cm_BadProblem, exm_of cs_BadProblem ci_BadProblem ct_BadProblem ex_BadValues_BadProblem⟩ (exs_cons ⟨C_BadWays, C_BadProblem, cm_BadWays, cm_BadProblem, exm_of cs_BadProblem ci_BadProblem ct_BadProblem ex_BadWays_BadProblem⟩ exs_nil))) (hds_cons (exs_cons ⟨C_BadProblem, C_BadWays, cm_BadProblem, cm_BadWays, exm_of cs_BadWays ci_BadWays ct_BadWays ex_BadProblem_BadWays⟩ (exs_cons ⟨C_BadValues, C_BadWays, cm_BadValues, cm_BadWays, exm_of cs_BadWays ci_BadWays ct_BadWays ex_BadValues_BadWays⟩ (exs_cons ⟨C_BadWays, C_BadWays, cm_BadWays, cm_BadWays, exm_of cs_BadWays ci_BadWays ct_BadWays ex_BadWays_BadWays⟩ exs_nil))) (hds_cons (exs_cons ⟨C_BadProblem, C_BadValues, cm_BadProblem, cm_BadValues, exm_of cs_BadValues ci_BadValues ct_BadValues ex_BadProblem_BadValues⟩ (exs_cons ⟨C_BadValues, C_BadValues, cm_BadValues, cm_BadValues, exm_of cs_BadValues ci_BadValues ct_BadValues ex_BadValues_BadValues⟩ (exs_cons ⟨C_BadWays, C_BadValues, cm_BadWays, cm_BadValues, exm_of cs_BadValues ci_BadValues ct_BadValues ex_BadWays_BadValues⟩ exs_nil))) hds_nil)))
  have n40 : HasP P w K mg base 10 (ndB b__law_refused) := show HasP P w K mg base 10 [.hd ["BadProblem", "BadValues", "BadWays"] [("BadProblem", ["BadProblem"], 4, "problem"), ("BadWays", ["BadWays"], 4, "ways"), ("BadValues", ["BadValues"], 4, "values")], .fn f_taken_back, .fn f_gone] from (HasP.cons hd0 (HasP.cons (g26.mono (by decide)) (HasP.cons (g28.mono (by decide)) HasP.nil)))
  have o40 : FnOk P w K mg base (L2.CX P w) 11 f40 _ f__law_refused.ps (spFn K mg f__law_refused) := fn_ok (f := f__law_refused) F40 sc__law_refused b__law_refused ck__law_refused n40 (fun _ _ _ _ => ⟨_, rfl⟩)
  have g40 : FnGood P w K mg base 11 f__law_refused := fn_good F40 o40 (PySem.W.mg_of X G a40) (F40.binds (ps := ["which", "problem", "ways", "values"]) fun _ _ _ _ _ _ us hl => match us, hl with | [_, _, _, _], _ => rfl) kps_nil
  have n41 : HasP P w K mg base 11 (ndB b_law) := show HasP P w K mg base 11 [.fn f__law_deck, .bn "range", .bn "min", .bn "len", .fn f__law_pick, .fn f__law_pick, .fn f__law_ways, .bn "max", .fn f__law_wanted, .bn "tuple", .bn "range", .fn f__law_pick, .fn f__law_pick, .fn f__law_same, .fn f_taken_back, .fn f__law_back, .fn f__law_same, .fn f_gone, .bn "tuple", .fn f__law_gone, .fn f__law_same, .fn f_are_ways, .fn f__law_is_way, .fn f_are_ways, .bn "list", .fn f_are_ways, .bn "list", .fn f__law_pick, .bn "list", .fn f__law_pick, .fn f__law_refused, .fn f__law_refused, .fn f__law_refused, .fn f__law_refused] from (HasP.cons (g29.mono (by decide)) (HasP.cons zz_range (HasP.cons zz_min (HasP.cons zz_len (HasP.cons (g30.mono (by decide)) (HasP.cons (g30.mono (by decide)) (HasP.cons (g35.mono (by decide)) (HasP.cons zz_max (HasP.cons (g39.mono (by decide)) (HasP.cons zz_tuple (HasP.cons zz_range (HasP.cons (g30.mono (by decide)) (HasP.cons (g30.mono (by decide)) (HasP.cons (g31.mono (by decide)) (HasP.cons (g26.mono (by decide)) (HasP.cons (g32.mono (by decide)) (HasP.cons (g31.mono (by decide)) (HasP.cons (g28.mono (by decide)) (HasP.cons zz_tuple (HasP.cons (g33.mono (by decide)) (HasP.cons (g31.mono (by decide)) (HasP.cons (g8.mono (by decide)) (HasP.cons (g38.mono (by decide)) (HasP.cons (g8.mono (by decide)) (HasP.cons zz_list (HasP.cons (g8.mono (by decide)) (HasP.cons zz_list (HasP.cons (g30.mono (by decide)) (HasP.cons zz_list (HasP.cons (g30.mono (by decide)) (HasP.cons (g40.mono (by decide)) (HasP.cons (g40.mono (by decide)) (HasP.cons (g40.mono (by decide)) (HasP.cons (g40.mono (by decide)) HasP.nil))))))))))))))))))))))))))))))))))
  have o41 : FnOk P w K mg base (L2.CX P w) 12 fa _ f_law.ps (spFn K mg f_law) := fn_ok (f := f_law) F41 sc_law b_law ck_law n41 (fun _ _ _ _ => ⟨_, rfl⟩)
  exact o41.imp fun vs H Q E h => law_promise h
end LW
open PySem PySem.W PyProof.Rows
set_option maxHeartbeats 0 in
theorem PySem.Challenge.cw_sumsworn_k30_ways_back_of_sixty_variable_holds : PySem.Challenge.rw_sumsworn_k30_ways_back_of_sixty_variable.Holds := by
  w_on; o_law; k_head; (case hw => w_witness2)
  k_fill
  refine L2.walk_ofB (l := PySem.Challenge.rw_sumsworn_k30_ways_back_of_sixty_variable) (n := 63) (k := 12) (x := "script") (CX := fun w => L2.CX PySem.Challenge.rw_sumsworn_k30_ways_back_of_sixty_variable.prog w) (sp := fun w => PX.spLaw _) rfl (by decide) rfl ⟨rfl, by decide, by decide⟩ (fun w h Y => PySem.W.kIn_of Y) ?F (fun w H a ns hl hb hO hS => PX.spLaw_mk hl hb hO hS) (fun w H s e s' h => PX.cx_none h)
  case F =>
    intro w mg fa h KX G hmg
    refine' LW.all_mk KX G hmg ?a0 ?l0 ?c0 ?k0 ?a1 ?l1 ?c1 ?k1 ?a2 ?l2 ?c2 ?k2 ?a3 ?l3 ?c3 ?k3 ?a4 ?l4 ?c4 ?k4 ?a5 ?l5 ?c5 ?k5 ?a6 ?l6 ?c6 ?k6 ?a7 ?l7 ?c7 ?k7 ?a8 ?l8 ?c8 ?k8 ?a9 ?l9 ?c9 ?k9 ?a10 ?l10 ?c10 ?k10 ?a11 ?l11 ?c11 ?k11 ?a12 ?l12 ?c12 ?k12 ?a13 ?l13 ?c13 ?k13 ?a14 ?l14 ?c14 ?k14 ?a15 ?l15 ?c15 ?k15 ?a16 ?l16 ?c16 ?k16 ?a17 ?l17 ?c17 ?k17 ?a18 ?l18 ?c18 ?k18 ?a19 ?l19 ?c19 ?k19 ?a20 ?l20 ?c20 ?k20 ?a21 ?l21 ?c21 ?k21 ?a22 ?l22 ?c22 ?k22 ?a23 ?l23 ?c23 ?k23 ?a24 ?l24 ?c24 ?k24 ?a25 ?l25 ?c25 ?k25 ?a26 ?l26 ?c26 ?k26 ?a27 ?l27 ?c27 ?k27 ?a28 ?l28 ?c28 ?k28 ?a29 ?l29 ?c29 ?k29 ?a30 ?l30 ?c30 ?k30 ?a31 ?l31 ?c31 ?k31 ?a32 ?l32 ?c32 ?k32 ?a33 ?l33 ?c33 ?k33 ?a34 ?l34 ?c34 ?k34 ?a35 ?l35 ?c35 ?k35 ?a36 ?l36 ?c36 ?k36 ?a37 ?l37 ?c37 ?k37 ?a38 ?l38 ?c38 ?k38 ?a39 ?l39 ?c39 ?k39 ?a40 ?l40 ?c40 ?k40 ?a41 ?l41 ?c41 ?k41 ?ca_BadProblem ?ca_BadValues ?ca_BadWays ?cq_BadProblem ?ck_BadProblem ?cs_BadProblem ?ct_BadProblem ?ci_BadProblem ?cq_BadValues ?ck_BadValues ?cs_BadValues ?ct_BadValues ?ci_BadValues ?cq_BadWays ?ck_BadWays ?cs_BadWays ?ct_BadWays ?ci_BadWays ?ex_BadProblem_BadProblem ?ex_BadValues_BadProblem ?ex_BadWays_BadProblem ?ex_BadProblem_BadWays ?ex_BadValues_BadWays ?ex_BadWays_BadWays ?ex_BadProblem_BadValues ?ex_BadValues_BadValues ?ex_BadWays_BadValues ?gc_MOST_NUMBER ?gc_MOST_SUMS ?gc_MOST_VARIABLES ?z_isinstance ?z_int ?z_bool ?z_tuple ?z_len ?z_all ?z_zip ?z_str ?z_sum ?z_any ?z_list ?z_reversed ?z_max ?z_sorted ?z_set ?z_range ?z_min
    (case a0 => k_is); (case l0 => k_is); (case c0 => k_is); (case k0 => k_is); (case a1 => k_is); (case l1 => k_is)
    (case c1 => k_is); (case k1 => k_is); (case a2 => k_is); (case l2 => k_is); (case c2 => k_is); (case k2 => k_is)
    (case a3 => k_is); (case l3 => k_is); (case c3 => k_is); (case k3 => k_is); (case a4 => k_is); (case l4 => k_is)
    (case c4 => k_is); (case k4 => k_is); (case a5 => k_is); (case l5 => k_is); (case c5 => k_is); (case k5 => k_is)
    (case a6 => k_is); (case l6 => k_is); (case c6 => k_is); (case k6 => k_is); (case a7 => k_is); (case l7 => k_is)
    (case c7 => k_is); (case k7 => k_is); (case a8 => k_is); (case l8 => k_is); (case c8 => k_is); (case k8 => k_is)
    (case a9 => k_is); (case l9 => k_is); (case c9 => k_is); (case k9 => k_is); (case a10 => k_is); (case l10 => k_is)
    (case c10 => k_is); (case k10 => k_is); (case a11 => k_is); (case l11 => k_is); (case c11 => k_is); (case k11 => k_is)
    (case a12 => k_is); (case l12 => k_is); (case c12 => k_is); (case k12 => k_is); (case a13 => k_is); (case l13 => k_is)
    (case c13 => k_is); (case k13 => k_is); (case a14 => k_is); (case l14 => k_is); (case c14 => k_is); (case k14 => k_is)
    (case a15 => k_is); (case l15 => k_is); (case c15 => k_is); (case k15 => k_is); (case a16 => k_is); (case l16 => k_is)
    (case c16 => k_is); (case k16 => k_is); (case a17 => k_is); (case l17 => k_is); (case c17 => k_is); (case k17 => k_is)
    (case a18 => k_is); (case l18 => k_is); (case c18 => k_is); (case k18 => k_is); (case a19 => k_is); (case l19 => k_is)
    (case c19 => k_is); (case k19 => k_is); (case a20 => k_is); (case l20 => k_is); (case c20 => k_is); (case k20 => k_is)
    (case a21 => k_is); (case l21 => k_is); (case c21 => k_is); (case k21 => k_is); (case a22 => k_is); (case l22 => k_is)
    (case c22 => k_is); (case k22 => k_is); (case a23 => k_is); (case l23 => k_is); (case c23 => k_is); (case k23 => k_is)
    (case a24 => k_is); (case l24 => k_is); (case c24 => k_is); (case k24 => k_is); (case a25 => k_is); (case l25 => k_is)
    (case c25 => k_is); (case k25 => k_is); (case a26 => k_is); (case l26 => k_is); (case c26 => k_is); (case k26 => k_is)
    (case a27 => k_is); (case l27 => k_is); (case c27 => k_is); (case k27 => k_is); (case a28 => k_is); (case l28 => k_is)
    (case c28 => k_is); (case k28 => k_is); (case a29 => k_is); (case l29 => k_is); (case c29 => k_is); (case k29 => k_is)
    (case a30 => k_is); (case l30 => k_is); (case c30 => k_is); (case k30 => k_is); (case a31 => k_is); (case l31 => k_is)
    (case c31 => k_is); (case k31 => k_is); (case a32 => k_is); (case l32 => k_is); (case c32 => k_is); (case k32 => k_is)
    (case a33 => k_is); (case l33 => k_is); (case c33 => k_is); (case k33 => k_is); (case a34 => k_is); (case l34 => k_is)
    (case c34 => k_is); (case k34 => k_is); (case a35 => k_is); (case l35 => k_is); (case c35 => k_is); (case k35 => k_is)
    (case a36 => k_is); (case l36 => k_is); (case c36 => k_is); (case k36 => k_is); (case a37 => k_is); (case l37 => k_is)
    (case c37 => k_is); (case k37 => k_is); (case a38 => k_is); (case l38 => k_is); (case c38 => k_is); (case k38 => k_is)
    (case a39 => k_is); (case l39 => k_is); (case c39 => k_is); (case k39 => k_is); (case a40 => k_is); (case l40 => k_is)
    (case c40 => k_is); (case k40 => k_is); (case a41 => k_is); (case l41 => k_is); (case c41 => k_is); (case k41 => k_is)
    (case ca_BadProblem => k_is); (case ca_BadValues => k_is); (case ca_BadWays => k_is); (case cq_BadProblem => k_exc); (case ck_BadProblem => k_is); (case cs_BadProblem => k_is)
    (case ct_BadProblem => k_is); (case ci_BadProblem => k_is); (case cq_BadValues => k_exc); (case ck_BadValues => k_is); (case cs_BadValues => k_is); (case ct_BadValues => k_is)
    (case ci_BadValues => k_is); (case cq_BadWays => k_exc); (case ck_BadWays => k_is); (case cs_BadWays => k_is); (case ct_BadWays => k_is); (case ci_BadWays => k_is)
    (case ex_BadProblem_BadProblem => first | rfl | k_is); (case ex_BadValues_BadProblem => first | rfl | k_is); (case ex_BadWays_BadProblem => first | rfl | k_is); (case ex_BadProblem_BadWays => first | rfl | k_is); (case ex_BadValues_BadWays => first | rfl | k_is); (case ex_BadWays_BadWays => first | rfl | k_is)
    (case ex_BadProblem_BadValues => first | rfl | k_is); (case ex_BadValues_BadValues => first | rfl | k_is); (case ex_BadWays_BadValues => first | rfl | k_is); (case gc_MOST_NUMBER => k_is); (case gc_MOST_SUMS => k_is); (case gc_MOST_VARIABLES => k_is)
    (case z_isinstance => k_is); (case z_int => k_is); (case z_bool => k_is); (case z_tuple => k_is); (case z_len => k_is); (case z_all => k_is)
    (case z_zip => k_is); (case z_str => k_is); (case z_sum => k_is); (case z_any => k_is); (case z_list => k_is); (case z_reversed => k_is)
    (case z_max => k_is); (case z_sorted => k_is); (case z_set => k_is); (case z_range => k_is); (case z_min => k_is)
